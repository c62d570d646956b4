/- What functions of the program answer, and that the law answers true at every input; no condition -/
import Derived.Test.YtpfoleebeamgpaaHasWheelStdHasWheel
set_option linter.all false
/- HasWheel: the program answers as the reference does. -/
namespace Go.Pi.Ytpfoleebeamgpaa.HasWheel
open Go Go.Pi
set_option linter.all false
/-! ### Numbers and rows -/
theorem p51 (a x y : Int) : m51 a x y = some (decide (x ≤ a ∧ a ≤ y)) := by
  simp only [m51, m51_1, bnd_ok, br_bool]
  rw [Option.some.injEq, Bool.eq_iff_iff, decide_eq_true_eq]
  simp only [Bool.and_eq_true, Bool.or_eq_true, Bool.not_eq_true', leI_iff, ltI_iff, leI_not, and_false, or_false, Bool.false_eq_true]
theorem p47 (a x y : Int) : m47 a x y = some (decide (x ≤ a ∧ a ≤ y)) := p51 a x y
theorem any_eqI (l : List Int) (x : Int) : (l.any fun y => eqI y x) = decide (x ∈ l) := by
  rw [Bool.eq_iff_iff, List.any_eq_true, decide_eq_true_eq]
  constructor
  · rintro ⟨y, hy, h⟩; rw [(eqI_iff _ _).1 h] at hy; exact hy
  · intro h; exact ⟨x, h, eqI_self x⟩
theorem p87 (l : List Int) (x : Int) (hl : l.length ≤ 2000000) : m87 l x = some (decide (x ∈ l)) := by
  unfold m87
  have := loop_find (body := m87_1b x l (l.length : Int)) l (fun y => if eqI y x = true then some (.inr ()) else none) (.inl ()) (fun k h => by
    simp only [m87_1b, (ltI_iff (k : Int) (l.length : Int)).2 (by omega), br_true, idx_get h, bnd_ok, wsucc h (by omega)]
    cases eqI l[k] x <;> rfl) (by simp only [m87_1b, (ltI_not (l.length : Int) (l.length : Int)).2 (by omega), br_false])
  rw [this, bnd_ok, ← any_eqI]
  clear this hl
  induction l with
  | nil => rfl
  | cons y t ih =>
    simp only [List.findSome?_cons, List.any_cons]
    cases eqI y x with
    | true => rfl
    | false => simpa using ih
theorem p89 (l : List Int) (x : Int) (hl : l.length ≤ 2000000) : m89 l x = some (decide (x ∈ l)) := by
  unfold m89
  have h2 : m101 l x = some (match findI (fun y => eqI y x) l with | none => -1 | some i => (i : Int)) := by
    unfold m101
    have h3 := loop_index (body := m101_1b l x (l.length : Int)) l (f := fun y => some (eqI x y)) (fun y => eqI y x) (fun y _ => by rw [Option.some.injEq, Bool.eq_iff_iff, eqI_iff, eqI_iff]; exact ⟨fun h => h.symm, fun h => h.symm⟩) (by omega) (fun s => by simp only [m101_1b, bnd_ok])
    rw [h3, bnd_ok]
    cases findI (fun y => eqI y x) l <;> rfl
  rw [h2, bnd_ok, ← any_eqI]
  exact congrArg some (containsFunc (p := fun y => eqI y x) (xs := l))
theorem eqTwo (a b : List Int) (h : a.length = b.length) : allN a.length (fun k => match a[k]?, b[k]? with | some x, some y => eqI x y | _, _ => false) = decide (a = b) := by
  rw [Bool.eq_iff_iff, allN_iff, decide_eq_true_eq]
  constructor
  · intro hk
    refine List.ext_getElem h fun i h1 h2 => ?_
    have := hk i h1
    rw [List.getElem?_eq_getElem h1, List.getElem?_eq_getElem h2] at this
    exact (eqI_iff _ _).1 this
  · rintro rfl k hk
    rw [List.getElem?_eq_getElem hk]
    exact eqI_self _
theorem eqLoop (a b : List Int) (hl : a.length ≤ 2000000) {body : Int → Option (Ctl Int (Unit ⊕ Unit))}
    (hb : ∀ s, body s = br (ltI s (a.length : Int)) (bnd (idx a s) fun x => bnd (idx b s) fun y => br (eqI x y) (some (.nxt (wadd .i64 s 1))) (some (.out (.inr ())))) (some (.out (.inl ())))) :
    br (eqI (a.length : Int) (b.length : Int)) (bnd (loopP body 0) fun o => selS o (fun _ => some true) (fun _ => some false)) (some false) = some (decide (a = b)) := by
  by_cases h : a.length = b.length
  · rw [(eqI_iff _ _).2 (by omega), br_true, loop_all a.length (fun k => match a[k]?, b[k]? with | some x, some y => eqI x y | _, _ => false) (.inl ()) (.inr ()) (fun k hk => by
      have hk2 : k < b.length := by omega
      rw [hb, (ltI_iff (k : Int) (a.length : Int)).2 (by omega), br_true, idx_get hk, bnd_ok, idx_get hk2, bnd_ok, List.getElem?_eq_getElem hk, List.getElem?_eq_getElem hk2, wsucc hk (by omega)]
      show _ = some (if eqI a[k] b[k] = true then _ else _)
      cases eqI a[k] b[k] <;> rfl) (by rw [hb, (ltI_not (a.length : Int) (a.length : Int)).2 (by omega), br_false]), bnd_ok, eqTwo a b h]
    by_cases hab : a = b
    · rw [decide_eq_true hab]; rfl
    · rw [decide_eq_false hab]; rfl
  · rw [(eqI_not _ _).2 (by omega), br_false, decide_eq_false (fun e => h (by rw [e]))]
theorem p79 (a b : List Int) (hl : a.length ≤ 2000000) : m79 a b = some (decide (a = b)) := eqLoop a b hl (body := m79_1b a b (a.length : Int)) (fun s => rfl)
theorem p55 (a b : List Int) (hl : a.length ≤ 2000000) : m55 a b = some (decide (a = b)) := eqLoop a b hl (body := m55_1b a b (a.length : Int)) (fun s => rfl)
/-! ### Problems -/
/-- Small ones. -/
def Sm (s : Spp) : Prop := s.ranked.length ≤ 2000000 ∧ ∀ w ∈ s.ranked, w.length ≤ 2000000 ∧ ∀ p ∈ w, p.length ≤ 2000000
def atW (w : List (List Int)) (p : List Int) : Int := match findI (fun q => decide (q = p)) w with | none => -1 | some i => (i : Int)
theorem p49 (s : Spp) (hs : Sm s) (k : Nat) (hk : k < s.ranked.length) (a : Int) (ha : a = (k : Int) + 1) (p : List Int) : m49 s a p = some (atW s.ranked[k] p) := by
  have ha1 : wsub .i64 a 1 = (k : Int) := by have := hs.1; rw [wsub64 (by omega) (by omega)]; omega
  obtain ⟨h1, h2⟩ := hs.2 _ (List.getElem_mem hk)
  have h3 := loop_index (body := m49_1b p s.ranked[k] (s.ranked[k].length : Int)) s.ranked[k] (f := fun q => m79 q p) (fun q => decide (q = p)) (fun q hq => p79 q p (h2 q hq)) (by omega) (fun t => rfl)
  unfold m49 atW
  rw [ha1, idx_get hk, bnd_ok, h3, bnd_ok]
  cases findI (fun q => decide (q = p)) s.ranked[k] <;> rfl
theorem atW_mem (w : List (List Int)) (p : List Int) : 0 ≤ atW w p ↔ p ∈ w := by
  unfold atW
  cases h : findI (fun q => decide (q = p)) w with
  | none =>
    have := findI_none.1 h
    constructor
    · intro h0; simp only [] at h0; omega
    · intro hp; rw [List.any_eq_true.2 ⟨p, hp, by simp⟩] at this; cases this
  | some i =>
    obtain ⟨h1, h2, h3⟩ := findI_lt h
    constructor
    · intro _; rw [← of_decide_eq_true h2]; exact List.getElem_mem h1
    · intro _; simp only []; omega
theorem atW_get {w : List (List Int)} {p : List Int} {i : Nat} (h : atW w p = (i : Int)) : ∃ hi : i < w.length, w[i] = p := by
  unfold atW at h
  cases hf : findI (fun q => decide (q = p)) w with
  | none => rw [hf] at h; simp only [] at h; omega
  | some j =>
    rw [hf] at h
    simp only [] at h
    obtain ⟨h1, h2, h3⟩ := findI_lt hf
    have : j = i := by omega
    subst this
    exact ⟨h1, of_decide_eq_true h2⟩
theorem atW_self (w : List (List Int)) (i : Nat) (hi : i < w.length) : atW w w[i] = (i : Int) ↔ ¬ w[i] ∈ w.take i := by
  unfold atW
  cases hf : findI (fun q => decide (q = w[i])) w with
  | none =>
    have := findI_none.1 hf
    rw [List.any_eq_true.2 ⟨w[i], List.getElem_mem hi, by simp⟩] at this; cases this
  | some j =>
    obtain ⟨h1, h2, h3⟩ := findI_lt hf
    simp only []
    have h2' := of_decide_eq_true h2
    constructor
    · intro he hm
      have hji : j = i := by omega
      subst hji
      obtain ⟨t, ht, hte⟩ := List.getElem_of_mem hm
      rw [List.length_take] at ht
      have := h3 t (by omega)
      rw [List.getElem_take] at hte
      rw [hte] at this
      simp at this
    · intro hn
      have hle : ¬ j < i := fun hlt => hn (by rw [← h2']; exact List.mem_take_iff_getElem.2 ⟨j, by omega, rfl⟩)
      have hge : ¬ i < j := fun hlt => by have := h3 i hlt; simp at this
      omega
/-! ### Ways -/
/-- One place of a way. -/
def badX (n : Nat) (p : List Int) (k : Nat) (x : Int) : Bool := !decide (0 ≤ x ∧ x ≤ (n : Int)) || decide (x ∈ p.take k) || (decide (x = 0) && decide (k + 1 < p.length))
theorem p48_4 (n : Nat) (hn : n ≤ 2000000) (p : List Int) (k : Nat) (hk : k < p.length) (hp : p.length ≤ 2000000) (x : Int) : m48_4 p (n : Int) (k : Int) x = some (badX n p k x) := by
  have hc : 0 ≤ (k : Int) ∧ (k : Int) ≤ (p.length : Int) := by omega
  have ew : wsub .i64 (p.length : Int) 1 = (p.length : Int) - 1 := wsub64 (by omega) (by omega)
  simp only [m48_4, bnd_ok, ck_ok hc, Int.toNat_natCast, p87 (p.take k) x (by rw [List.length_take]; omega), ew, badX]
  by_cases c1 : x < 0
  · rw [(ltI_iff _ _).2 c1, br_true, decide_eq_false (show ¬ (0 ≤ x ∧ x ≤ (n : Int)) by omega)]; rfl
  rw [(ltI_not _ _).2 (by omega), br_false]
  by_cases c2 : (n : Int) < x
  · rw [(ltI_iff _ _).2 c2, br_true, decide_eq_false (show ¬ (0 ≤ x ∧ x ≤ (n : Int)) by omega)]; rfl
  rw [(ltI_not _ _).2 (by omega), br_false, decide_eq_true (show 0 ≤ x ∧ x ≤ (n : Int) by omega)]
  cases decide (x ∈ p.take k) with
  | true => rfl
  | false =>
    rw [br_false]
    by_cases c3 : x = 0
    · rw [(eqI_iff _ _).2 c3, br_true, decide_eq_true c3]
      have : ltI (k : Int) ((p.length : Int) - 1) = decide (k + 1 < p.length) := by rw [Bool.eq_iff_iff, ltI_iff, decide_eq_true_eq]; omega
      rw [this]; rfl
    · rw [(eqI_not _ _).2 c3, br_false, decide_eq_false c3]; rfl
theorem p52_4 (s : Spp) (hn : s.ranked.length ≤ 2000000) (p : List Int) (k : Nat) (hk : k < p.length) (hp : p.length ≤ 2000000) (x : Int) (hlast : k + 1 = p.length → x = 0) : m52_4 ((p.length : Int) - 1) (k : Int) x p s = some (badX s.ranked.length p k x) := by
  have hc : 0 ≤ (k : Int) ∧ (k : Int) ≤ (p.length : Int) := by omega
  simp only [m52_4, bnd_ok, ck_ok hc, Int.toNat_natCast, p89 (p.take k) x (by rw [List.length_take]; omega), p51, badX]
  by_cases c0 : k + 1 < p.length
  · rw [(ltI_iff (k : Int) ((p.length : Int) - 1)).2 (by omega), br_true, decide_eq_true c0, Bool.and_true]
    by_cases c1 : 1 ≤ x ∧ x ≤ (s.ranked.length : Int)
    · rw [decide_eq_true c1, br_true, decide_eq_true (show 0 ≤ x ∧ x ≤ (s.ranked.length : Int) by omega), decide_eq_false (show ¬ x = 0 by omega), Bool.or_false]; rfl
    · rw [decide_eq_false c1, br_false]
      by_cases c2 : x = 0
      · rw [decide_eq_true c2, Bool.or_true]
      · rw [decide_eq_false (show ¬ (0 ≤ x ∧ x ≤ (s.ranked.length : Int)) by omega)]; rfl
  · have hx := hlast (by omega)
    rw [(ltI_not (k : Int) ((p.length : Int) - 1)).2 (by omega), br_false, decide_eq_true (show 0 ≤ x ∧ x ≤ (s.ranked.length : Int) by omega), decide_eq_false c0, Bool.and_false, Bool.or_false]; rfl
def rowX (n : Nat) (p : List Int) : Bool := allN p.length (fun k => atB p (fun x => !badX n p k x) k)
def wayX (s : Spp) (a : Int) (p : List Int) : Bool :=
  decide (2 ≤ p.length ∧ p[0]? = some a ∧ p[p.length - 1]? = some 0) && (rowX s.ranked.length p && (decide (p.length = 2) || (match p[1]? with | some x => (match s.ranked[(x - 1).toNat]? with | some w => decide (p.drop 1 ∈ w) | none => false) | none => false)))
theorem head1 (s : Spp) (a : Int) (p : List Int) (hp : p.length ≤ 2000000) : m48_1 a p = some (!decide (2 ≤ p.length ∧ p[0]? = some a ∧ p[p.length - 1]? = some 0)) := by
  unfold m48_1
  by_cases c : 2 ≤ p.length
  · have ew : wsub .i64 (p.length : Int) 1 = ((p.length - 1 : Nat) : Int) := by rw [wsub64 (by omega) (by omega)]; omega
    have i0 : idx p 0 = some (p[0]'(by omega)) := idx_get (i := 0) (by omega)
    rw [(ltI_not _ _).2 (by omega), br_false, i0, bnd_ok, ew, idx_get (show p.length - 1 < p.length by omega), bnd_ok, List.getElem?_eq_getElem (show 0 < p.length by omega), List.getElem?_eq_getElem (show p.length - 1 < p.length by omega)]
    simp only [Option.some.injEq]
    by_cases c1 : p[0]'(by omega) = a
    · rw [(eqI_iff _ _).2 c1, br_true]
      by_cases c2 : p[p.length - 1]'(by omega) = 0
      · rw [(eqI_iff _ _).2 c2, decide_eq_true ⟨c, c1, c2⟩]
      · rw [(eqI_not _ _).2 c2, decide_eq_false (fun h => c2 h.2.2)]
    · rw [(eqI_not _ _).2 c1, br_false, decide_eq_false (fun h => c1 h.2.1)]; rfl
  · rw [(ltI_iff _ _).2 (by omega), br_true, decide_eq_false (fun h => c h.1)]; rfl
theorem head2 (a : Int) (p : List Int) (hp : p.length ≤ 2000000) : m52_1 a ((p.length : Int) - 1) p = some (!decide (2 ≤ p.length ∧ p[0]? = some a ∧ p[p.length - 1]? = some 0)) := by
  unfold m52_1
  by_cases c : 2 ≤ p.length
  · have ew : (p.length : Int) - 1 = ((p.length - 1 : Nat) : Int) := by omega
    have i0 : idx p 0 = some (p[0]'(by omega)) := idx_get (i := 0) (by omega)
    rw [ew, (ltI_not _ _).2 (by omega), br_false, i0, bnd_ok, idx_get (show p.length - 1 < p.length by omega), bnd_ok, List.getElem?_eq_getElem (show 0 < p.length by omega), List.getElem?_eq_getElem (show p.length - 1 < p.length by omega)]
    simp only [Option.some.injEq]
    by_cases c1 : p[0]'(by omega) = a
    · rw [(eqI_iff _ _).2 c1, br_true]
      by_cases c2 : p[p.length - 1]'(by omega) = 0
      · rw [(eqI_iff _ _).2 c2, decide_eq_true ⟨c, c1, c2⟩]
      · rw [(eqI_not _ _).2 c2, decide_eq_false (fun h => c2 h.2.2)]
    · rw [(eqI_not _ _).2 c1, br_false, decide_eq_false (fun h => c1 h.2.1)]; rfl
  · rw [(ltI_iff _ _).2 (by omega), br_true, decide_eq_false (fun h => c h.1)]; rfl
/-- The second place of a good row is a node. -/
theorem row_at {n : Nat} {p : List Int} (h : rowX n p = true) (k : Nat) (hk : k < p.length) : (0 ≤ p[k] ∧ p[k] ≤ (n : Int)) ∧ ¬ p[k] ∈ p.take k ∧ (k + 1 < p.length → p[k] ≠ 0) := by
  simp only [rowX, allN_iff] at h
  have := h k hk
  rw [atB_get hk] at this
  simp only [badX, Bool.not_eq_true', Bool.or_eq_false_iff, Bool.not_eq_false', decide_eq_true_eq, decide_eq_false_iff_not, Bool.and_eq_false_iff] at this
  refine ⟨this.1.1, this.1.2, fun h1 h2 => ?_⟩
  rcases this.2 with h3 | h3
  · exact h3 h2
  · exact h3 h1
theorem p48 (s : Spp) (hs : Sm s) (a : Int) (p : List Int) (hp : p.length ≤ 2000000) : m48 s a p = some (wayX s a p) := by
  have hl := loop_all (body := m48_2b p (s.ranked.length : Int) (p.length : Int)) p.length (fun k => atB p (fun x => !badX s.ranked.length p k x) k) (.inl ()) (.inr ()) (fun k h => by
    simp only [m48_2b, (ltI_iff (k : Int) (p.length : Int)).2 (by omega), br_true, idx_get h, bnd_ok, p48_4 s.ranked.length hs.1 p k h hp, wsucc h (by omega), atB_get h]
    cases badX s.ranked.length p k p[k] <;> rfl) (by simp only [m48_2b, (ltI_not (p.length : Int) (p.length : Int)).2 (by omega), br_false])
  unfold m48
  rw [head1 s a p hp, bnd_ok]
  unfold wayX
  cases hh : decide (2 ≤ p.length ∧ p[0]? = some a ∧ p[p.length - 1]? = some 0) with
  | false => rfl
  | true =>
    have hh' := of_decide_eq_true hh
    rw [Bool.not_true, br_false, hl, bnd_ok, Bool.true_and]
    change _ = some (rowX s.ranked.length p && _)
    cases hr : rowX s.ranked.length p with
    | false => unfold rowX at hr; rw [hr]; rfl
    | true =>
      have hr' := hr
      unfold rowX at hr'
      rw [hr', if_pos rfl, selS_inl]
      unfold m48_5
      by_cases c : p.length = 2
      · rw [(eqI_iff _ _).2 (by omega), br_true, decide_eq_true c]; rfl
      · have h1 : 1 < p.length := by omega
        have hx := row_at hr 1 h1
        have hx0 := hx.2.2 (by omega)
        obtain ⟨t, ht⟩ : ∃ t : Nat, p[1] = (t : Int) + 1 := ⟨(p[1] - 1).toNat, by omega⟩
        have htl : t < s.ranked.length := by omega
        have i1 : idx p 1 = some p[1] := idx_get (i := 1) h1
        rw [(eqI_not _ _).2 (by omega), br_false, i1, bnd_ok, ck_ok ⟨by omega, by omega⟩, p49 s hs t htl p[1] ht, bnd_ok, bnd_ok, decide_eq_false c, Bool.false_or, List.getElem?_eq_getElem h1, Bool.true_and]
        simp only []
        rw [show (p[1] - 1).toNat = t by omega, List.getElem?_eq_getElem htl, Option.some.injEq, Bool.eq_iff_iff, leI_iff, decide_eq_true_eq]
        exact atW_mem _ _
theorem p53 (w : List (List Int)) (hw : w.length ≤ 2000000) (f : List Int → Option Bool) (g : List Int → Bool) (hf : ∀ q ∈ w, f q = some (g q)) : m53 w f = some (w.any g) := by
  simp only [m53, m91, indexFunc (body := m91_1b w (w.length : Int) f) (f := f) w g hf (by omega) (fun s => rfl), bnd_ok, containsFunc]
theorem any_dec (w : List (List Int)) (q : List Int) : (w.any fun y => decide (y = q)) = decide (q ∈ w) := by
  rw [Bool.eq_iff_iff, List.any_eq_true, decide_eq_true_eq]
  constructor
  · rintro ⟨y, hy, h⟩; rw [of_decide_eq_true h] at hy; exact hy
  · intro h; exact ⟨q, h, by simp⟩
theorem p52 (s : Spp) (hs : Sm s) (a : Int) (p : List Int) (hp : p.length ≤ 2000000) : m52 s a p = some (wayX s a p) := by
  have ew : wsub .i64 (p.length : Int) 1 = (p.length : Int) - 1 := wsub64 (by omega) (by omega)
  unfold m52
  rw [ew, head2 a p hp, bnd_ok]
  unfold wayX
  cases hh : decide (2 ≤ p.length ∧ p[0]? = some a ∧ p[p.length - 1]? = some 0) with
  | false => rfl
  | true =>
    have hh' := of_decide_eq_true hh
    have hl := loop_all (body := m52_2b ((p.length : Int) - 1) p (p.length : Int) s) p.length (fun k => atB p (fun x => !badX s.ranked.length p k x) k) (.inl ()) (.inr ()) (fun k h => by
      have hz : k + 1 = p.length → p[k] = 0 := by
        intro he
        have h3 := hh'.2.2
        rw [show p.length - 1 = k by omega, List.getElem?_eq_getElem h] at h3
        exact Option.some.inj h3
      simp only [m52_2b, (ltI_iff (k : Int) (p.length : Int)).2 (by omega), br_true, idx_get h, bnd_ok, p52_4 s hs.1 p k h hp p[k] hz, wsucc h (by omega), atB_get h]
      cases badX s.ranked.length p k p[k] <;> rfl) (by simp only [m52_2b, (ltI_not (p.length : Int) (p.length : Int)).2 (by omega), br_false])
    rw [Bool.not_true, br_false, hl, bnd_ok, Bool.true_and]
    change _ = some (rowX s.ranked.length p && _)
    cases hr : rowX s.ranked.length p with
    | false => unfold rowX at hr; rw [hr]; rfl
    | true =>
      have hr' := hr
      unfold rowX at hr'
      rw [hr', if_pos rfl, selS_inl]
      unfold m52_5
      by_cases c : p.length = 2
      · rw [(eqI_iff _ _).2 (by omega), br_true, decide_eq_true c]; rfl
      · have h1 : 1 < p.length := by omega
        have hx := row_at hr 1 h1
        have hx0 := hx.2.2 (by omega)
        obtain ⟨t, ht⟩ : ∃ t : Nat, p[1] = (t : Int) + 1 := ⟨(p[1] - 1).toNat, by omega⟩
        have htl : t < s.ranked.length := by omega
        have i1 : idx p 1 = some p[1] := idx_get (i := 1) h1
        have e1 : wsub .i64 p[1] 1 = (t : Int) := by have := hs.1; rw [wsub64 (by omega) (by omega)]; omega
        obtain ⟨q1, q2⟩ := hs.2 _ (List.getElem_mem htl)
        rw [(eqI_not _ _).2 (by omega), br_false, i1, bnd_ok, e1, idx_get htl, bnd_ok, p53 s.ranked[t] q1 (fun y0 => m90 y0 p) (fun y => decide (y = p.drop 1)) (fun q hq => by unfold m90; rw [ck_ok ⟨by omega, by omega⟩, p55 q _ (q2 q hq), bnd_ok]), bnd_ok, bnd_ok, any_dec, decide_eq_false c, Bool.false_or, List.getElem?_eq_getElem h1, Bool.true_and]
        simp only []
        rw [show (p[1] - 1).toNat = t by omega, List.getElem?_eq_getElem htl]
/-! ### How many have not been seen -/
theorem filter_less {α : Type} (p q : α → Bool) (hpq : ∀ x, q x = true → p x = true) {k : α} (hp : p k = true) (hq : q k = false) : ∀ U : List α, k ∈ U → (U.filter q).length + 1 ≤ (U.filter p).length := by
  have le : ∀ U : List α, (U.filter q).length ≤ (U.filter p).length := by
    intro U
    induction U with
    | nil => simp
    | cons x r ih =>
      rw [List.filter_cons, List.filter_cons]
      by_cases h : q x = true
      · rw [if_pos h, if_pos (hpq x h)]; simpa using ih
      · rw [if_neg h]
        split
        · simp only [List.length_cons]; omega
        · exact ih
  intro U
  induction U with
  | nil => intro h; cases h
  | cons x r ih =>
    intro h
    rw [List.filter_cons, List.filter_cons]
    rcases List.mem_cons.1 h with rfl | h
    · rw [if_neg (by simp [hq]), if_pos hp]; have := le r; simp; omega
    · have := ih h
      by_cases hx : q x = true
      · rw [if_pos hx, if_pos (hpq x hx)]; simp; omega
      · rw [if_neg hx]
        split
        · simp only [List.length_cons]; omega
        · exact this
section
variable {α : Type} [DecidableEq α]
def mu (U seen : List α) : Nat := (U.filter (fun k => decide (¬ k ∈ seen))).length
theorem mu_add {U : List α} {k : α} {seen : List α} (hU : k ∈ U) (h : ¬ k ∈ seen) : mu U (seen ++ [k]) + 1 ≤ mu U seen := by
  unfold mu
  refine filter_less (fun k => decide (¬ k ∈ seen)) (fun x => decide (¬ x ∈ seen ++ [k])) (fun x hx => ?_) (k := k) (decide_eq_true h) (by simp) _ hU
  simp only [decide_eq_true_eq, List.mem_append, not_or] at hx ⊢
  exact hx.1
theorem mu_le (U seen : List α) : mu U seen ≤ U.length := List.length_filter_le _ _
end
theorem row_len {n : Nat} {p : List Int} (h : rowX n p = true) : p.length ≤ n + 1 := by
  have key : ∀ j, j ≤ p.length → j + mu ((List.range (n + 1)).map Int.ofNat) (p.take j) ≤ n + 1 := by
    intro j
    induction j with
    | zero => intro _; have := mu_le ((List.range (n + 1)).map Int.ofNat) (p.take 0); simp at this ⊢; omega
    | succ j ih =>
      intro hj
      have hlt : j < p.length := by omega
      obtain ⟨h1, h2, _⟩ := row_at h j hlt
      have := mu_add (U := (List.range (n + 1)).map Int.ofNat) (k := p[j]) (seen := p.take j) (List.mem_map.2 ⟨p[j].toNat, List.mem_range.2 (by omega), by show ((p[j].toNat : Nat) : Int) = p[j]; omega⟩) h2
      rw [← take_succ_get p j hlt] at this
      have := ih (by omega)
      omega
  have := key p.length (Nat.le_refl _)
  omega
/-! ### Good problems -/
def okP (s : Spp) (i : Nat) (w : List (List Int)) (k : Nat) (p : List Int) : Bool := wayX s ((i : Int) + 1) p && decide (¬ p ∈ w.take k)
def okN (s : Spp) (i : Nat) (w : List (List Int)) : Bool := decide (w.length ≤ 6) && allN w.length (fun k => atB w (okP s i w k) k)
def goodB (s : Spp) : Bool := decide (1 ≤ s.ranked.length ∧ s.ranked.length ≤ 5) && allN s.ranked.length (fun i => atB s.ranked (okN s i) i)
theorem p14 (s : Spp) (hs : Sm s) : m14 s = some (goodB s) := by
  unfold m14 goodB
  rw [p47, bnd_ok]
  have ed : decide ((1 : Int) ≤ (s.ranked.length : Int) ∧ (s.ranked.length : Int) ≤ 5) = decide (1 ≤ s.ranked.length ∧ s.ranked.length ≤ 5) := by rw [decide_eq_decide]; omega
  rw [ed]
  cases hn : decide (1 ≤ s.ranked.length ∧ s.ranked.length ≤ 5) with
  | false => rfl
  | true =>
    have hn' := of_decide_eq_true hn
    rw [br_true, loop_all (body := m14_1b s (s.ranked.length : Int)) s.ranked.length (fun i => atB s.ranked (okN s i) i) (.inl ()) (.inr ()) (fun i hi => by
      obtain ⟨w1, w2⟩ := hs.2 _ (List.getElem_mem hi)
      have e1 : wadd .i64 (i : Int) 1 = (i : Int) + 1 := wadd64 (by omega) (by omega)
      have hin := loop_all (body := m14_5b (i : Int) s s.ranked[i] (s.ranked[i].length : Int)) s.ranked[i].length (fun k => atB s.ranked[i] (okP s i s.ranked[i] k) k) (.inl ()) (.inr ()) (fun k hk => by
        have hp := w2 _ (List.getElem_mem hk)
        have e7 : m14_7 (i : Int) (k : Int) s.ranked[i][k] s = some (!okP s i s.ranked[i] k s.ranked[i][k]) := by
          unfold m14_7 okP
          rw [e1, p48 s hs _ _ hp, bnd_ok]
          cases wayX s ((i : Int) + 1) s.ranked[i][k] with
          | false => rfl
          | true =>
            rw [br_true, p49 s hs i hi _ rfl, bnd_ok, Bool.true_and]
            congr 2
            rw [Bool.eq_iff_iff, eqI_iff, decide_eq_true_eq]
            exact atW_self _ _ hk
        simp only [m14_5b, (ltI_iff (k : Int) (s.ranked[i].length : Int)).2 (by omega), br_true, idx_get hk, bnd_ok, e7, wsucc hk (by omega), atB_get hk]
        cases okP s i s.ranked[i] k s.ranked[i][k] <;> rfl) (by simp only [m14_5b, (ltI_not (s.ranked[i].length : Int) (s.ranked[i].length : Int)).2 (by omega), br_false])
      simp only [m14_1b, (ltI_iff (i : Int) (s.ranked.length : Int)).2 (by omega), br_true, idx_get hi, bnd_ok, hin, wsucc hi (by omega), atB_get hi, okN]
      by_cases c : s.ranked[i].length ≤ 6
      · rw [(ltI_not _ _).2 (by omega), br_false, decide_eq_true c, Bool.true_and]
        cases allN s.ranked[i].length (fun k => atB s.ranked[i] (okP s i s.ranked[i] k) k) <;> rfl
      · rw [(ltI_iff _ _).2 (by omega), br_true, decide_eq_false c]; rfl) (by simp only [m14_1b, (ltI_not (s.ranked.length : Int) (s.ranked.length : Int)).2 (by omega), br_false]), bnd_ok, Bool.true_and]
    cases allN s.ranked.length (fun i => atB s.ranked (okN s i) i) <;> rfl
theorem p16 (s : Spp) (hs : Sm s) : m16 s = some (goodB s) := by
  unfold m16 goodB
  rw [p51, bnd_ok]
  have ed : decide ((1 : Int) ≤ (s.ranked.length : Int) ∧ (s.ranked.length : Int) ≤ 5) = decide (1 ≤ s.ranked.length ∧ s.ranked.length ≤ 5) := by rw [decide_eq_decide]; omega
  rw [ed]
  cases hn : decide (1 ≤ s.ranked.length ∧ s.ranked.length ≤ 5) with
  | false => rfl
  | true =>
    have hn' := of_decide_eq_true hn
    rw [br_true, loop_all (body := m16_1b s (s.ranked.length : Int)) s.ranked.length (fun i => atB s.ranked (okN s i) i) (.inl ()) (.inr ()) (fun i hi => by
      obtain ⟨w1, w2⟩ := hs.2 _ (List.getElem_mem hi)
      have e1 : wadd .i64 (i : Int) 1 = (i : Int) + 1 := wadd64 (by omega) (by omega)
      have hin := loop_all (body := m16_5b (i : Int) s.ranked[i] s (s.ranked[i].length : Int)) s.ranked[i].length (fun k => atB s.ranked[i] (okP s i s.ranked[i] k) k) (.inl ()) (.inr ()) (fun k hk => by
        have hp := w2 _ (List.getElem_mem hk)
        have e7 : m16_7 (i : Int) s.ranked[i] (k : Int) s s.ranked[i][k] = some (!okP s i s.ranked[i] k s.ranked[i][k]) := by
          unfold m16_7 okP
          rw [e1, p52 s hs _ _ hp, bnd_ok]
          by_cases c6 : s.ranked[i][k].length ≤ 6
          · rw [(ltI_not _ _).2 (by omega), br_false]
            cases wayX s ((i : Int) + 1) s.ranked[i][k] with
            | false => rfl
            | true =>
              have hc : 0 ≤ (k : Int) ∧ (k : Int) ≤ (s.ranked[i].length : Int) := by omega
              rw [br_true, ck_ok hc, Int.toNat_natCast, p53 (s.ranked[i].take k) (by rw [List.length_take]; omega) (fun y0 => m54 y0 s.ranked[i][k]) (fun y => decide (y = s.ranked[i][k])) (fun q hq => by unfold m54; rw [p55 q _ (w2 q (List.mem_of_mem_take hq)), bnd_ok]), bnd_ok, any_dec, Bool.true_and]
              congr 1
              cases hd : decide (s.ranked[i][k] ∈ s.ranked[i].take k) with
              | true => rw [decide_eq_false (fun hn => hn (of_decide_eq_true hd))]; rfl
              | false => rw [decide_eq_true (of_decide_eq_false hd)]; rfl
          · rw [(ltI_iff _ _).2 (by omega), br_true]
            have : wayX s ((i : Int) + 1) s.ranked[i][k] = false := by
              cases hw : wayX s ((i : Int) + 1) s.ranked[i][k] with
              | false => rfl
              | true =>
                simp only [wayX, Bool.and_eq_true] at hw
                have := row_len hw.2.1
                omega
            rw [this]; rfl
        simp only [m16_5b, (ltI_iff (k : Int) (s.ranked[i].length : Int)).2 (by omega), br_true, idx_get hk, bnd_ok, e7, wsucc hk (by omega), atB_get hk]
        cases okP s i s.ranked[i] k s.ranked[i][k] <;> rfl) (by simp only [m16_5b, (ltI_not (s.ranked[i].length : Int) (s.ranked[i].length : Int)).2 (by omega), br_false])
      simp only [m16_1b, (ltI_iff (i : Int) (s.ranked.length : Int)).2 (by omega), br_true, idx_get hi, bnd_ok, hin, wsucc hi (by omega), atB_get hi, okN]
      by_cases c : s.ranked[i].length ≤ 6
      · rw [(ltI_not _ _).2 (by omega), br_false, decide_eq_true c, Bool.true_and]
        cases allN s.ranked[i].length (fun k => atB s.ranked[i] (okP s i s.ranked[i] k) k) <;> rfl
      · rw [(ltI_iff _ _).2 (by omega), br_true, decide_eq_false c]; rfl) (by simp only [m16_1b, (ltI_not (s.ranked.length : Int) (s.ranked.length : Int)).2 (by omega), br_false]), bnd_ok, Bool.true_and]
    cases allN s.ranked.length (fun i => atB s.ranked (okN s i) i) <;> rfl
/-- What a good problem is. -/
structure Good (s : Spp) : Prop where
  n : 1 ≤ s.ranked.length ∧ s.ranked.length ≤ 5
  len : ∀ i (hi : i < s.ranked.length), s.ranked[i].length ≤ 6
  way : ∀ i (hi : i < s.ranked.length) k (hk : k < s.ranked[i].length), wayX s ((i : Int) + 1) s.ranked[i][k] = true
  ne : ∀ i (hi : i < s.ranked.length) k (hk : k < s.ranked[i].length), ¬ s.ranked[i][k] ∈ s.ranked[i].take k
theorem good_of {s : Spp} (h : goodB s = true) : Good s := by
  simp only [goodB, Bool.and_eq_true, decide_eq_true_eq, allN_iff] at h
  have hi := fun i (hi : i < s.ranked.length) => by
    have := h.2 i hi
    rw [atB_get hi] at this
    simp only [okN, Bool.and_eq_true, decide_eq_true_eq, allN_iff] at this
    exact this
  refine ⟨h.1, fun i hi' => (hi i hi').1, fun i hi' k hk => ?_, fun i hi' k hk => ?_⟩
  · have := (hi i hi').2 k hk
    rw [atB_get hk] at this
    simp only [okP, Bool.and_eq_true] at this
    exact this.1
  · have := (hi i hi').2 k hk
    rw [atB_get hk] at this
    simp only [okP, Bool.and_eq_true, decide_eq_true_eq] at this
    exact this.2
theorem way_parts {s : Spp} {a : Int} {p : List Int} (h : wayX s a p = true) : 2 ≤ p.length ∧ p[0]? = some a ∧ rowX s.ranked.length p = true ∧ (p.length = 2 ∨ ∃ (h1 : 1 < p.length) (h2 : (p[1] - 1).toNat < s.ranked.length), p.drop 1 ∈ s.ranked[(p[1] - 1).toNat]) := by
  simp only [wayX, Bool.and_eq_true, Bool.or_eq_true, decide_eq_true_eq] at h
  obtain ⟨⟨h1, h2, h3⟩, h4, h5⟩ := h
  refine ⟨h1, h2, h4, ?_⟩
  rcases h5 with h5 | h5
  · exact .inl h5
  · right
    have hl : 1 < p.length := by omega
    rw [List.getElem?_eq_getElem hl] at h5
    simp only [] at h5
    cases hq : s.ranked[(p[1] - 1).toNat]? with
    | none => rw [hq] at h5; cases h5
    | some w =>
      rw [hq] at h5
      obtain ⟨q1, q2⟩ := List.getElem?_eq_some_iff.1 hq
      exact ⟨hl, q1, by rw [q2]; exact of_decide_eq_true h5⟩
/-- What stands behind a place of a way is a way. -/
theorem suffix {s : Spp} (G : Good s) (i : Nat) (hi : i < s.ranked.length) (k : Nat) (hk : k < s.ranked[i].length) : ∀ t, t + 1 < s.ranked[i][k].length → ∃ (j : Nat) (hj : j < s.ranked.length) (m : Nat) (hm : m < s.ranked[j].length), s.ranked[i][k].drop t = s.ranked[j][m] := by
  intro t
  induction t with
  | zero => intro _; exact ⟨i, hi, k, hk, by simp⟩
  | succ t ih =>
    intro ht
    obtain ⟨j, hj, m, hm, e⟩ := ih (by omega)
    obtain ⟨w1, w2, w3, w4⟩ := way_parts (G.way j hj m hm)
    have hlen : s.ranked[j][m].length = s.ranked[i][k].length - t := by rw [← e, List.length_drop]
    rcases w4 with w4 | ⟨q1, q2, q3⟩
    · omega
    · obtain ⟨m', hm', e'⟩ := List.getElem_of_mem q3
      refine ⟨_, q2, m', hm', ?_⟩
      rw [e', ← e, List.drop_drop]
/-! ### Nodes with their ways -/
def Vd (s : Spp) (a : Nat × Nat) : Prop := ∃ (hi : a.1 < s.ranked.length), a.2 < s.ranked[a.1].length
def wy (s : Spp) (a : Nat × Nat) : List Int := (s.ranked.getD a.1 []).getD a.2 []
theorem wy_eq {s : Spp} {i k : Nat} (hi : i < s.ranked.length) (hk : k < s.ranked[i].length) : wy s (i, k) = s.ranked[i][k] := by
  simp [wy, List.getD_eq_getElem?_getD, hi, hk]
def encP (a : Nat × Nat) : l10Pair := ⟨(a.1 : Int) + 1, (a.2 : Int)⟩
def encT (a : Nat × Nat) : turn := ⟨(a.1 : Int), (a.2 : Int)⟩
theorem encP_inj {a b : Nat × Nat} (h : encP a = encP b) : a = b := by
  obtain ⟨a1, a2⟩ := a
  obtain ⟨b1, b2⟩ := b
  simp only [encP, l10Pair.mk.injEq] at h
  ext <;> simp only [] <;> omega
theorem wy_head {s : Spp} (G : Good s) {i k : Nat} (hi : i < s.ranked.length) (hk : k < s.ranked[i].length) : s.ranked[i][k][0]? = some ((i : Int) + 1) := (way_parts (G.way i hi k hk)).2.1
theorem wy_uniq {s : Spp} (G : Good s) {a b : Nat × Nat} (ha : Vd s a) (hb : Vd s b) (h : wy s a = wy s b) : a = b := by
  obtain ⟨i, k⟩ := a
  obtain ⟨j, m⟩ := b
  obtain ⟨hi, hk⟩ := ha
  obtain ⟨hj, hm⟩ := hb
  simp only at hi hk hj hm
  rw [wy_eq hi hk, wy_eq hj hm] at h
  have h0 := wy_head G hi hk
  rw [h, wy_head G hj hm] at h0
  have hij : j = i := by have := Option.some.inj h0; omega
  subst hij
  have n1 := G.ne j hj k hk
  have n2 := G.ne j hj m hm
  by_cases c : k < m
  · exact absurd (List.mem_take_iff_getElem.2 ⟨k, by omega, h⟩) n2
  · by_cases c2 : m < k
    · exact absurd (List.mem_take_iff_getElem.2 ⟨m, by omega, h.symm⟩) n1
    · have : k = m := by omega
      subst this; rfl
/-- A pair leads to another one. -/
def Ed (s : Spp) (a b : Nat × Nat) : Prop := Vd s a ∧ Vd s b ∧ ∃ k, k ≤ a.2 ∧ ∃ t, 1 ≤ t ∧ t + 1 < (wy s (a.1, k)).length ∧ (wy s (a.1, k)).drop t = wy s b
/-- One place of a way, and the pair that stands for it. -/
theorem place {s : Spp} (hs : Sm s) (G : Good s) {i k : Nat} (hi : i < s.ranked.length) (hk : k < s.ranked[i].length) (t : Nat) (ht : t + 1 < s.ranked[i][k].length) :
    ∃ b, Vd s b ∧ s.ranked[i][k].drop t = wy s b ∧ s.ranked[i][k][t] = (b.1 : Int) + 1 ∧ m49 s s.ranked[i][k][t] (s.ranked[i][k].drop t) = some (b.2 : Int) := by
  obtain ⟨j, hj, m, hm, e⟩ := suffix G i hi k hk t ht
  have h0 := wy_head G hj hm
  rw [← e, List.getElem?_drop, Nat.add_zero, List.getElem?_eq_getElem (show t < s.ranked[i][k].length by omega)] at h0
  have h0 := Option.some.inj h0
  refine ⟨(j, m), ⟨hj, hm⟩, by rw [wy_eq hj hm]; exact e, h0, ?_⟩
  rw [p49 s hs j hj _ h0, e, (atW_self _ m hm).2 (G.ne j hj m hm)]
theorem along {s : Spp} (hs : Sm s) (G : Good s) {i k : Nat} (hi : i < s.ranked.length) (hk : k < s.ranked[i].length) : ∀ (n t : Nat) (acc : List l10Pair), n + t + 1 = s.ranked[i][k].length → 1 ≤ t → acc.length + n ≤ 1000 →
    ∃ r, loopP (m93_3b s.ranked[i][k] s) ((t : Int), acc) = some r ∧ r.length = acc.length + n ∧ ∀ y, y ∈ r ↔ y ∈ acc ∨ ∃ t' b, t ≤ t' ∧ t' + 1 < s.ranked[i][k].length ∧ Vd s b ∧ s.ranked[i][k].drop t' = wy s b ∧ y = encP b := by
  have hsm := (hs.2 _ (List.getElem_mem hi)).2 _ (List.getElem_mem hk)
  have hlen6 := row_len (way_parts (G.way i hi k hk)).2.2.1
  have hn5 := G.n
  have ew : wsub .i64 (s.ranked[i][k].length : Int) 1 = (s.ranked[i][k].length : Int) - 1 := wsub64 (by omega) (by omega)
  intro n
  induction n with
  | zero =>
    intro t acc hn ht ha
    refine ⟨acc, loopP_out (by simp only [m93_3b, sel2, ew, (ltI_not (t : Int) ((s.ranked[i][k].length : Int) - 1)).2 (by omega), br_false]), rfl, fun y => ⟨.inl, fun h => ?_⟩⟩
    rcases h with h | ⟨t', b, h1, h2, _⟩
    · exact h
    · omega
  | succ n ih =>
    intro t acc hn ht ha
    have htl : t < s.ranked[i][k].length := by omega
    obtain ⟨b, hb, e1, e2, e3⟩ := place hs G hi hk t (by omega)
    obtain ⟨r, r1, r2, r3⟩ := ih (t + 1) (acc ++ [encP b]) (by omega) (by omega) (by simp; omega)
    refine ⟨r, ?_, by rw [r2]; simp; omega, fun y => ?_⟩
    · rw [← r1]
      refine loopP_nxt ?_
      have hpair : (⟨s.ranked[i][k][t], (b.2 : Int)⟩ : l10Pair) = encP b := by rw [e2]; rfl
      simp only [m93_3b, sel2, ew, (ltI_iff (t : Int) ((s.ranked[i][k].length : Int) - 1)).2 (by omega), br_true, idx_get htl, bnd_ok, ck_ok (show 0 ≤ (t : Int) ∧ (t : Int) ≤ (s.ranked[i][k].length : Int) by omega), Int.toNat_natCast, e3, ck_ok (show acc.length + 1 ≤ 4294967296 by omega), wsucc htl (by omega), hpair]
    · rw [r3, List.mem_append, List.mem_singleton]
      constructor
      · rintro ((h | h) | ⟨t', b', h1, h2, h3, h4, h5⟩)
        · exact .inl h
        · exact .inr ⟨t, b, Nat.le_refl _, by omega, hb, e1, h⟩
        · exact .inr ⟨t', b', by omega, h2, h3, h4, h5⟩
      · rintro (h | ⟨t', b', h1, h2, h3, h4, h5⟩)
        · exact .inl (.inl h)
        · by_cases htt : t' = t
          · subst htt
            rw [e1] at h4
            have := wy_uniq G hb h3 h4
            subst this
            exact .inl (.inr h5)
          · exact .inr ⟨t', b', by omega, h2, h3, h4, h5⟩
theorem ways {s : Spp} (hs : Sm s) (G : Good s) {i : Nat} (hi : i < s.ranked.length) (K : Nat) (hK : K ≤ s.ranked[i].length) : ∀ (n k : Nat) (acc : List l10Pair), n + k = K → acc.length ≤ 20 * k →
    ∃ r, loopP (m93_1b (s.ranked[i].take K) ((s.ranked[i].take K).length : Int) s) ((k : Int), acc) = some r ∧ r.length ≤ 20 * K ∧ ∀ y, y ∈ r ↔ y ∈ acc ∨ ∃ k' t b, k ≤ k' ∧ k' < K ∧ 1 ≤ t ∧ t + 1 < (wy s (i, k')).length ∧ Vd s b ∧ (wy s (i, k')).drop t = wy s b ∧ y = encP b := by
  have hl6 := G.len i hi
  have hKl : (s.ranked[i].take K).length = K := by rw [List.length_take]; omega
  intro n
  induction n with
  | zero =>
    intro k acc hn ha
    refine ⟨acc, loopP_out (by simp only [m93_1b, sel2, hKl, (ltI_not (k : Int) (K : Int)).2 (by omega), br_false]), by omega, fun y => ⟨.inl, fun h => ?_⟩⟩
    rcases h with h | ⟨k', t, b, h1, h2, _⟩
    · exact h
    · omega
  | succ n ih =>
    intro k acc hn ha
    have hk : k < s.ranked[i].length := by omega
    have hkt : k < (s.ranked[i].take K).length := by omega
    have hw := way_parts (G.way i hi k hk)
    have hlen6 := row_len hw.2.2.1
    have hn5 := G.n
    obtain ⟨r, r1, r2, r3⟩ := along hs G hi hk (s.ranked[i][k].length - 2) 1 acc (by omega) (by omega) (by omega)
    obtain ⟨q, q1, q2, q3⟩ := ih (k + 1) r (by omega) (by omega)
    have hget : (s.ranked[i].take K)[k] = s.ranked[i][k] := List.getElem_take
    have r1' : loopP (m93_3b s.ranked[i][k] s) (1, acc) = some r := r1
    refine ⟨q, ?_, q2, fun y => ?_⟩
    · rw [← q1]
      refine loopP_nxt ?_
      simp only [m93_1b, sel2, (ltI_iff (k : Int) ((s.ranked[i].take K).length : Int)).2 (by omega), br_true, idx_get hkt, hget, bnd_ok, r1', wsucc hkt (by omega)]
    · rw [q3, r3]
      constructor
      · rintro ((h | ⟨t, b, h1, h2, h3, h4, h5⟩) | ⟨k', t, b, h1, h⟩)
        · exact .inl h
        · exact .inr ⟨k, t, b, Nat.le_refl _, by omega, h1, by rw [wy_eq hi hk]; exact h2, h3, by rw [wy_eq hi hk]; exact h4, h5⟩
        · exact .inr ⟨k', t, b, by omega, h⟩
      · rintro (h | ⟨k', t, b, h1, h2, h3, h4, h5, h6, h7⟩)
        · exact .inl (.inl h)
        · by_cases hkk : k' = k
          · subst hkk
            rw [wy_eq hi hk] at h4 h6
            exact .inl (.inr ⟨t, b, h3, h4, h5, h6, h7⟩)
          · exact .inr ⟨k', t, b, by omega, h2, h3, h4, h5, h6, h7⟩
theorem p93 {s : Spp} (hs : Sm s) (G : Good s) (a : Nat × Nat) (ha : Vd s a) : ∃ r, m93 s (encP a) = some r ∧ r.length ≤ 1000 ∧ ∀ y, y ∈ r ↔ ∃ b, Ed s a b ∧ y = encP b := by
  obtain ⟨i, k⟩ := a
  have ha0 := ha
  obtain ⟨hi, hk⟩ := ha
  simp only at hi hk
  have hl6 := G.len i hi
  have hn5 := G.n
  obtain ⟨r, r1, r2, r3⟩ := ways hs G hi (k + 1) (by omega) (k + 1) 0 [] (by omega) (by simp)
  have e1 : wsub .i64 ((i : Int) + 1) 1 = (i : Int) := by rw [wsub64 (by omega) (by omega)]; omega
  have e2 : wadd .i64 (k : Int) 1 = ((k + 1 : Nat) : Int) := by rw [wadd64 (by omega) (by omega)]; omega
  have r1' : loopP (m93_1b (s.ranked[i].take (k + 1)) ((s.ranked[i].take (k + 1)).length : Int) s) (0, []) = some r := r1
  refine ⟨r, ?_, by omega, fun y => ?_⟩
  · simp only [m93, encP, e1, e2, idx_get hi, bnd_ok, ck_ok (show 0 ≤ ((k + 1 : Nat) : Int) ∧ ((k + 1 : Nat) : Int) ≤ (s.ranked[i].length : Int) by omega), Int.toNat_natCast, r1']
  · rw [r3]
    constructor
    · rintro (h | ⟨k', t, b, _, h2, h3, h4, h5, h6, h7⟩)
      · cases h
      · exact ⟨b, ⟨ha0, h5, k', by simp only []; omega, t, h3, h4, h6⟩, h7⟩
    · rintro ⟨b, ⟨_, h5, k', h2, t, h3, h4, h6⟩, h7⟩
      simp only at h2 h4 h6
      exact .inr ⟨k', t, b, Nat.zero_le _, by omega, h3, h4, h5, h6, h7⟩
/-! ### Leading -/
open Classical in
theorem p69 {s : Spp} (hs : Sm s) (G : Good s) (a b : Nat × Nat) (ha : Vd s a) (hb : Vd s b) : m69 s (encT a) (encT b) = some (decide (Ed s a b)) := by
  obtain ⟨i, k⟩ := a
  obtain ⟨j, m⟩ := b
  have ha0 := ha
  have hb0 := hb
  obtain ⟨hi, hk⟩ := ha
  obtain ⟨hj, hm⟩ := hb
  simp only at hi hk hj hm
  have hl6 := G.len i hi
  have hn5 := G.n
  have hwb := way_parts (G.way j hj m hm)
  have e2 : wadd .i64 (k : Int) 1 = ((k + 1 : Nat) : Int) := by rw [wadd64 (by omega) (by omega)]; omega
  unfold m69
  by_cases hij : i = j
  · subst hij
    have hno : ¬ Ed s (i, k) (i, m) := by
      rintro ⟨_, _, k', hk', t, h1, h2, h3⟩
      simp only at hk' h2 h3
      have hkl : k' < s.ranked[i].length := by omega
      rw [wy_eq hi hkl] at h2 h3
      rw [wy_eq hi hm] at h3
      have h0 := wy_head G hi hm
      rw [← h3, List.getElem?_drop, Nat.add_zero, List.getElem?_eq_getElem (show t < s.ranked[i][k'].length by omega)] at h0
      have hz := wy_head G hi hkl
      rw [List.getElem?_eq_getElem (show 0 < s.ranked[i][k'].length by omega)] at hz
      have := (row_at (way_parts (G.way i hi k' hkl)).2.2.1 t (by omega)).2.1
      refine this (List.mem_take_iff_getElem.2 ⟨0, by omega, ?_⟩)
      rw [Option.some.inj hz, Option.some.inj h0]
    rw [decide_eq_false hno]
    simp only [encT, eqI_self, br_true]
  · simp only [encT, (eqI_not (i : Int) (j : Int)).2 (by omega), br_false, idx_get hj, idx_get hm, idx_get hi, bnd_ok, e2, ck_ok (show 0 ≤ ((k + 1 : Nat) : Int) ∧ ((k + 1 : Nat) : Int) ≤ (s.ranked[i].length : Int) by omega), Int.toNat_natCast]
    have hf : ∀ q ∈ s.ranked[i].take (k + 1), m95 q s.ranked[j][m] = some (decide (s.ranked[j][m].length < q.length ∧ q.drop (q.length - s.ranked[j][m].length) = s.ranked[j][m])) := by
      intro q hq
      have hqm := List.mem_of_mem_take hq
      have hql := (hs.2 _ (List.getElem_mem hi)).2 _ hqm
      unfold m95 m95_1
      by_cases c : s.ranked[j][m].length < q.length
      · have ew : wsub .i64 (q.length : Int) (s.ranked[j][m].length : Int) = ((q.length - s.ranked[j][m].length : Nat) : Int) := by rw [wsub64 (by omega) (by omega)]; omega
        rw [(ltI_iff _ _).2 (by omega), br_true, ew, ck_ok ⟨by omega, by omega⟩, Int.toNat_natCast, p55 _ _ (by rw [List.length_drop]; omega), bnd_ok, bnd_ok]
        congr 1
        rw [decide_eq_decide]
        exact ⟨fun h => ⟨c, h⟩, fun h => h.2⟩
      · rw [(ltI_not _ _).2 (by omega), br_false, bnd_ok, decide_eq_false (fun h => c h.1)]
    rw [p53 (s.ranked[i].take (k + 1)) (by rw [List.length_take]; omega) (fun y0 => m95 y0 s.ranked[j][m]) _ hf, bnd_ok, Option.some.injEq, Bool.eq_iff_iff, List.any_eq_true, decide_eq_true_eq]
    constructor
    · rintro ⟨q, hq, h⟩
      obtain ⟨h1, h2⟩ := of_decide_eq_true h
      obtain ⟨k', hk', rfl⟩ := List.getElem_of_mem hq
      rw [List.length_take] at hk'
      rw [List.getElem_take] at h1 h2
      refine ⟨ha0, hb0, k', by simp only []; omega, s.ranked[i][k'].length - s.ranked[j][m].length, by omega, ?_, ?_⟩
      · rw [wy_eq hi (by omega)]; omega
      · rw [wy_eq hi (by omega), wy_eq hj hm]; exact h2
    · rintro ⟨_, _, k', hk', t, h1, h2, h3⟩
      simp only at hk' h2 h3
      have hkl : k' < s.ranked[i].length := by omega
      rw [wy_eq hi hkl] at h2 h3
      rw [wy_eq hj hm] at h3
      have hlen : s.ranked[j][m].length = s.ranked[i][k'].length - t := by rw [← h3, List.length_drop]
      refine ⟨s.ranked[i][k'], List.mem_take_iff_getElem.2 ⟨k', by omega, rfl⟩, decide_eq_true ⟨by omega, ?_⟩⟩
      rw [show s.ranked[i][k'].length - s.ranked[j][m].length = t by omega]
      exact h3
/-! ### Ways from pair to pair -/
section
variable {α : Type}
inductive Tr (E : α → α → Prop) : α → α → Prop
  | one {a b : α} (h : E a b) : Tr E a b
  | step {a b c : α} (h : Tr E a b) (k : E b c) : Tr E a c
theorem Tr.head {E : α → α → Prop} {a c : α} (h : Tr E a c) : E a c ∨ ∃ b, E a b ∧ Tr E b c := by
  induction h with
  | one h => exact .inl h
  | step _ k ih =>
    rcases ih with ih | ⟨b, h1, h2⟩
    · exact .inr ⟨_, ih, .one k⟩
    · exact .inr ⟨b, h1, .step h2 k⟩
theorem Tr.next {E : α → α → Prop} {a : α} (h : Tr E a a) : ∃ b, E a b ∧ Tr E b b := by
  rcases h.head with h | ⟨b, h1, h2⟩
  · exact ⟨a, h, .one h⟩
  · exact ⟨b, h1, .step h2 h1⟩
open Classical in
/-- Where each one of some has one of them behind it, one comes back to itself. -/
theorem ring_of {E : α → α → Prop} : ∀ (n : Nat) (L : List α), L.length ≤ n → L ≠ [] → (∀ a ∈ L, ∃ b ∈ L, E a b) → ∃ x ∈ L, Tr E x x := by
  intro n
  induction n with
  | zero => intro L hl hn; exact absurd (List.eq_nil_of_length_eq_zero (by omega)) hn
  | succ n ih =>
    intro L hl hn hs
    cases L with
    | nil => exact absurd rfl hn
    | cons a r =>
      by_cases ha : Tr E a a
      · exact ⟨a, by simp, ha⟩
      · have hsub : ∀ x, x ∈ (a :: r).filter (fun y => decide (Tr E a y)) ↔ x ∈ a :: r ∧ Tr E a x := by intro x; rw [List.mem_filter, decide_eq_true_eq]
        have hlen : ((a :: r).filter (fun y => decide (Tr E a y))).length ≤ n := by
          rw [List.filter_cons, if_neg (by simpa using ha)]
          have := List.length_filter_le (fun y => decide (Tr E a y)) r
          simp at hl; omega
        obtain ⟨b, hb, hab⟩ := hs a (by simp)
        obtain ⟨x, hx, ht⟩ := ih _ hlen (List.ne_nil_of_mem ((hsub b).2 ⟨hb, .one hab⟩)) (fun y hy => by
          obtain ⟨hy1, hy2⟩ := (hsub y).1 hy
          obtain ⟨z, hz1, hz2⟩ := hs y hy1
          exact ⟨z, (hsub z).2 ⟨hz1, .step hy2 hz2⟩, hz2⟩)
        exact ⟨x, ((hsub x).1 hx).1, ht⟩
end
/-! ### The reference -/
def U : List l10Pair := (List.range 5).flatMap fun i => (List.range 6).map fun k => encP (i, k)
theorem U_len : U.length = 30 := by decide
theorem U_mem {s : Spp} (G : Good s) {a : Nat × Nat} (ha : Vd s a) : encP a ∈ U := by
  obtain ⟨i, k⟩ := a
  obtain ⟨hi, hk⟩ := ha
  simp only at hi hk
  have := G.n
  have := G.len i hi
  exact List.mem_flatMap.2 ⟨i, List.mem_range.2 (by omega), List.mem_map.2 ⟨k, List.mem_range.2 (by omega), rfl⟩⟩
theorem eqP (a b : l10Pair) : (eqI a.node b.node && eqI a.path b.path) = decide (a = b) := by
  rw [Bool.eq_iff_iff, Bool.and_eq_true, eqI_iff, eqI_iff, decide_eq_true_eq]
  constructor
  · rintro ⟨h1, h2⟩; cases a; cases b; simp_all
  · rintro rfl; exact ⟨rfl, rfl⟩
theorem had (seen : List l10Pair) (hl : seen.length ≤ 1000) (y : l10Pair) : ∀ (n k : Nat) (b : Bool), n + k = seen.length → loopP (m63_16b (seen.length : Int) seen y) (b, (k : Int)) = some (b || decide (y ∈ seen.drop k)) := by
  intro n
  induction n with
  | zero =>
    intro k b hn
    rw [List.drop_eq_nil_of_le (by omega)]
    refine loopP_out ?_
    simp only [m63_16b, sel2, (ltI_not (k : Int) (seen.length : Int)).2 (by omega), br_false]; simp
  | succ n ih =>
    intro k b hn
    have h : k < seen.length := by omega
    rw [List.drop_eq_getElem_cons h]
    have e18 : m63_18 b y seen[k] = some (b || decide (seen[k] = y)) := by
      unfold m63_18
      cases b with
      | true => rfl
      | false => rw [br_false, eqP, Bool.false_or]
    rw [loopP_nxt (s' := (b || decide (seen[k] = y), ((k + 1 : Nat) : Int)))]
    · rw [ih (k + 1) _ (by omega), Option.some.injEq, Bool.or_assoc]
      congr 1
      rw [Bool.eq_iff_iff, Bool.or_eq_true, decide_eq_true_eq, decide_eq_true_eq, decide_eq_true_eq, List.mem_cons]
      constructor
      · rintro (h | h)
        · exact .inl h.symm
        · exact .inr h
      · rintro (h | h)
        · exact .inl h.symm
        · exact .inr h
    · simp only [m63_16b, sel2, (ltI_iff (k : Int) (seen.length : Int)).2 (by omega), br_true, idx_get h, bnd_ok, e18, wsucc h (by omega)]
structure Base (s : Spp) (x : Nat × Nat) (seen : List l10Pair) : Prop where
  mem : encP x ∈ seen
  ok : ∀ y ∈ seen, ∃ a, Vd s a ∧ y = encP a ∧ (a = x ∨ Tr (Ed s) x a)
  cnt : seen.length + mu U seen ≤ 100
theorem inner {s : Spp} (G : Good s) (x a : Nat × Nat) (ha : a = x ∨ Tr (Ed s) x a) (r : List l10Pair) (hr : r.length ≤ 1000) (hrE : ∀ y ∈ r, ∃ b, Ed s a b ∧ y = encP b) : ∀ (n k : Nat) (seen : List l10Pair), n + k = r.length → Base s x seen → (∀ y ∈ r.take k, y ∈ seen ∧ y ≠ encP x) →
    ∃ o, loopP (m63_11b r (r.length : Int) (encP x)) ((k : Int), seen) = some o ∧ match o with
      | .inl seen' => (∃ ext, seen' = seen ++ ext) ∧ Base s x seen' ∧ (∀ y ∈ r, y ∈ seen' ∧ y ≠ encP x) ∧ seen'.length + mu U seen' ≤ seen.length + mu U seen
      | .inr () => Tr (Ed s) x x := by
  intro n
  induction n with
  | zero =>
    intro k seen hn hb hk
    refine ⟨.inl seen, loopP_out (by simp only [m63_11b, sel2, (ltI_not (k : Int) (r.length : Int)).2 (by omega), br_false]), ⟨[], by simp⟩, hb, fun y hy => hk y (by rw [List.take_of_length_le (by omega)]; exact hy), Nat.le_refl _⟩
  | succ n ih =>
    intro k seen hn hb hk
    have h : k < r.length := by omega
    obtain ⟨b, hE, hyb⟩ := hrE r[k] (List.getElem_mem h)
    have hcnt := hb.cnt
    have htr : Tr (Ed s) x b := by
      rcases ha with rfl | ha
      · exact .one hE
      · exact .step ha hE
    by_cases c1 : r[k] = encP x
    · refine ⟨.inr (), loopP_out ?_, ?_⟩
      · simp only [m63_11b, sel2, (ltI_iff (k : Int) (r.length : Int)).2 (by omega), br_true, idx_get h, bnd_ok, eqP, decide_eq_true c1]
      · have : b = x := encP_inj (by rw [← hyb, c1])
        subst this; exact htr
    · have hh := had seen (by omega) r[k] seen.length 0 false (by omega)
      have hh' : loopP (m63_16b (seen.length : Int) seen r[k]) (false, 0) = some (decide (r[k] ∈ seen)) := by
        have e : loopP (m63_16b (seen.length : Int) seen r[k]) (false, 0) = _ := hh
        rw [e, List.drop_zero, Bool.false_or]
      by_cases c3 : r[k] ∈ seen
      · obtain ⟨o, o1, o2⟩ := ih (k + 1) seen (by omega) hb (fun y hy => by
          rw [take_succ_get r k h] at hy
          rcases List.mem_append.1 hy with hy | hy
          · exact hk y hy
          · rw [List.mem_singleton] at hy; subst hy; exact ⟨c3, c1⟩)
        refine ⟨o, ?_, o2⟩
        rw [← o1]
        refine loopP_nxt ?_
        simp only [m63_11b, m63_19, sel2, (ltI_iff (k : Int) (r.length : Int)).2 (by omega), br_true, idx_get h, bnd_ok, eqP, decide_eq_false c1, br_false, hh', decide_eq_true c3, Bool.not_true, wsucc h (by omega)]
      · have hmu := mu_add (U := U) (by rw [hyb]; exact U_mem G hE.2.1) c3
        have hb' : Base s x (seen ++ [r[k]]) := by
          refine ⟨by simp [hb.mem], fun y hy => ?_, by simp; omega⟩
          rcases List.mem_append.1 hy with hy | hy
          · exact hb.ok y hy
          · rw [List.mem_singleton] at hy
            exact ⟨b, hE.2.1, by rw [hy, hyb], .inr htr⟩
        obtain ⟨o, o1, o2⟩ := ih (k + 1) (seen ++ [r[k]]) (by omega) hb' (fun y hy => by
          rw [take_succ_get r k h] at hy
          rcases List.mem_append.1 hy with hy | hy
          · have := hk y hy; exact ⟨by simp [this.1], this.2⟩
          · rw [List.mem_singleton] at hy; subst hy; exact ⟨by simp, c1⟩)
        refine ⟨o, ?_, ?_⟩
        · rw [← o1]
          refine loopP_nxt ?_
          simp only [m63_11b, m63_19, sel2, (ltI_iff (k : Int) (r.length : Int)).2 (by omega), br_true, idx_get h, bnd_ok, eqP, decide_eq_false c1, br_false, hh', decide_eq_false c3, Bool.not_false, ck_ok (show seen.length + 1 ≤ 4294967296 by omega), wsucc h (by omega)]
        · cases o with
          | inr u => exact o2
          | inl seen' =>
            obtain ⟨⟨ext, e⟩, q1, q2, q3⟩ := o2
            exact ⟨⟨[r[k]] ++ ext, by rw [e, List.append_assoc]⟩, q1, q2, by simp at q3; omega⟩
theorem p63 {s : Spp} (hs : Sm s) (G : Good s) (x : Nat × Nat) (hx : Vd s x) : ∃ b, m63 s (encP x) (encP x) = some b ∧ (b = true ↔ Tr (Ed s) x x) := by
  have key : ∃ o, loopP (m63_1b s (encP x)) (0, [encP x]) = some o ∧ match o with
      | .inl () => ¬ Tr (Ed s) x x
      | .inr () => Tr (Ed s) x x := by
    refine loopP_inv (body := m63_1b s (encP x)) (fun p => ∃ i : Nat, p.1 = (i : Int) ∧ i ≤ p.2.length ∧ Base s x p.2 ∧ ∀ (j : Nat) (hj : j < i) (hj' : j < p.2.length) a b, p.2[j] = encP a → Ed s a b → encP b ∈ p.2 ∧ b ≠ x) (fun b => match b with
      | .inl () => ¬ Tr (Ed s) x x
      | .inr () => Tr (Ed s) x x) (fun p => 2 * mu U p.2 + (p.2.length - p.1.toNat)) ?_ (0, [encP x]) ⟨0, rfl, by simp, ⟨by simp, fun y hy => ⟨x, hx, by simpa using hy, .inl rfl⟩, by have := mu_le U [encP x]; rw [U_len] at this; simp; omega⟩, fun j hj => by omega⟩
    rintro ⟨a, seen⟩ ⟨i, hi, hle, hb, hc⟩
    simp only at hi hle hb hc
    subst hi
    have hcnt := hb.cnt
    by_cases h : i < seen.length
    · obtain ⟨a, hva, hea, hta⟩ := hb.ok seen[i] (List.getElem_mem h)
      obtain ⟨r, r1, r2, r3⟩ := p93 hs G a hva
      obtain ⟨o, o1, o2⟩ := inner G x a hta r r2 (fun y hy => (r3 y).1 hy) r.length 0 seen (by omega) hb (by simp)
      have o1' : loopP (m63_11b r (r.length : Int) (encP x)) (0, seen) = some o := o1
      cases o with
      | inr u =>
        refine ⟨.out (.inr ()), ?_, o2⟩
        simp only [m63_1b, sel2, (ltI_iff (i : Int) (seen.length : Int)).2 (by omega), br_true, idx_get h, hea, r1, bnd_ok, o1', selS_inr]
      | inl seen' =>
        obtain ⟨⟨ext, e⟩, q1, q2, q3⟩ := o2
        have hl' : seen'.length = seen.length + ext.length := by rw [e]; simp
        refine ⟨.nxt (((i + 1 : Nat) : Int), seen'), ?_, ⟨i + 1, rfl, by simp only []; omega, q1, fun j hj hj' a' b' hab hE => ?_⟩, by simp only []; omega⟩
        · simp only [m63_1b, sel2, (ltI_iff (i : Int) (seen.length : Int)).2 (by omega), br_true, idx_get h, hea, r1, bnd_ok, o1', selS_inl, wsucc h (by omega)]
        · simp only at hj' hab ⊢
          have hjs : j < seen.length := by omega
          have hg : seen'[j] = seen[j] := by subst e; exact List.getElem_append_left hjs
          rw [hg] at hab
          by_cases hji : j = i
          · subst hji
            rw [hea] at hab
            have := encP_inj hab
            subst this
            have := q2 (encP b') ((r3 _).2 ⟨b', hE, rfl⟩)
            exact ⟨this.1, fun hbx => this.2 (by rw [hbx])⟩
          · have := hc j (by omega) hjs a' b' hab hE
            exact ⟨by rw [e]; simp [this.1], this.2⟩
    · refine ⟨.out (.inl ()), by simp only [m63_1b, sel2, (ltI_not (i : Int) (seen.length : Int)).2 (by omega), br_false], ?_⟩
      have close : ∀ a, encP a ∈ seen → ∀ b, Ed s a b → encP b ∈ seen ∧ b ≠ x := by
        intro a hm b hE
        obtain ⟨j, hj, hje⟩ := List.getElem_of_mem hm
        exact hc j (by omega) hj a b hje hE
      have key : ∀ a b, Tr (Ed s) a b → a = x → encP b ∈ seen ∧ b ≠ x := by
        intro a b ht
        induction ht with
        | one h => intro ha; subst ha; exact close _ hb.mem _ h
        | step _ k ih => intro ha; exact close _ (ih ha).1 _ k
      intro ht
      exact (key x x ht rfl).2 rfl
  obtain ⟨o, o1, o2⟩ := key
  unfold m63
  rw [o1, bnd_ok]
  cases o with
  | inl u => exact ⟨false, rfl, by simpa using o2⟩
  | inr u => exact ⟨true, rfl, by simpa using o2⟩
theorem p24 {s : Spp} (hs : Sm s) (G : Good s) : ∃ b, loopP (m24_1b s (s.ranked.length : Int)) 0 = some b ∧ match b with
    | .inl () => ∀ a, Vd s a → ¬ Tr (Ed s) a a
    | .inr () => ∃ a, Vd s a ∧ Tr (Ed s) a a := by
  have hn := G.n
  have key : ∀ (n i : Nat), n + i = s.ranked.length → (∀ a, Vd s a → a.1 < i → ¬ Tr (Ed s) a a) → ∃ b, loopP (m24_1b s (s.ranked.length : Int)) (i : Int) = some b ∧ match b with
      | .inl () => ∀ a, Vd s a → ¬ Tr (Ed s) a a
      | .inr () => ∃ a, Vd s a ∧ Tr (Ed s) a a := by
    intro n
    induction n with
    | zero =>
      intro i hi hno
      refine ⟨.inl (), loopP_out (by simp only [m24_1b, (ltI_not (i : Int) (s.ranked.length : Int)).2 (by omega), br_false]), fun a ha => hno a ha ?_⟩
      obtain ⟨h, _⟩ := ha; omega
    | succ n ih =>
      intro i hi hno
      have h : i < s.ranked.length := by omega
      have hl6 := G.len i h
      have e1 : wadd .i64 (i : Int) 1 = (i : Int) + 1 := wadd64 (by omega) (by omega)
      have kin : ∀ (m k : Nat), m + k = s.ranked[i].length → (∀ k', k' < k → ¬ Tr (Ed s) (i, k') (i, k')) → ∃ b, loopP (m24_3b (i : Int) s (s.ranked[i].length : Int)) (k : Int) = some b ∧ match b with
          | .inl () => ∀ k', k' < s.ranked[i].length → ¬ Tr (Ed s) (i, k') (i, k')
          | .inr () => ∃ a, Vd s a ∧ Tr (Ed s) a a := by
        intro m
        induction m with
        | zero =>
          intro k hk hno'
          exact ⟨.inl (), loopP_out (by simp only [m24_3b, (ltI_not (k : Int) (s.ranked[i].length : Int)).2 (by omega), br_false]), fun k' hk' => hno' k' (by omega)⟩
        | succ m ih' =>
          intro k hk hno'
          have hkl : k < s.ranked[i].length := by omega
          obtain ⟨b, b1, b2⟩ := p63 hs G (i, k) ⟨h, hkl⟩
          have hp : (⟨(i : Int) + 1, (k : Int)⟩ : l10Pair) = encP (i, k) := rfl
          cases b with
          | true => exact ⟨.inr (), loopP_out (by simp only [m24_3b, (ltI_iff (k : Int) (s.ranked[i].length : Int)).2 (by omega), br_true, e1, hp, b1, bnd_ok]), (i, k), ⟨h, hkl⟩, b2.1 rfl⟩
          | false =>
            have hnk : ¬ Tr (Ed s) (i, k) (i, k) := fun ht => by have := b2.2 ht; cases this
            obtain ⟨c, c1, c2⟩ := ih' (k + 1) (by omega) (fun k' hk' => by
              by_cases hkk : k' = k
              · subst hkk; exact hnk
              · exact hno' k' (by omega))
            refine ⟨c, ?_, c2⟩
            rw [← c1]
            refine loopP_nxt ?_
            simp only [m24_3b, (ltI_iff (k : Int) (s.ranked[i].length : Int)).2 (by omega), br_true, e1, hp, b1, bnd_ok, br_false, wsucc hkl (by omega)]
      obtain ⟨b, b1, b2⟩ := kin s.ranked[i].length 0 (by omega) (fun k' hk' => by omega)
      have b1' : loopP (m24_3b (i : Int) s (s.ranked[i].length : Int)) 0 = some b := b1
      cases b with
      | inr u => exact ⟨.inr (), loopP_out (by simp only [m24_1b, (ltI_iff (i : Int) (s.ranked.length : Int)).2 (by omega), br_true, idx_get h, bnd_ok, b1', selS_inr]), b2⟩
      | inl u =>
        obtain ⟨c, c1, c2⟩ := ih (i + 1) (by omega) (fun a ha hai => by
          by_cases haa : a.1 < i
          · exact hno a ha haa
          · obtain ⟨a1, a2⟩ := a
            simp only at hai haa
            have : a1 = i := by omega
            subst this
            obtain ⟨_, hk⟩ := ha
            exact b2 a2 hk)
        refine ⟨c, ?_, c2⟩
        rw [← c1]
        refine loopP_nxt ?_
        simp only [m24_1b, (ltI_iff (i : Int) (s.ranked.length : Int)).2 (by omega), br_true, idx_get h, bnd_ok, b1', selS_inl, wsucc h (by omega)]
  exact key s.ranked.length 0 (by omega) (fun a _ h => by omega)
/-! ### The program -/
theorem p94 (l : List turn) (hl : l.length ≤ 1000) (f : turn → Option Bool) (p : turn → Bool) (hf : ∀ x ∈ l, f x = some (p x)) : m94 l f = some (match findI p l with | none => (-1 : Int) | some i => (i : Int)) := by
  unfold m94
  exact indexFunc (body := m94_1b l (l.length : Int) f) (f := f) l p hf (by omega) (fun s => rfl)
theorem p67 (l : List turn) (hl : l.length ≤ 1000) (f : turn → Option Bool) (p : turn → Bool) (hf : ∀ x ∈ l, f x = some (p x)) : m67 l f = some (l.any p) := by
  unfold m67
  rw [p94 l hl f p hf, bnd_ok]
  exact congrArg some (containsFunc (p := p) (xs := l))
theorem p64 (l : List turn) (hl : l.length ≤ 1000) (f : turn → Option Bool) (p : turn → Bool) (hf : ∀ x ∈ l, f x = some (p x)) : m64 l f = some (l.filter (fun x => !p x)) := by
  unfold m64
  rw [p94 l hl f p hf, bnd_ok]
  exact deleteFunc (body := m64_1b f) p l hf (by omega) (fun i j l => rfl)
def ofT (t : turn) : Nat × Nat := (t.node.toNat, t.way.toNat)
theorem ofT_enc (a : Nat × Nat) : ofT (encT a) = a := by simp [ofT, encT]
/-- Turns that there are. -/
def AllV (s : Spp) (left : List turn) : Prop := ∀ t ∈ left, ∃ a, Vd s a ∧ t = encT a
open Classical in
noncomputable def hasNext (s : Spp) (left : List turn) (t : turn) : Bool := left.any fun u => decide (Ed s (ofT t) (ofT u))
open Classical in
theorem p66 {s : Spp} (hs : Sm s) (G : Good s) (left : List turn) (hl : left.length ≤ 1000) (hv : AllV s left) (t : turn) (ht : t ∈ left) : m66 t left s = some (!hasNext s left t) := by
  obtain ⟨a, ha, rfl⟩ := hv t ht
  unfold m66 hasNext
  rw [p67 left hl (fun y0 => m68 y0 s (encT a)) (fun u => decide (Ed s (ofT (encT a)) (ofT u))) (fun u hu => by
    obtain ⟨b, hb, rfl⟩ := hv u hu
    unfold m68
    rw [p69 hs G a b ha hb, bnd_ok, ofT_enc, ofT_enc]), bnd_ok]
theorem ups {s : Spp} (G : Good s) : ∃ b, loopP (m25_1b s (s.ranked.length : Int)) (0, []) = some b ∧ AllV s b ∧ (∀ a, Vd s a → encT a ∈ b) ∧ b.length ≤ 30 := by
  have hn := G.n
  have key : ∀ (n i : Nat) (acc : List turn), n + i = s.ranked.length → AllV s acc → (∀ a, Vd s a → a.1 < i → encT a ∈ acc) → acc.length ≤ 6 * i → ∃ b, loopP (m25_1b s (s.ranked.length : Int)) ((i : Int), acc) = some b ∧ AllV s b ∧ (∀ a, Vd s a → encT a ∈ b) ∧ b.length ≤ 30 := by
    intro n
    induction n with
    | zero =>
      intro i acc hi h1 h2 h3
      refine ⟨acc, loopP_out (by simp only [m25_1b, sel2, (ltI_not (i : Int) (s.ranked.length : Int)).2 (by omega), br_false]), h1, fun a ha => h2 a ha ?_, by omega⟩
      obtain ⟨h, _⟩ := ha; omega
    | succ n ih =>
      intro i acc hi h1 h2 h3
      have h : i < s.ranked.length := by omega
      have hl6 := G.len i h
      have kin : ∀ (m k : Nat) (ac : List turn), m + k = s.ranked[i].length → AllV s ac → (∀ a, Vd s a → a.1 < i → encT a ∈ ac) → (∀ k', k' < k → encT (i, k') ∈ ac) → ac.length ≤ 6 * i + k → ∃ b, loopP (m25_3b (i : Int) (s.ranked[i].length : Int)) ((k : Int), ac) = some b ∧ AllV s b ∧ (∀ a, Vd s a → a.1 < i + 1 → encT a ∈ b) ∧ b.length ≤ 6 * (i + 1) := by
        intro m
        induction m with
        | zero =>
          intro k ac hk g1 g2 g3 g4
          refine ⟨ac, loopP_out (by simp only [m25_3b, sel2, (ltI_not (k : Int) (s.ranked[i].length : Int)).2 (by omega), br_false]), g1, fun a ha hai => ?_, by omega⟩
          by_cases haa : a.1 < i
          · exact g2 a ha haa
          · obtain ⟨a1, a2⟩ := a
            simp only at hai haa
            have : a1 = i := by omega
            subst this
            obtain ⟨_, hk2⟩ := ha
            exact g3 a2 (by simp only at hk2; omega)
        | succ m ih' =>
          intro k ac hk g1 g2 g3 g4
          have hkl : k < s.ranked[i].length := by omega
          obtain ⟨b, b1, b2⟩ := ih' (k + 1) (ac ++ [encT (i, k)]) (by omega) (fun t ht => by
              rcases List.mem_append.1 ht with ht | ht
              · exact g1 t ht
              · rw [List.mem_singleton] at ht; exact ⟨(i, k), ⟨h, hkl⟩, ht⟩)
            (fun a ha hai => by simp [g2 a ha hai]) (fun k' hk' => by
              by_cases hkk : k' = k
              · subst hkk; simp
              · simp [g3 k' (by omega)]) (by simp; omega)
          refine ⟨b, ?_, b2⟩
          rw [← b1]
          refine loopP_nxt ?_
          have he : (⟨(i : Int), (k : Int)⟩ : turn) = encT (i, k) := rfl
          simp only [m25_3b, sel2, (ltI_iff (k : Int) (s.ranked[i].length : Int)).2 (by omega), br_true, ck_ok (show ac.length + 1 ≤ 4294967296 by omega), wsucc hkl (by omega), he]
      obtain ⟨b, b1, b2, b3, b4⟩ := kin s.ranked[i].length 0 acc (by omega) h1 h2 (fun k' hk' => by omega) (by omega)
      have b1' : loopP (m25_3b (i : Int) (s.ranked[i].length : Int)) (0, acc) = some b := b1
      obtain ⟨c, c1, c2⟩ := ih (i + 1) b (by omega) b2 b3 b4
      refine ⟨c, ?_, c2⟩
      rw [← c1]
      refine loopP_nxt ?_
      simp only [m25_1b, sel2, (ltI_iff (i : Int) (s.ranked.length : Int)).2 (by omega), br_true, idx_get h, bnd_ok, b1', wsucc h (by omega)]
  exact key s.ranked.length 0 [] (by omega) (fun t ht => by cases ht) (fun a _ h => by omega) (by simp)
theorem tr_vd {s : Spp} {a b : Nat × Nat} (h : Tr (Ed s) a b) : Vd s b := by
  cases h with
  | one h => exact h.2.1
  | step _ h => exact h.2.1
open Classical in
theorem loops {s : Spp} (hs : Sm s) (G : Good s) (left : List turn) (h1 : AllV s left) (h2 : ∀ a, Tr (Ed s) a a → encT a ∈ left) (h3 : left.length ≤ 30) :
    ∃ b, loopP (m25_4b s) left = some b ∧ (b = false ↔ ∀ a, ¬ Tr (Ed s) a a) := by
  refine loopP_inv (body := m25_4b s) (fun left => AllV s left ∧ (∀ a, Tr (Ed s) a a → encT a ∈ left) ∧ left.length ≤ 30) (fun b => b = false ↔ ∀ a, ¬ Tr (Ed s) a a) (fun left => left.length) ?_ left ⟨h1, h2, h3⟩
  rintro left ⟨h1, h2, h3⟩
  have e65 : m65 left = some left := by unfold m65; rw [ck_ok (by omega)]
  have e64 := p64 left (by omega) (fun y0 => m66 y0 left s) (fun t => !hasNext s left t) (fun t ht => p66 hs G left (by omega) h1 t ht)
  have efil : left.filter (fun x => !!hasNext s left x) = left.filter (hasNext s left) := by congr 1; funext x; simp
  rw [efil] at e64
  have hle := List.length_filter_le (hasNext s left) left
  by_cases h : (left.filter (hasNext s left)).length = left.length
  · refine ⟨.out (ltI 0 (left.length : Int)), by simp only [m25_4b, e65, e64, bnd_ok, (eqI_iff ((left.filter (hasNext s left)).length : Int) (left.length : Int)).2 (by omega), br_true], (?_ : ltI 0 (left.length : Int) = false ↔ ∀ a, ¬ Tr (Ed s) a a)⟩
    have hall : ∀ t ∈ left, hasNext s left t = true := List.length_filter_eq_length_iff.1 h
    rw [ltI_not]
    constructor
    · intro he a ha
      have : left = [] := List.eq_nil_of_length_eq_zero (by omega)
      have := h2 a ha
      simp_all
    · intro hno
      by_cases hn : left = []
      · subst hn; simp
      · exfalso
        obtain ⟨x, hx, ht⟩ := ring_of (E := Ed s) (left.map ofT).length (left.map ofT) (Nat.le_refl _) (by simpa using hn) (fun a ha => by
          obtain ⟨t, ht, rfl⟩ := List.mem_map.1 ha
          obtain ⟨u, hu, hk⟩ := List.any_eq_true.1 (hall t ht)
          exact ⟨ofT u, List.mem_map.2 ⟨u, hu, rfl⟩, of_decide_eq_true hk⟩)
        exact hno x ht
  · refine ⟨.nxt (left.filter (hasNext s left)), by simp only [m25_4b, e65, e64, bnd_ok, (eqI_not ((left.filter (hasNext s left)).length : Int) (left.length : Int)).2 (by omega), br_false], ⟨fun t ht => h1 t (List.mem_filter.1 ht).1, fun a ha => ?_, by omega⟩, by omega⟩
    obtain ⟨b, hb1, hb2⟩ := ha.next
    refine List.mem_filter.2 ⟨h2 a ha, List.any_eq_true.2 ⟨encT b, h2 b hb2, ?_⟩⟩
    rw [ofT_enc, ofT_enc]
    exact decide_eq_true hb1
theorem same (s : Spp) (hs : Sm s) : ∃ x y, m24 s = some (x, y) ∧ m25 s = some (x, y) := by
  unfold m24 m25
  rw [p14 s hs, p16 s hs, bnd_ok, bnd_ok]
  cases hg : goodB s with
  | false => exact ⟨_, _, rfl, rfl⟩
  | true =>
    have G := good_of hg
    obtain ⟨b, b1, b2⟩ := p24 hs G
    obtain ⟨left, l1, l2, l3, l4⟩ := ups G
    obtain ⟨c, c1, c2⟩ := loops hs G left l2 (fun a ha => l3 a (tr_vd ha)) l4
    rw [br_true, br_true, b1, l1, bnd_ok, bnd_ok, c1, bnd_ok]
    cases b with
    | inl u =>
      have : c = false := c2.2 (fun a ha => b2 a (tr_vd ha) ha)
      rw [this]; exact ⟨_, _, rfl, rfl⟩
    | inr u =>
      have : c = true := by
        cases hc : c with
        | true => rfl
        | false => obtain ⟨a, _, ha⟩ := b2; exact absurd ha (c2.1 hc a)
      rw [this]; exact ⟨_, _, rfl, rfl⟩
theorem law (s : Spp) (hw : wfSpp s) : m6 s = some true := by
  obtain ⟨v, e, lo, u, hsm⟩ := z13 s 1048576 hw (by omega) (by omega)
  unfold m6
  rw [e, bnd_ok]
  by_cases c : v < 0
  · rw [(ltI_iff _ _).2 c]; rfl
  rw [(ltI_not _ _).2 (by omega), br_false]
  have se := hsm (by omega)
  have hs : Sm s := by
    have h1 : s.ranked.length ≤ 1048576 ∧ ∀ w ∈ s.ranked, w.length ≤ 1048576 ∧ ∀ p ∈ w, p.length ≤ 1048576 := se
    exact ⟨by omega, fun w hw => ⟨by have := (h1.2 w hw).1; omega, fun p hp => by have := (h1.2 w hw).2 p hp; omega⟩⟩
  obtain ⟨x, y, e1, e2⟩ := same s hs
  simp only [t15 s se, bnd_ok, e1, e2, sel2_ok, m6_1, eqB_self, br_true, Bool.not_true, br_false, q17 s se]
end Go.Pi.Ytpfoleebeamgpaa.HasWheel
