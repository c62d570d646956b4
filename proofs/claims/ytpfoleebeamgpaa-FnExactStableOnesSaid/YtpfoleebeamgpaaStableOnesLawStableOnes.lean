/- What functions of the program answer, and that the law answers true at every input; no condition -/
import Derived.Test.YtpfoleebeamgpaaStableOnesStdStableOnes
set_option linter.all false
/- StableOnes: the program answers as the reference does. -/
namespace Go.Pi.Ytpfoleebeamgpaa.StableOnes
open Go Go.Pi
open Go Go.Pi
set_option linter.all false
/-! ### Numbers and rows -/
theorem p51 (a x y : Int) : m51 a x y = some (decide (x ≤ a ∧ a ≤ y)) := by
  simp only [m51, m51_1, bnd_ok, br_bool]
  rw [Option.some.injEq, Bool.eq_iff_iff, decide_eq_true_eq]
  simp only [Bool.and_eq_true, Bool.or_eq_true, Bool.not_eq_true', leI_iff, ltI_iff, leI_not, and_false, or_false, Bool.false_eq_true]
theorem p47 (a x y : Int) : m47 a x y = some (decide (x ≤ a ∧ a ≤ y)) := p51 a x y
theorem any_eqI (l : List Int) (x : Int) : (l.any fun y => eqI y x) = decide (x ∈ l) := by
  rw [Bool.eq_iff_iff, List.any_eq_true, decide_eq_true_eq]
  constructor
  · rintro ⟨y, hy, h⟩; rw [(eqI_iff _ _).1 h] at hy; exact hy
  · intro h; exact ⟨x, h, eqI_self x⟩
theorem p87 (l : List Int) (x : Int) (hl : l.length ≤ 2000000) : m87 l x = some (decide (x ∈ l)) := by
  unfold m87
  have := loop_find (body := m87_1b x l (l.length : Int)) l (fun y => if eqI y x = true then some (.inr ()) else none) (.inl ()) (fun k h => by
    simp only [m87_1b, (ltI_iff (k : Int) (l.length : Int)).2 (by omega), br_true, idx_get h, bnd_ok, wsucc h (by omega)]
    cases eqI l[k] x <;> rfl) (by simp only [m87_1b, (ltI_not (l.length : Int) (l.length : Int)).2 (by omega), br_false])
  rw [this, bnd_ok, ← any_eqI]
  clear this hl
  induction l with
  | nil => rfl
  | cons y t ih =>
    simp only [List.findSome?_cons, List.any_cons]
    cases eqI y x with
    | true => rfl
    | false => simpa using ih
theorem p89 (l : List Int) (x : Int) (hl : l.length ≤ 2000000) : m89 l x = some (decide (x ∈ l)) := by
  unfold m89
  have h2 : m101 l x = some (match findI (fun y => eqI y x) l with | none => -1 | some i => (i : Int)) := by
    unfold m101
    have h3 := loop_index (body := m101_1b l x (l.length : Int)) l (f := fun y => some (eqI x y)) (fun y => eqI y x) (fun y _ => by rw [Option.some.injEq, Bool.eq_iff_iff, eqI_iff, eqI_iff]; exact ⟨fun h => h.symm, fun h => h.symm⟩) (by omega) (fun s => by simp only [m101_1b, bnd_ok])
    rw [h3, bnd_ok]
    cases findI (fun y => eqI y x) l <;> rfl
  rw [h2, bnd_ok, ← any_eqI]
  exact congrArg some (containsFunc (p := fun y => eqI y x) (xs := l))
theorem eqTwo (a b : List Int) (h : a.length = b.length) : allN a.length (fun k => match a[k]?, b[k]? with | some x, some y => eqI x y | _, _ => false) = decide (a = b) := by
  rw [Bool.eq_iff_iff, allN_iff, decide_eq_true_eq]
  constructor
  · intro hk
    refine List.ext_getElem h fun i h1 h2 => ?_
    have := hk i h1
    rw [List.getElem?_eq_getElem h1, List.getElem?_eq_getElem h2] at this
    exact (eqI_iff _ _).1 this
  · rintro rfl k hk
    rw [List.getElem?_eq_getElem hk]
    exact eqI_self _
theorem eqLoop (a b : List Int) (hl : a.length ≤ 2000000) {body : Int → Option (Ctl Int (Unit ⊕ Unit))}
    (hb : ∀ s, body s = br (ltI s (a.length : Int)) (bnd (idx a s) fun x => bnd (idx b s) fun y => br (eqI x y) (some (.nxt (wadd .i64 s 1))) (some (.out (.inr ())))) (some (.out (.inl ())))) :
    br (eqI (a.length : Int) (b.length : Int)) (bnd (loopP body 0) fun o => selS o (fun _ => some true) (fun _ => some false)) (some false) = some (decide (a = b)) := by
  by_cases h : a.length = b.length
  · rw [(eqI_iff _ _).2 (by omega), br_true, loop_all a.length (fun k => match a[k]?, b[k]? with | some x, some y => eqI x y | _, _ => false) (.inl ()) (.inr ()) (fun k hk => by
      have hk2 : k < b.length := by omega
      rw [hb, (ltI_iff (k : Int) (a.length : Int)).2 (by omega), br_true, idx_get hk, bnd_ok, idx_get hk2, bnd_ok, List.getElem?_eq_getElem hk, List.getElem?_eq_getElem hk2, wsucc hk (by omega)]
      show _ = some (if eqI a[k] b[k] = true then _ else _)
      cases eqI a[k] b[k] <;> rfl) (by rw [hb, (ltI_not (a.length : Int) (a.length : Int)).2 (by omega), br_false]), bnd_ok, eqTwo a b h]
    by_cases hab : a = b
    · rw [decide_eq_true hab]; rfl
    · rw [decide_eq_false hab]; rfl
  · rw [(eqI_not _ _).2 (by omega), br_false, decide_eq_false (fun e => h (by rw [e]))]
theorem p79 (a b : List Int) (hl : a.length ≤ 2000000) : m79 a b = some (decide (a = b)) := eqLoop a b hl (body := m79_1b a b (a.length : Int)) (fun s => rfl)
theorem p55 (a b : List Int) (hl : a.length ≤ 2000000) : m55 a b = some (decide (a = b)) := eqLoop a b hl (body := m55_1b a b (a.length : Int)) (fun s => rfl)
/-! ### Problems -/
/-- Small ones. -/
def Sm (s : Spp) : Prop := s.ranked.length ≤ 2000000 ∧ ∀ w ∈ s.ranked, w.length ≤ 2000000 ∧ ∀ p ∈ w, p.length ≤ 2000000
def atW (w : List (List Int)) (p : List Int) : Int := match findI (fun q => decide (q = p)) w with | none => -1 | some i => (i : Int)
theorem p49 (s : Spp) (hs : Sm s) (k : Nat) (hk : k < s.ranked.length) (a : Int) (ha : a = (k : Int) + 1) (p : List Int) : m49 s a p = some (atW s.ranked[k] p) := by
  have ha1 : wsub .i64 a 1 = (k : Int) := by have := hs.1; rw [wsub64 (by omega) (by omega)]; omega
  obtain ⟨h1, h2⟩ := hs.2 _ (List.getElem_mem hk)
  have h3 := loop_index (body := m49_1b p s.ranked[k] (s.ranked[k].length : Int)) s.ranked[k] (f := fun q => m79 q p) (fun q => decide (q = p)) (fun q hq => p79 q p (h2 q hq)) (by omega) (fun t => rfl)
  unfold m49 atW
  rw [ha1, idx_get hk, bnd_ok, h3, bnd_ok]
  cases findI (fun q => decide (q = p)) s.ranked[k] <;> rfl
theorem atW_mem (w : List (List Int)) (p : List Int) : 0 ≤ atW w p ↔ p ∈ w := by
  unfold atW
  cases h : findI (fun q => decide (q = p)) w with
  | none =>
    have := findI_none.1 h
    constructor
    · intro h0; simp only [] at h0; omega
    · intro hp; rw [List.any_eq_true.2 ⟨p, hp, by simp⟩] at this; cases this
  | some i =>
    obtain ⟨h1, h2, h3⟩ := findI_lt h
    constructor
    · intro _; rw [← of_decide_eq_true h2]; exact List.getElem_mem h1
    · intro _; simp only []; omega
theorem atW_get {w : List (List Int)} {p : List Int} {i : Nat} (h : atW w p = (i : Int)) : ∃ hi : i < w.length, w[i] = p := by
  unfold atW at h
  cases hf : findI (fun q => decide (q = p)) w with
  | none => rw [hf] at h; simp only [] at h; omega
  | some j =>
    rw [hf] at h
    simp only [] at h
    obtain ⟨h1, h2, h3⟩ := findI_lt hf
    have : j = i := by omega
    subst this
    exact ⟨h1, of_decide_eq_true h2⟩
theorem atW_self (w : List (List Int)) (i : Nat) (hi : i < w.length) : atW w w[i] = (i : Int) ↔ ¬ w[i] ∈ w.take i := by
  unfold atW
  cases hf : findI (fun q => decide (q = w[i])) w with
  | none =>
    have := findI_none.1 hf
    rw [List.any_eq_true.2 ⟨w[i], List.getElem_mem hi, by simp⟩] at this; cases this
  | some j =>
    obtain ⟨h1, h2, h3⟩ := findI_lt hf
    simp only []
    have h2' := of_decide_eq_true h2
    constructor
    · intro he hm
      have hji : j = i := by omega
      subst hji
      obtain ⟨t, ht, hte⟩ := List.getElem_of_mem hm
      rw [List.length_take] at ht
      have := h3 t (by omega)
      rw [List.getElem_take] at hte
      rw [hte] at this
      simp at this
    · intro hn
      have hle : ¬ j < i := fun hlt => hn (by rw [← h2']; exact List.mem_take_iff_getElem.2 ⟨j, by omega, rfl⟩)
      have hge : ¬ i < j := fun hlt => by have := h3 i hlt; simp at this
      omega
/-! ### Ways -/
/-- One place of a way. -/
def badX (n : Nat) (p : List Int) (k : Nat) (x : Int) : Bool := !decide (0 ≤ x ∧ x ≤ (n : Int)) || decide (x ∈ p.take k) || (decide (x = 0) && decide (k + 1 < p.length))
theorem p48_4 (n : Nat) (hn : n ≤ 2000000) (p : List Int) (k : Nat) (hk : k < p.length) (hp : p.length ≤ 2000000) (x : Int) : m48_4 p (n : Int) (k : Int) x = some (badX n p k x) := by
  have hc : 0 ≤ (k : Int) ∧ (k : Int) ≤ (p.length : Int) := by omega
  have ew : wsub .i64 (p.length : Int) 1 = (p.length : Int) - 1 := wsub64 (by omega) (by omega)
  simp only [m48_4, bnd_ok, ck_ok hc, Int.toNat_natCast, p87 (p.take k) x (by rw [List.length_take]; omega), ew, badX]
  by_cases c1 : x < 0
  · rw [(ltI_iff _ _).2 c1, br_true, decide_eq_false (show ¬ (0 ≤ x ∧ x ≤ (n : Int)) by omega)]; rfl
  rw [(ltI_not _ _).2 (by omega), br_false]
  by_cases c2 : (n : Int) < x
  · rw [(ltI_iff _ _).2 c2, br_true, decide_eq_false (show ¬ (0 ≤ x ∧ x ≤ (n : Int)) by omega)]; rfl
  rw [(ltI_not _ _).2 (by omega), br_false, decide_eq_true (show 0 ≤ x ∧ x ≤ (n : Int) by omega)]
  cases decide (x ∈ p.take k) with
  | true => rfl
  | false =>
    rw [br_false]
    by_cases c3 : x = 0
    · rw [(eqI_iff _ _).2 c3, br_true, decide_eq_true c3]
      have : ltI (k : Int) ((p.length : Int) - 1) = decide (k + 1 < p.length) := by rw [Bool.eq_iff_iff, ltI_iff, decide_eq_true_eq]; omega
      rw [this]; rfl
    · rw [(eqI_not _ _).2 c3, br_false, decide_eq_false c3]; rfl
theorem p52_4 (s : Spp) (hn : s.ranked.length ≤ 2000000) (p : List Int) (k : Nat) (hk : k < p.length) (hp : p.length ≤ 2000000) (x : Int) (hlast : k + 1 = p.length → x = 0) : m52_4 ((p.length : Int) - 1) (k : Int) x p s = some (badX s.ranked.length p k x) := by
  have hc : 0 ≤ (k : Int) ∧ (k : Int) ≤ (p.length : Int) := by omega
  simp only [m52_4, bnd_ok, ck_ok hc, Int.toNat_natCast, p89 (p.take k) x (by rw [List.length_take]; omega), p51, badX]
  by_cases c0 : k + 1 < p.length
  · rw [(ltI_iff (k : Int) ((p.length : Int) - 1)).2 (by omega), br_true, decide_eq_true c0, Bool.and_true]
    by_cases c1 : 1 ≤ x ∧ x ≤ (s.ranked.length : Int)
    · rw [decide_eq_true c1, br_true, decide_eq_true (show 0 ≤ x ∧ x ≤ (s.ranked.length : Int) by omega), decide_eq_false (show ¬ x = 0 by omega), Bool.or_false]; rfl
    · rw [decide_eq_false c1, br_false]
      by_cases c2 : x = 0
      · rw [decide_eq_true c2, Bool.or_true]
      · rw [decide_eq_false (show ¬ (0 ≤ x ∧ x ≤ (s.ranked.length : Int)) by omega)]; rfl
  · have hx := hlast (by omega)
    rw [(ltI_not (k : Int) ((p.length : Int) - 1)).2 (by omega), br_false, decide_eq_true (show 0 ≤ x ∧ x ≤ (s.ranked.length : Int) by omega), decide_eq_false c0, Bool.and_false, Bool.or_false]; rfl
def rowX (n : Nat) (p : List Int) : Bool := allN p.length (fun k => atB p (fun x => !badX n p k x) k)
def wayX (s : Spp) (a : Int) (p : List Int) : Bool :=
  decide (2 ≤ p.length ∧ p[0]? = some a ∧ p[p.length - 1]? = some 0) && (rowX s.ranked.length p && (decide (p.length = 2) || (match p[1]? with | some x => (match s.ranked[(x - 1).toNat]? with | some w => decide (p.drop 1 ∈ w) | none => false) | none => false)))
theorem head1 (s : Spp) (a : Int) (p : List Int) (hp : p.length ≤ 2000000) : m48_1 a p = some (!decide (2 ≤ p.length ∧ p[0]? = some a ∧ p[p.length - 1]? = some 0)) := by
  unfold m48_1
  by_cases c : 2 ≤ p.length
  · have ew : wsub .i64 (p.length : Int) 1 = ((p.length - 1 : Nat) : Int) := by rw [wsub64 (by omega) (by omega)]; omega
    have i0 : idx p 0 = some (p[0]'(by omega)) := idx_get (i := 0) (by omega)
    rw [(ltI_not _ _).2 (by omega), br_false, i0, bnd_ok, ew, idx_get (show p.length - 1 < p.length by omega), bnd_ok, List.getElem?_eq_getElem (show 0 < p.length by omega), List.getElem?_eq_getElem (show p.length - 1 < p.length by omega)]
    simp only [Option.some.injEq]
    by_cases c1 : p[0]'(by omega) = a
    · rw [(eqI_iff _ _).2 c1, br_true]
      by_cases c2 : p[p.length - 1]'(by omega) = 0
      · rw [(eqI_iff _ _).2 c2, decide_eq_true ⟨c, c1, c2⟩]
      · rw [(eqI_not _ _).2 c2, decide_eq_false (fun h => c2 h.2.2)]
    · rw [(eqI_not _ _).2 c1, br_false, decide_eq_false (fun h => c1 h.2.1)]; rfl
  · rw [(ltI_iff _ _).2 (by omega), br_true, decide_eq_false (fun h => c h.1)]; rfl
theorem head2 (a : Int) (p : List Int) (hp : p.length ≤ 2000000) : m52_1 a ((p.length : Int) - 1) p = some (!decide (2 ≤ p.length ∧ p[0]? = some a ∧ p[p.length - 1]? = some 0)) := by
  unfold m52_1
  by_cases c : 2 ≤ p.length
  · have ew : (p.length : Int) - 1 = ((p.length - 1 : Nat) : Int) := by omega
    have i0 : idx p 0 = some (p[0]'(by omega)) := idx_get (i := 0) (by omega)
    rw [ew, (ltI_not _ _).2 (by omega), br_false, i0, bnd_ok, idx_get (show p.length - 1 < p.length by omega), bnd_ok, List.getElem?_eq_getElem (show 0 < p.length by omega), List.getElem?_eq_getElem (show p.length - 1 < p.length by omega)]
    simp only [Option.some.injEq]
    by_cases c1 : p[0]'(by omega) = a
    · rw [(eqI_iff _ _).2 c1, br_true]
      by_cases c2 : p[p.length - 1]'(by omega) = 0
      · rw [(eqI_iff _ _).2 c2, decide_eq_true ⟨c, c1, c2⟩]
      · rw [(eqI_not _ _).2 c2, decide_eq_false (fun h => c2 h.2.2)]
    · rw [(eqI_not _ _).2 c1, br_false, decide_eq_false (fun h => c1 h.2.1)]; rfl
  · rw [(ltI_iff _ _).2 (by omega), br_true, decide_eq_false (fun h => c h.1)]; rfl
/-- The second place of a good row is a node. -/
theorem row_at {n : Nat} {p : List Int} (h : rowX n p = true) (k : Nat) (hk : k < p.length) : (0 ≤ p[k] ∧ p[k] ≤ (n : Int)) ∧ ¬ p[k] ∈ p.take k ∧ (k + 1 < p.length → p[k] ≠ 0) := by
  simp only [rowX, allN_iff] at h
  have := h k hk
  rw [atB_get hk] at this
  simp only [badX, Bool.not_eq_true', Bool.or_eq_false_iff, Bool.not_eq_false', decide_eq_true_eq, decide_eq_false_iff_not, Bool.and_eq_false_iff] at this
  refine ⟨this.1.1, this.1.2, fun h1 h2 => ?_⟩
  rcases this.2 with h3 | h3
  · exact h3 h2
  · exact h3 h1
theorem p48 (s : Spp) (hs : Sm s) (a : Int) (p : List Int) (hp : p.length ≤ 2000000) : m48 s a p = some (wayX s a p) := by
  have hl := loop_all (body := m48_2b p (s.ranked.length : Int) (p.length : Int)) p.length (fun k => atB p (fun x => !badX s.ranked.length p k x) k) (.inl ()) (.inr ()) (fun k h => by
    simp only [m48_2b, (ltI_iff (k : Int) (p.length : Int)).2 (by omega), br_true, idx_get h, bnd_ok, p48_4 s.ranked.length hs.1 p k h hp, wsucc h (by omega), atB_get h]
    cases badX s.ranked.length p k p[k] <;> rfl) (by simp only [m48_2b, (ltI_not (p.length : Int) (p.length : Int)).2 (by omega), br_false])
  unfold m48
  rw [head1 s a p hp, bnd_ok]
  unfold wayX
  cases hh : decide (2 ≤ p.length ∧ p[0]? = some a ∧ p[p.length - 1]? = some 0) with
  | false => rfl
  | true =>
    have hh' := of_decide_eq_true hh
    rw [Bool.not_true, br_false, hl, bnd_ok, Bool.true_and]
    change _ = some (rowX s.ranked.length p && _)
    cases hr : rowX s.ranked.length p with
    | false => unfold rowX at hr; rw [hr]; rfl
    | true =>
      have hr' := hr
      unfold rowX at hr'
      rw [hr', if_pos rfl, selS_inl]
      unfold m48_5
      by_cases c : p.length = 2
      · rw [(eqI_iff _ _).2 (by omega), br_true, decide_eq_true c]; rfl
      · have h1 : 1 < p.length := by omega
        have hx := row_at hr 1 h1
        have hx0 := hx.2.2 (by omega)
        obtain ⟨t, ht⟩ : ∃ t : Nat, p[1] = (t : Int) + 1 := ⟨(p[1] - 1).toNat, by omega⟩
        have htl : t < s.ranked.length := by omega
        have i1 : idx p 1 = some p[1] := idx_get (i := 1) h1
        rw [(eqI_not _ _).2 (by omega), br_false, i1, bnd_ok, ck_ok ⟨by omega, by omega⟩, p49 s hs t htl p[1] ht, bnd_ok, bnd_ok, decide_eq_false c, Bool.false_or, List.getElem?_eq_getElem h1, Bool.true_and]
        simp only []
        rw [show (p[1] - 1).toNat = t by omega, List.getElem?_eq_getElem htl, Option.some.injEq, Bool.eq_iff_iff, leI_iff, decide_eq_true_eq]
        exact atW_mem _ _
theorem p53 (w : List (List Int)) (hw : w.length ≤ 2000000) (f : List Int → Option Bool) (g : List Int → Bool) (hf : ∀ q ∈ w, f q = some (g q)) : m53 w f = some (w.any g) := by
  simp only [m53, m91, indexFunc (body := m91_1b w (w.length : Int) f) (f := f) w g hf (by omega) (fun s => rfl), bnd_ok, containsFunc]
theorem any_dec (w : List (List Int)) (q : List Int) : (w.any fun y => decide (y = q)) = decide (q ∈ w) := by
  rw [Bool.eq_iff_iff, List.any_eq_true, decide_eq_true_eq]
  constructor
  · rintro ⟨y, hy, h⟩; rw [of_decide_eq_true h] at hy; exact hy
  · intro h; exact ⟨q, h, by simp⟩
theorem p52 (s : Spp) (hs : Sm s) (a : Int) (p : List Int) (hp : p.length ≤ 2000000) : m52 s a p = some (wayX s a p) := by
  have ew : wsub .i64 (p.length : Int) 1 = (p.length : Int) - 1 := wsub64 (by omega) (by omega)
  unfold m52
  rw [ew, head2 a p hp, bnd_ok]
  unfold wayX
  cases hh : decide (2 ≤ p.length ∧ p[0]? = some a ∧ p[p.length - 1]? = some 0) with
  | false => rfl
  | true =>
    have hh' := of_decide_eq_true hh
    have hl := loop_all (body := m52_2b ((p.length : Int) - 1) p (p.length : Int) s) p.length (fun k => atB p (fun x => !badX s.ranked.length p k x) k) (.inl ()) (.inr ()) (fun k h => by
      have hz : k + 1 = p.length → p[k] = 0 := by
        intro he
        have h3 := hh'.2.2
        rw [show p.length - 1 = k by omega, List.getElem?_eq_getElem h] at h3
        exact Option.some.inj h3
      simp only [m52_2b, (ltI_iff (k : Int) (p.length : Int)).2 (by omega), br_true, idx_get h, bnd_ok, p52_4 s hs.1 p k h hp p[k] hz, wsucc h (by omega), atB_get h]
      cases badX s.ranked.length p k p[k] <;> rfl) (by simp only [m52_2b, (ltI_not (p.length : Int) (p.length : Int)).2 (by omega), br_false])
    rw [Bool.not_true, br_false, hl, bnd_ok, Bool.true_and]
    change _ = some (rowX s.ranked.length p && _)
    cases hr : rowX s.ranked.length p with
    | false => unfold rowX at hr; rw [hr]; rfl
    | true =>
      have hr' := hr
      unfold rowX at hr'
      rw [hr', if_pos rfl, selS_inl]
      unfold m52_5
      by_cases c : p.length = 2
      · rw [(eqI_iff _ _).2 (by omega), br_true, decide_eq_true c]; rfl
      · have h1 : 1 < p.length := by omega
        have hx := row_at hr 1 h1
        have hx0 := hx.2.2 (by omega)
        obtain ⟨t, ht⟩ : ∃ t : Nat, p[1] = (t : Int) + 1 := ⟨(p[1] - 1).toNat, by omega⟩
        have htl : t < s.ranked.length := by omega
        have i1 : idx p 1 = some p[1] := idx_get (i := 1) h1
        have e1 : wsub .i64 p[1] 1 = (t : Int) := by have := hs.1; rw [wsub64 (by omega) (by omega)]; omega
        obtain ⟨q1, q2⟩ := hs.2 _ (List.getElem_mem htl)
        rw [(eqI_not _ _).2 (by omega), br_false, i1, bnd_ok, e1, idx_get htl, bnd_ok, p53 s.ranked[t] q1 (fun y0 => m90 y0 p) (fun y => decide (y = p.drop 1)) (fun q hq => by unfold m90; rw [ck_ok ⟨by omega, by omega⟩, p55 q _ (q2 q hq), bnd_ok]), bnd_ok, bnd_ok, any_dec, decide_eq_false c, Bool.false_or, List.getElem?_eq_getElem h1, Bool.true_and]
        simp only []
        rw [show (p[1] - 1).toNat = t by omega, List.getElem?_eq_getElem htl]
/-! ### How many have not been seen -/
theorem filter_less {α : Type} (p q : α → Bool) (hpq : ∀ x, q x = true → p x = true) {k : α} (hp : p k = true) (hq : q k = false) : ∀ U : List α, k ∈ U → (U.filter q).length + 1 ≤ (U.filter p).length := by
  have le : ∀ U : List α, (U.filter q).length ≤ (U.filter p).length := by
    intro U
    induction U with
    | nil => simp
    | cons x r ih =>
      rw [List.filter_cons, List.filter_cons]
      by_cases h : q x = true
      · rw [if_pos h, if_pos (hpq x h)]; simpa using ih
      · rw [if_neg h]
        split
        · simp only [List.length_cons]; omega
        · exact ih
  intro U
  induction U with
  | nil => intro h; cases h
  | cons x r ih =>
    intro h
    rw [List.filter_cons, List.filter_cons]
    rcases List.mem_cons.1 h with rfl | h
    · rw [if_neg (by simp [hq]), if_pos hp]; have := le r; simp; omega
    · have := ih h
      by_cases hx : q x = true
      · rw [if_pos hx, if_pos (hpq x hx)]; simp; omega
      · rw [if_neg hx]
        split
        · simp only [List.length_cons]; omega
        · exact this
section
variable {α : Type} [DecidableEq α]
def mu (U seen : List α) : Nat := (U.filter (fun k => decide (¬ k ∈ seen))).length
theorem mu_add {U : List α} {k : α} {seen : List α} (hU : k ∈ U) (h : ¬ k ∈ seen) : mu U (seen ++ [k]) + 1 ≤ mu U seen := by
  unfold mu
  refine filter_less (fun k => decide (¬ k ∈ seen)) (fun x => decide (¬ x ∈ seen ++ [k])) (fun x hx => ?_) (k := k) (decide_eq_true h) (by simp) _ hU
  simp only [decide_eq_true_eq, List.mem_append, not_or] at hx ⊢
  exact hx.1
theorem mu_le (U seen : List α) : mu U seen ≤ U.length := List.length_filter_le _ _
end
theorem row_len {n : Nat} {p : List Int} (h : rowX n p = true) : p.length ≤ n + 1 := by
  have key : ∀ j, j ≤ p.length → j + mu ((List.range (n + 1)).map Int.ofNat) (p.take j) ≤ n + 1 := by
    intro j
    induction j with
    | zero => intro _; have := mu_le ((List.range (n + 1)).map Int.ofNat) (p.take 0); simp at this ⊢; omega
    | succ j ih =>
      intro hj
      have hlt : j < p.length := by omega
      obtain ⟨h1, h2, _⟩ := row_at h j hlt
      have := mu_add (U := (List.range (n + 1)).map Int.ofNat) (k := p[j]) (seen := p.take j) (List.mem_map.2 ⟨p[j].toNat, List.mem_range.2 (by omega), by show ((p[j].toNat : Nat) : Int) = p[j]; omega⟩) h2
      rw [← take_succ_get p j hlt] at this
      have := ih (by omega)
      omega
  have := key p.length (Nat.le_refl _)
  omega
/-! ### Good problems -/
def okP (s : Spp) (i : Nat) (w : List (List Int)) (k : Nat) (p : List Int) : Bool := wayX s ((i : Int) + 1) p && decide (¬ p ∈ w.take k)
def okN (s : Spp) (i : Nat) (w : List (List Int)) : Bool := decide (w.length ≤ 6) && allN w.length (fun k => atB w (okP s i w k) k)
def goodB (s : Spp) : Bool := decide (1 ≤ s.ranked.length ∧ s.ranked.length ≤ 5) && allN s.ranked.length (fun i => atB s.ranked (okN s i) i)
theorem p14 (s : Spp) (hs : Sm s) : m14 s = some (goodB s) := by
  unfold m14 goodB
  rw [p47, bnd_ok]
  have ed : decide ((1 : Int) ≤ (s.ranked.length : Int) ∧ (s.ranked.length : Int) ≤ 5) = decide (1 ≤ s.ranked.length ∧ s.ranked.length ≤ 5) := by rw [decide_eq_decide]; omega
  rw [ed]
  cases hn : decide (1 ≤ s.ranked.length ∧ s.ranked.length ≤ 5) with
  | false => rfl
  | true =>
    have hn' := of_decide_eq_true hn
    rw [br_true, loop_all (body := m14_1b s (s.ranked.length : Int)) s.ranked.length (fun i => atB s.ranked (okN s i) i) (.inl ()) (.inr ()) (fun i hi => by
      obtain ⟨w1, w2⟩ := hs.2 _ (List.getElem_mem hi)
      have e1 : wadd .i64 (i : Int) 1 = (i : Int) + 1 := wadd64 (by omega) (by omega)
      have hin := loop_all (body := m14_5b (i : Int) s s.ranked[i] (s.ranked[i].length : Int)) s.ranked[i].length (fun k => atB s.ranked[i] (okP s i s.ranked[i] k) k) (.inl ()) (.inr ()) (fun k hk => by
        have hp := w2 _ (List.getElem_mem hk)
        have e7 : m14_7 (i : Int) (k : Int) s.ranked[i][k] s = some (!okP s i s.ranked[i] k s.ranked[i][k]) := by
          unfold m14_7 okP
          rw [e1, p48 s hs _ _ hp, bnd_ok]
          cases wayX s ((i : Int) + 1) s.ranked[i][k] with
          | false => rfl
          | true =>
            rw [br_true, p49 s hs i hi _ rfl, bnd_ok, Bool.true_and]
            congr 2
            rw [Bool.eq_iff_iff, eqI_iff, decide_eq_true_eq]
            exact atW_self _ _ hk
        simp only [m14_5b, (ltI_iff (k : Int) (s.ranked[i].length : Int)).2 (by omega), br_true, idx_get hk, bnd_ok, e7, wsucc hk (by omega), atB_get hk]
        cases okP s i s.ranked[i] k s.ranked[i][k] <;> rfl) (by simp only [m14_5b, (ltI_not (s.ranked[i].length : Int) (s.ranked[i].length : Int)).2 (by omega), br_false])
      simp only [m14_1b, (ltI_iff (i : Int) (s.ranked.length : Int)).2 (by omega), br_true, idx_get hi, bnd_ok, hin, wsucc hi (by omega), atB_get hi, okN]
      by_cases c : s.ranked[i].length ≤ 6
      · rw [(ltI_not _ _).2 (by omega), br_false, decide_eq_true c, Bool.true_and]
        cases allN s.ranked[i].length (fun k => atB s.ranked[i] (okP s i s.ranked[i] k) k) <;> rfl
      · rw [(ltI_iff _ _).2 (by omega), br_true, decide_eq_false c]; rfl) (by simp only [m14_1b, (ltI_not (s.ranked.length : Int) (s.ranked.length : Int)).2 (by omega), br_false]), bnd_ok, Bool.true_and]
    cases allN s.ranked.length (fun i => atB s.ranked (okN s i) i) <;> rfl
theorem p16 (s : Spp) (hs : Sm s) : m16 s = some (goodB s) := by
  unfold m16 goodB
  rw [p51, bnd_ok]
  have ed : decide ((1 : Int) ≤ (s.ranked.length : Int) ∧ (s.ranked.length : Int) ≤ 5) = decide (1 ≤ s.ranked.length ∧ s.ranked.length ≤ 5) := by rw [decide_eq_decide]; omega
  rw [ed]
  cases hn : decide (1 ≤ s.ranked.length ∧ s.ranked.length ≤ 5) with
  | false => rfl
  | true =>
    have hn' := of_decide_eq_true hn
    rw [br_true, loop_all (body := m16_1b s (s.ranked.length : Int)) s.ranked.length (fun i => atB s.ranked (okN s i) i) (.inl ()) (.inr ()) (fun i hi => by
      obtain ⟨w1, w2⟩ := hs.2 _ (List.getElem_mem hi)
      have e1 : wadd .i64 (i : Int) 1 = (i : Int) + 1 := wadd64 (by omega) (by omega)
      have hin := loop_all (body := m16_5b (i : Int) s.ranked[i] s (s.ranked[i].length : Int)) s.ranked[i].length (fun k => atB s.ranked[i] (okP s i s.ranked[i] k) k) (.inl ()) (.inr ()) (fun k hk => by
        have hp := w2 _ (List.getElem_mem hk)
        have e7 : m16_7 (i : Int) s.ranked[i] (k : Int) s s.ranked[i][k] = some (!okP s i s.ranked[i] k s.ranked[i][k]) := by
          unfold m16_7 okP
          rw [e1, p52 s hs _ _ hp, bnd_ok]
          by_cases c6 : s.ranked[i][k].length ≤ 6
          · rw [(ltI_not _ _).2 (by omega), br_false]
            cases wayX s ((i : Int) + 1) s.ranked[i][k] with
            | false => rfl
            | true =>
              have hc : 0 ≤ (k : Int) ∧ (k : Int) ≤ (s.ranked[i].length : Int) := by omega
              rw [br_true, ck_ok hc, Int.toNat_natCast, p53 (s.ranked[i].take k) (by rw [List.length_take]; omega) (fun y0 => m54 y0 s.ranked[i][k]) (fun y => decide (y = s.ranked[i][k])) (fun q hq => by unfold m54; rw [p55 q _ (w2 q (List.mem_of_mem_take hq)), bnd_ok]), bnd_ok, any_dec, Bool.true_and]
              congr 1
              cases hd : decide (s.ranked[i][k] ∈ s.ranked[i].take k) with
              | true => rw [decide_eq_false (fun hn => hn (of_decide_eq_true hd))]; rfl
              | false => rw [decide_eq_true (of_decide_eq_false hd)]; rfl
          · rw [(ltI_iff _ _).2 (by omega), br_true]
            have : wayX s ((i : Int) + 1) s.ranked[i][k] = false := by
              cases hw : wayX s ((i : Int) + 1) s.ranked[i][k] with
              | false => rfl
              | true =>
                simp only [wayX, Bool.and_eq_true] at hw
                have := row_len hw.2.1
                omega
            rw [this]; rfl
        simp only [m16_5b, (ltI_iff (k : Int) (s.ranked[i].length : Int)).2 (by omega), br_true, idx_get hk, bnd_ok, e7, wsucc hk (by omega), atB_get hk]
        cases okP s i s.ranked[i] k s.ranked[i][k] <;> rfl) (by simp only [m16_5b, (ltI_not (s.ranked[i].length : Int) (s.ranked[i].length : Int)).2 (by omega), br_false])
      simp only [m16_1b, (ltI_iff (i : Int) (s.ranked.length : Int)).2 (by omega), br_true, idx_get hi, bnd_ok, hin, wsucc hi (by omega), atB_get hi, okN]
      by_cases c : s.ranked[i].length ≤ 6
      · rw [(ltI_not _ _).2 (by omega), br_false, decide_eq_true c, Bool.true_and]
        cases allN s.ranked[i].length (fun k => atB s.ranked[i] (okP s i s.ranked[i] k) k) <;> rfl
      · rw [(ltI_iff _ _).2 (by omega), br_true, decide_eq_false c]; rfl) (by simp only [m16_1b, (ltI_not (s.ranked.length : Int) (s.ranked.length : Int)).2 (by omega), br_false]), bnd_ok, Bool.true_and]
    cases allN s.ranked.length (fun i => atB s.ranked (okN s i) i) <;> rfl
/-- What a good problem is. -/
structure Good (s : Spp) : Prop where
  n : 1 ≤ s.ranked.length ∧ s.ranked.length ≤ 5
  len : ∀ i (hi : i < s.ranked.length), s.ranked[i].length ≤ 6
  way : ∀ i (hi : i < s.ranked.length) k (hk : k < s.ranked[i].length), wayX s ((i : Int) + 1) s.ranked[i][k] = true
  ne : ∀ i (hi : i < s.ranked.length) k (hk : k < s.ranked[i].length), ¬ s.ranked[i][k] ∈ s.ranked[i].take k
theorem good_of {s : Spp} (h : goodB s = true) : Good s := by
  simp only [goodB, Bool.and_eq_true, decide_eq_true_eq, allN_iff] at h
  have hi := fun i (hi : i < s.ranked.length) => by
    have := h.2 i hi
    rw [atB_get hi] at this
    simp only [okN, Bool.and_eq_true, decide_eq_true_eq, allN_iff] at this
    exact this
  refine ⟨h.1, fun i hi' => (hi i hi').1, fun i hi' k hk => ?_, fun i hi' k hk => ?_⟩
  · have := (hi i hi').2 k hk
    rw [atB_get hk] at this
    simp only [okP, Bool.and_eq_true] at this
    exact this.1
  · have := (hi i hi').2 k hk
    rw [atB_get hk] at this
    simp only [okP, Bool.and_eq_true, decide_eq_true_eq] at this
    exact this.2
theorem way_parts {s : Spp} {a : Int} {p : List Int} (h : wayX s a p = true) : 2 ≤ p.length ∧ p[0]? = some a ∧ rowX s.ranked.length p = true ∧ (p.length = 2 ∨ ∃ (h1 : 1 < p.length) (h2 : (p[1] - 1).toNat < s.ranked.length), p.drop 1 ∈ s.ranked[(p[1] - 1).toNat]) := by
  simp only [wayX, Bool.and_eq_true, Bool.or_eq_true, decide_eq_true_eq] at h
  obtain ⟨⟨h1, h2, h3⟩, h4, h5⟩ := h
  refine ⟨h1, h2, h4, ?_⟩
  rcases h5 with h5 | h5
  · exact .inl h5
  · right
    have hl : 1 < p.length := by omega
    rw [List.getElem?_eq_getElem hl] at h5
    simp only [] at h5
    cases hq : s.ranked[(p[1] - 1).toNat]? with
    | none => rw [hq] at h5; cases h5
    | some w =>
      rw [hq] at h5
      obtain ⟨q1, q2⟩ := List.getElem?_eq_some_iff.1 hq
      exact ⟨hl, q1, by rw [q2]; exact of_decide_eq_true h5⟩
/-- What stands behind a place of a way is a way. -/
theorem suffix {s : Spp} (G : Good s) (i : Nat) (hi : i < s.ranked.length) (k : Nat) (hk : k < s.ranked[i].length) : ∀ t, t + 1 < s.ranked[i][k].length → ∃ (j : Nat) (hj : j < s.ranked.length) (m : Nat) (hm : m < s.ranked[j].length), s.ranked[i][k].drop t = s.ranked[j][m] := by
  intro t
  induction t with
  | zero => intro _; exact ⟨i, hi, k, hk, by simp⟩
  | succ t ih =>
    intro ht
    obtain ⟨j, hj, m, hm, e⟩ := ih (by omega)
    obtain ⟨w1, w2, w3, w4⟩ := way_parts (G.way j hj m hm)
    have hlen : s.ranked[j][m].length = s.ranked[i][k].length - t := by rw [← e, List.length_drop]
    rcases w4 with w4 | ⟨q1, q2, q3⟩
    · omega
    · obtain ⟨m', hm', e'⟩ := List.getElem_of_mem q3
      refine ⟨_, q2, m', hm', ?_⟩
      rw [e', ← e, List.drop_drop]
/-! ### Choices -/
def wsAt (s : Spp) (i : Nat) : List (List Int) := s.ranked.getD i []
theorem wsAt_get {s : Spp} {i : Nat} (h : i < s.ranked.length) : wsAt s i = s.ranked[i] := by simp [wsAt, List.getD_eq_getElem?_getD, h]
/-- Can this way be had where the others have chosen so? -/
def hasX (s : Spp) (c : List Int) (w : List Int) : Bool :=
  decide (w.length = 2) || (match w[1]? with
    | some x => decide (0 ≤ c.getD (x - 1).toNat (-1)) && decide ((wsAt s (x - 1).toNat)[(c.getD (x - 1).toNat (-1)).toNat]? = some (w.drop 1))
    | none => false)
def bestX (s : Spp) (c : List Int) (i : Nat) : Int := match findI (hasX s c) (wsAt s i) with | none => -1 | some k => (k : Int)
structure Chs (s : Spp) (c : List Int) : Prop where
  len : c.length = s.ranked.length
  rng : ∀ k (h : k < c.length), -1 ≤ c[k] ∧ c[k] < ((wsAt s k).length : Int)
theorem bestX_rng (s : Spp) (c : List Int) (i : Nat) : -1 ≤ bestX s c i ∧ bestX s c i < ((wsAt s i).length : Int) := by
  unfold bestX
  cases h : findI (hasX s c) (wsAt s i) with
  | none => simp only []; omega
  | some k => obtain ⟨h1, _⟩ := findI_lt h; simp only []; omega
theorem Chs.set {s : Spp} {c : List Int} (h : Chs s c) (i : Nat) : Chs s (c.set i (bestX s c i)) := by
  refine ⟨by rw [List.length_set]; exact h.len, fun k hk => ?_⟩
  rw [List.length_set] at hk
  by_cases e : i = k
  · subst e; rw [List.getElem_set_self]; exact bestX_rng s c i
  · rw [List.getElem_set_ne e]; exact h.rng k hk
/-- A longer way of a good problem: its second node, and what stands behind. -/
theorem nextOf {s : Spp} (G : Good s) {i : Nat} (hi : i < s.ranked.length) {w : List Int} (hw : w ∈ s.ranked[i]) (h2 : ¬ w.length = 2) :
    ∃ (t : Nat) (ht : t < s.ranked.length) (h1 : 1 < w.length), w[1] = (t : Int) + 1 ∧ w.drop 1 ∈ s.ranked[t] := by
  obtain ⟨k, hk, rfl⟩ := List.getElem_of_mem hw
  obtain ⟨w1, w2, w3, w4⟩ := way_parts (G.way i hi k hk)
  rcases w4 with w4 | ⟨q1, q2, q3⟩
  · exact absurd w4 h2
  · have hx := row_at w3 1 q1
    have hx0 := hx.2.2 (by omega)
    exact ⟨_, q2, q1, by omega, q3⟩
theorem hasX_two (s : Spp) (c w : List Int) (h : w.length = 2) : hasX s c w = true := by simp [hasX, h]
theorem hasX_more {s : Spp} {c w : List Int} (hc : Chs s c) (h2 : ¬ w.length = 2) {t : Nat} (ht : t < s.ranked.length) (h1 : 1 < w.length) (e : w[1] = (t : Int) + 1) :
    hasX s c w = (decide (0 ≤ c[t]'(by rw [hc.len]; exact ht)) && decide ((wsAt s t)[(c[t]'(by rw [hc.len]; exact ht)).toNat]? = some (w.drop 1))) := by
  have htc : t < c.length := by rw [hc.len]; exact ht
  have e2 : (w[1] - 1).toNat = t := by omega
  have e3 : c.getD t (-1) = c[t] := by simp [List.getD_eq_getElem?_getD, htc]
  simp only [hasX, decide_eq_false h2, Bool.false_or, List.getElem?_eq_getElem h1, e2, e3]
theorem chs_small {s : Spp} (G : Good s) {c : List Int} (hc : Chs s c) (t : Nat) (ht : t < c.length) : c[t] ≤ 6 := by
  have h1 := hc.rng t ht
  have ht' : t < s.ranked.length := by rw [← hc.len]; exact ht
  have := G.len t ht'
  rw [wsAt_get ht'] at h1; omega
/-- What both programs ask of a longer way. -/
theorem askX {s : Spp} (hs : Sm s) (G : Good s) {c : List Int} (hc : Chs s c) {i : Nat} (hi : i < s.ranked.length) {w : List Int} (hw : w ∈ s.ranked[i]) (h2 : ¬ w.length = 2)
    {m : List Int → List Int → Option Bool} (hm : ∀ a b : List Int, a.length ≤ 2000000 → m a b = some (decide (a = b))) :
    ∃ (t : Nat) (h1 : 1 < w.length) (htc : t < c.length), t < s.ranked.length ∧ idx w 1 = some w[1] ∧ wsub .i64 w[1] 1 = (t : Int) ∧ idx c (t : Int) = some c[t] ∧
      br (leI 0 c[t]) (bnd (idx s.ranked (t : Int)) fun x14 => bnd (idx x14 c[t]) fun x19 => ck ((0 : Nat) ≤ 1 ∧ (1 : Int) ≤ (w.length : Int)) <| bnd (m x19 (w.drop 1)) fun r27 => some r27) (some false) = some (hasX s c w) := by
  obtain ⟨t, ht, h1, e1, e2⟩ := nextOf G hi hw h2
  have htc : t < c.length := by rw [hc.len]; exact ht
  have hn := G.n
  refine ⟨t, h1, htc, ht, idx_get (i := 1) h1, by rw [e1, wsub64 (by omega) (by omega)]; omega, idx_get htc, ?_⟩
  rw [hasX_more hc h2 ht h1 e1]
  have hr := hc.rng t htc
  by_cases h0 : 0 ≤ c[t]
  · rw [(leI_iff _ _).2 h0, br_true, decide_eq_true h0, Bool.true_and, idx_get ht, bnd_ok]
    obtain ⟨k, hk⟩ := Int.eq_ofNat_of_zero_le h0
    have hkl : k < s.ranked[t].length := by rw [wsAt_get ht] at hr; omega
    rw [hk, idx_get hkl, bnd_ok, ck_ok (by omega), hm _ _ ((hs.2 _ (List.getElem_mem ht)).2 _ (List.getElem_mem hkl)), bnd_ok, wsAt_get ht, Int.toNat_natCast, List.getElem?_eq_getElem hkl]
    simp only [Option.some.injEq]
  · rw [(leI_not _ _).2 (by omega), br_false, decide_eq_false h0, Bool.false_and]
theorem p58 {s : Spp} (hs : Sm s) (G : Good s) {c : List Int} (hc : Chs s c) {i : Nat} (hi : i < s.ranked.length) (a : Int) (ha : a = (i : Int) + 1) : m58 s c a = some (bestX s c i) := by
  have hn := G.n
  have e1 : wsub .i64 a 1 = (i : Int) := by rw [ha, wsub64 (by omega) (by omega)]; omega
  unfold m58
  rw [e1, idx_get hi, bnd_ok]
  rw [loop_index (body := m58_1b c s.ranked[i] (s.ranked[i].length : Int) s) s.ranked[i] (f := fun w => br (eqI (w.length : Int) 2) (some true) (bnd (idx w 1) fun x56 => bnd (idx c (wsub .i64 x56 1)) fun x61 => bnd (m58_3 w x61 s) fun v => some v)) (hasX s c) (fun w hw => ?_) (by have := (hs.2 _ (List.getElem_mem hi)).1; omega) (fun t => ?_), bnd_ok]
  · unfold bestX
    rw [wsAt_get hi]
    cases findI (hasX s c) s.ranked[i] <;> rfl
  · by_cases h2 : w.length = 2
    · rw [(eqI_iff _ _).2 (by omega), br_true, hasX_two s c w h2]
    · obtain ⟨t, h1, htc, ht, q1, q2, q3, q4⟩ := askX hs G hc hi hw h2 p79
      rw [(eqI_not _ _).2 (by omega), br_false, q1, bnd_ok, q2, q3, bnd_ok]
      unfold m58_3
      rw [q1, bnd_ok, q2, q4, bnd_ok]
  · unfold m58_1b
    cases hx : idx s.ranked[i] t with
    | none => rfl
    | some w =>
      simp only [bnd_ok]
      cases eqI (w.length : Int) 2 with
      | true => rfl
      | false =>
        simp only [br_false]
        cases idx w 1 with
        | none => rfl
        | some y =>
          simp only [bnd_ok]
          cases idx c (wsub .i64 y 1) with
          | none => rfl
          | some z =>
            simp only [bnd_ok]
            cases m58_3 w z s <;> rfl
theorem p60 {s : Spp} (hs : Sm s) (G : Good s) {c : List Int} (hc : Chs s c) {i : Nat} (hi : i < s.ranked.length) (a : Int) (ha : a = (i : Int) + 1) : m60 s c a = some (bestX s c i) := by
  have hn := G.n
  have e1 : wsub .i64 a 1 = (i : Int) := by rw [ha, wsub64 (by omega) (by omega)]; omega
  unfold m60 m91
  rw [e1, idx_get hi, bnd_ok]
  rw [indexFunc (body := m91_1b s.ranked[i] (s.ranked[i].length : Int) (fun y0 => m92 y0 c s)) s.ranked[i] (f := fun y0 => m92 y0 c s) (hasX s c) (fun w hw => ?_) (by have := (hs.2 _ (List.getElem_mem hi)).1; omega) (fun t => rfl), bnd_ok]
  · unfold bestX
    rw [wsAt_get hi]
    cases findI (hasX s c) s.ranked[i] <;> rfl
  · unfold m92
    by_cases h2 : w.length = 2
    · rw [(eqI_iff _ _).2 (by omega), br_true, hasX_two s c w h2]
    · obtain ⟨t, h1, htc, ht, q1, q2, q3, q4⟩ := askX hs G hc hi hw h2 p55
      rw [(eqI_not _ _).2 (by omega), br_false, q1, bnd_ok, q2]
      unfold m92_1
      rw [q3, bnd_ok, q4, bnd_ok]
/-! ### Stable -/
def stabX (s : Spp) (c : List Int) : Bool := allN c.length (fun k => atB c (fun x => decide (bestX s c k = x)) k)
theorem stabLoop {s : Spp} (hs : Sm s) (G : Good s) {c : List Int} (hc : Chs s c) {m : Spp → List Int → Int → Option Int} (hm : ∀ i, i < s.ranked.length → m s c (wadd .i64 (i : Int) 1) = some (bestX s c i))
    {body : Int → Option (Ctl Int (Unit ⊕ Unit))}
    (hb : ∀ t, body t = br (ltI t (c.length : Int)) (bnd (idx c t) fun x => bnd (m s c (wadd .i64 t 1)) fun r => br (eqI r x) (some (.nxt (wadd .i64 t 1))) (some (.out (.inr ())))) (some (.out (.inl ())))) :
    (bnd (loopP body 0) fun o => selS o (fun _ => some true) (fun _ => some false)) = some (stabX s c) := by
  have hn := G.n
  have hl := hc.len
  rw [loop_all (body := body) c.length (fun k => atB c (fun x => decide (bestX s c k = x)) k) (.inl ()) (.inr ()) (fun k hk => by
    rw [hb, (ltI_iff _ _).2 (by omega), br_true, idx_get hk, bnd_ok, hm k (by omega), bnd_ok, wsucc hk (by omega), atB_get hk]
    by_cases e : bestX s c k = c[k]
    · rw [(eqI_iff _ _).2 e, decide_eq_true e]; rfl
    · rw [(eqI_not _ _).2 e, decide_eq_false e]; rfl) (by rw [hb, (ltI_not _ _).2 (by omega), br_false]), bnd_ok]
  unfold stabX
  cases allN c.length (fun k => atB c (fun x => decide (bestX s c k = x)) k) <;> rfl
theorem p61 {s : Spp} (hs : Sm s) (G : Good s) {c : List Int} (hc : Chs s c) : m61 s c = some (stabX s c) :=
  stabLoop hs G hc (m := m58) (fun i hi => p58 hs G hc hi _ (by have := G.n; rw [wadd64 (by omega) (by omega)])) (body := m61_1b c (c.length : Int) s) (fun t => rfl)
theorem p62 {s : Spp} (hs : Sm s) (G : Good s) {c : List Int} (hc : Chs s c) : m62 s c = some (stabX s c) :=
  stabLoop hs G hc (m := m60) (fun i hi => p60 hs G hc hi _ (by have := G.n; rw [wadd64 (by omega) (by omega)])) (body := m62_1b c (c.length : Int) s) (fun t => rfl)
/-! ### All stable ones -/
def goX (f : Int → List (List Int) → List (List Int)) : Nat → Int → List (List Int) → List (List Int)
  | 0, _, o => o
  | m + 1, i, o => goX f m (i + 1) (f i o)
def onesX (s : Spp) : Nat → List Int → List (List Int) → List (List Int)
  | 0, c, o => if stabX s c = true then o ++ [c] else o
  | n + 1, c, o => goX (fun i o => onesX s n (c ++ [i]) o) ((wsAt s c.length).length + 1) (-1) o
def Par (s : Spp) (c : List Int) : Prop := ∀ k (h : k < c.length), -1 ≤ c[k] ∧ c[k] < ((wsAt s k).length : Int)
theorem Par.add {s : Spp} {c : List Int} (h : Par s c) {i : Int} (h1 : -1 ≤ i) (h2 : i < ((wsAt s c.length).length : Int)) : Par s (c ++ [i]) := by
  intro k hk
  by_cases e : k < c.length
  · rw [List.getElem_append_left e]; exact h k e
  · rw [List.length_append, List.length_singleton] at hk
    obtain rfl : k = c.length := by omega
    rw [List.getElem_append_right (Nat.le_refl _)]; simp only [Nat.sub_self, List.getElem_cons_zero]; exact ⟨h1, h2⟩
theorem goLoop {f : Int → List (List Int) → List (List Int)} {rc : Int → List (List Int) → Option (List (List Int))} (W : Int) (M : Nat) (hW : W ≤ 100)
    (hf : ∀ i o, -1 ≤ i → i < W → o.length + M ≤ 1000000 → (∀ x ∈ o, x.length ≤ 5) → rc i o = some (f i o) ∧ (f i o).length ≤ o.length + M ∧ ∀ x ∈ f i o, x.length ≤ 5)
    {body : Int × List (List Int) → Option (Ctl (Int × List (List Int)) (List (List Int)))}
    (hb : ∀ p, body p = sel2 p fun i o => br (ltI i W) (bnd (rc i o) fun r => some (.nxt (wadd .i64 i 1, r))) (some (.out o))) :
    ∀ (m : Nat) (i : Int) (o : List (List Int)), i + m = W → -1 ≤ i → o.length + m * M ≤ 1000000 → (∀ x ∈ o, x.length ≤ 5) →
      loopP body (i, o) = some (goX f m i o) ∧ (goX f m i o).length ≤ o.length + m * M ∧ ∀ x ∈ goX f m i o, x.length ≤ 5 := by
  intro m
  induction m with
  | zero =>
    intro i o hi h1 ho hx
    refine ⟨loopP_out ?_, by show o.length ≤ _; omega, hx⟩
    rw [hb, sel2_ok, (ltI_not _ _).2 (by omega), br_false]; rfl
  | succ m ih =>
    intro i o hi h1 ho hx
    rw [Nat.succ_mul] at ho
    obtain ⟨f1, f2, f3⟩ := hf i o h1 (by omega) (by omega) hx
    obtain ⟨g1, g2, g3⟩ := ih (i + 1) (f i o) (by omega) (by omega) (by omega) f3
    refine ⟨?_, ?_, g3⟩
    · rw [loopP_nxt (s' := (i + 1, f i o)), g1]; rfl
      rw [hb, sel2_ok, (ltI_iff _ _).2 (by omega), br_true, f1, bnd_ok, wadd64 (by omega) (by omega)]
    · show (goX f m (i + 1) (f i o)).length ≤ _
      rw [Nat.succ_mul]; omega
theorem onesAll {s : Spp} (hs : Sm s) (G : Good s) {R : (Spp → List Int → List (List Int) → Option (List (List Int))) → Spp → List Int → List (List Int) → Option (List (List Int))}
    {K : Nat → Spp → List Int → List (List Int) → Option (List (List Int))} (hK : ∀ k, K (k + 1) = R (K k))
    {B : (Spp → List Int → List (List Int) → Option (List (List Int))) → List Int → Int × List (List Int) → Option (Ctl (Int × List (List Int)) (List (List Int)))}
    (h0 : ∀ rc c o, Chs s c → o.length ≤ 1000000 → R rc s c o = some (if stabX s c = true then o ++ [c] else o))
    (h1 : ∀ rc c o, c.length < s.ranked.length → R rc s c o = bnd (loopP (B rc c) (-1, o)) fun v => some v)
    (hB : ∀ rc c, c.length < s.ranked.length → ∀ p, B rc c p = sel2 p fun i o => br (ltI i ((wsAt s c.length).length : Int)) (bnd (rc s (c ++ [i]) o) fun r => some (.nxt (wadd .i64 i 1, r))) (some (.out o))) :
    ∀ (n : Nat) (c : List Int) (o : List (List Int)), c.length + n = s.ranked.length → Par s c → o.length + 7 ^ n ≤ 1000000 → (∀ x ∈ o, x.length ≤ 5) →
      ∀ j, K (n + 1 + j) s c o = some (onesX s n c o) ∧ (onesX s n c o).length ≤ o.length + 7 ^ n ∧ ∀ x ∈ onesX s n c o, x.length ≤ 5 := by
  intro n
  have hn := G.n
  induction n with
  | zero =>
    intro c o hc hp ho hx j
    rw [show 0 + 1 + j = j + 1 by omega, hK, h0 _ c o ⟨by omega, hp⟩ (by omega)]
    refine ⟨rfl, ?_, fun x hm => ?_⟩
    · show (if stabX s c = true then o ++ [c] else o).length ≤ _
      split
      · simp
      · omega
    · have hm' : x ∈ (if stabX s c = true then o ++ [c] else o) := hm
      split at hm'
      · rcases List.mem_append.1 hm' with h | h
        · exact hx x h
        · rw [List.mem_singleton.1 h]; omega
      · exact hx x hm'
  | succ n ih =>
    intro c o hc hp ho hx j
    have hlt : c.length < s.ranked.length := by omega
    have hw : (wsAt s c.length).length ≤ 6 := by rw [wsAt_get hlt]; exact G.len _ hlt
    have hpow : 7 ^ (n + 1) = 7 * 7 ^ n := by rw [Nat.pow_succ]; omega
    have hm : ((wsAt s c.length).length + 1) * 7 ^ n ≤ 7 * 7 ^ n := Nat.mul_le_mul_right _ (by omega)
    have hpos : 0 < 7 ^ n := Nat.pow_pos (by omega)
    obtain ⟨g1, g2, g3⟩ := goLoop (f := fun i o => onesX s n (c ++ [i]) o) (rc := fun i o => K (n + 1 + j) s (c ++ [i]) o) ((wsAt s c.length).length : Int) (7 ^ n) (by omega) (fun i o hi1 hi2 ho hx => by
      exact ih (c ++ [i]) o (by simp; omega) (hp.add hi1 hi2) ho hx j) (hB (K (n + 1 + j)) c hlt) ((wsAt s c.length).length + 1) (-1) o (by omega) (by omega) (by omega) hx
    refine ⟨?_, ?_, g3⟩
    · rw [show n + 1 + 1 + j = (n + 1 + j) + 1 by omega, hK, h1 _ c o hlt, g1]; rfl
    · show (goX (fun i o => onesX s n (c ++ [i]) o) ((wsAt s c.length).length + 1) (-1) o).length ≤ _
      omega
theorem par_nil (s : Spp) : Par s [] := fun k hk => by simp at hk
theorem pow5 {s : Spp} (G : Good s) : 7 ^ s.ranked.length ≤ 16807 := by
  have := Nat.pow_le_pow_right (show 0 < 7 by omega) G.n.2
  omega
theorem p73 {s : Spp} (hs : Sm s) (G : Good s) : m73 s [] [] = some (onesX s s.ranked.length [] []) ∧ (onesX s s.ranked.length [] []).length ≤ 16807 ∧ ∀ x ∈ onesX s s.ranked.length [] [], x.length ≤ 5 := by
  have hn := G.n
  have h5 := pow5 G
  have key := onesAll hs G (R := m73r) (K := m73k) (fun k => rfl) (B := fun rc c => m73_2b rc c s) (fun rc c o hc ho => by
    have hl := hc.len
    unfold m73r m73_1
    rw [(eqI_iff _ _).2 (by omega), br_true, p61 hs G hc, bnd_ok]
    cases stabX s c with
    | true => rw [br_true, ck_ok (by omega), ck_ok (by omega), bnd_ok]; rfl
    | false => rfl) (fun rc c o hc => by
    unfold m73r
    rw [(eqI_not _ _).2 (by omega), br_false]) (fun rc c hc p => by
    obtain ⟨i, o⟩ := p
    show m73_2b rc c s (i, o) = _
    unfold m73_2b
    rw [sel2_ok, sel2_ok, wsAt_get hc, idx_get hc, bnd_ok, ck_ok (by omega), ck_ok (by omega)]) s.ranked.length [] [] (by simp) (par_nil s) (by simp; omega) (by simp)
  refine ⟨limO_iff.2 ⟨s.ranked.length + 1, fun k hk => ?_⟩, ?_, (key 0).2.2⟩
  · obtain ⟨j, rfl⟩ : ∃ j, k = s.ranked.length + 1 + j := ⟨k - (s.ranked.length + 1), by omega⟩
    exact (key j).1
  · have := (key 0).2.1
    simp only [List.length_nil] at this
    omega
theorem p74 {s : Spp} (hs : Sm s) (G : Good s) : m74 s [] [] = some (onesX s s.ranked.length [] []) := by
  have hn := G.n
  have h5 := pow5 G
  have key := onesAll hs G (R := m74r) (K := m74k) (fun k => rfl) (B := fun rc c => m74_2b rc (c.length : Int) c s) (fun rc c o hc ho => by
    have hl := hc.len
    unfold m74r m74_1 m96
    rw [(eqI_iff _ _).2 (by omega), br_true, p62 hs G hc, bnd_ok]
    cases stabX s c with
    | true => rw [br_true, ck_ok (by omega), bnd_ok, ck_ok (by omega), bnd_ok]; rfl
    | false => rfl) (fun rc c o hc => by
    unfold m74r
    rw [(eqI_not _ _).2 (by omega), br_false]) (fun rc c hc p => by
    obtain ⟨i, o⟩ := p
    show m74_2b rc (c.length : Int) c s (i, o) = _
    unfold m74_2b m96
    rw [sel2_ok, sel2_ok, wsAt_get hc, idx_get hc, bnd_ok, ck_ok (by omega), bnd_ok, ck_ok (by omega)]) s.ranked.length [] [] (by simp) (par_nil s) (by simp; omega) (by simp)
  refine limO_iff.2 ⟨s.ranked.length + 1, fun k hk => ?_⟩
  obtain ⟨j, rfl⟩ : ∃ j, k = s.ranked.length + 1 + j := ⟨k - (s.ranked.length + 1), by omega⟩
  exact (key j).1
theorem sm_of {s : Spp} (se : smSpp s) : Sm s := by
  have h1 : s.ranked.length ≤ 1048576 ∧ ∀ w ∈ s.ranked, w.length ≤ 1048576 ∧ ∀ p ∈ w, p.length ≤ 1048576 := se
  exact ⟨by omega, fun w hw => ⟨by have := (h1.2 w hw).1; omega, fun p hp => by have := (h1.2 w hw).2 p hp; omega⟩⟩
theorem k28 (s : Spp) (a : Int) (se : smSpp s) (h0 : 0 ≤ a) (h1 : a ≤ 1099511627776) : ∃ k ys, m28 s a = some (k, ys) ∧ ys.length = s.ranked.length ∧ a ≤ k ∧ k ≤ a + 1152921504606846976 := by
  obtain ⟨k, ys, e1, e2, e3, e4, _⟩ := k72 s.ranked a se h0 (by omega)
  exact ⟨k, ys, by unfold m28; rw [e1, bnd_ok, sel2_ok, ck_ok e2], e2, e3, e4⟩
theorem same {s : Spp} (hs : Sm s) : ∃ x y, m31 s = some (x, y) ∧ m32 s = some (x, y) ∧ smLLInt x := by
  unfold m31 m32
  rw [p14 s hs, p16 s hs, bnd_ok, bnd_ok]
  cases hg : goodB s with
  | false => exact ⟨_, _, rfl, rfl, by simp [smLLInt]⟩
  | true =>
    have G := good_of hg
    obtain ⟨e1, e2, e3⟩ := p73 hs G
    rw [br_true, br_true, e1, p74 hs G]
    exact ⟨_, _, rfl, rfl, by omega, fun x hx => by have := e3 x hx; unfold smLInt; omega⟩
theorem law (s : Spp) (hw : wfSpp s) : m8 s = some true := by
  unfold m8
  obtain ⟨v, e, lo, u, hsm⟩ := z13 s 1048576 hw (by omega) (by omega)
  rw [e, bnd_ok]
  by_cases cv : v < 0
  · rw [(ltI_iff _ _).2 cv]; rfl
  rw [(ltI_not _ _).2 (by omega), br_false]
  have se := hsm (by omega)
  have hs := sm_of se
  obtain ⟨x, y, e1, e2, sx⟩ := same hs
  obtain ⟨k, ys, f1, f2, f3, f4⟩ := k28 s 1 se (by omega) (by omega)
  obtain ⟨k2, zs, g1, g2, g3, g4, g5⟩ := k34 x 1 sx (by omega) (by omega)
  simp only [t15 s se, bnd_ok, e1, e2, sel2_ok, m8_1, m8_2, m8_3, q33 x sx, eqB_self, br_true, Bool.not_true, br_false, q17 s se, f1, ck_ok f2, (ltI_not k 0).2 (by omega), g1, ck_ok g2, g5, (ltI_not k2 0).2 (by omega), eqI_self]
end Go.Pi.Ytpfoleebeamgpaa.StableOnes
