/- What functions of the program answer, and that the law answers true at every input; no condition -/
import Derived.Test.YtnogicfhdgpdjaaDeriveByStdDeriveBy
set_option linter.all false
/- trees and derivatives -/
namespace Go.Pi.Ytnogicfhdgpdjaa.DeriveBy
open Go Go.Pi
theorem p51 (a x y : Int) : m51 a x y = some (decide (x ≤ a ∧ a ≤ y)) := by
  simp only [m51, m51_1, bnd_ok, br_bool]
  rw [Option.some.injEq, Bool.eq_iff_iff, decide_eq_true_eq]
  simp only [Bool.and_eq_true, Bool.or_eq_true, Bool.not_eq_true', leI_iff, ltI_iff, leI_not, and_false, or_false, Bool.false_eq_true]
theorem p36 (a x y : Int) : m36 a x y = some (decide (x ≤ a ∧ a ≤ y)) := p51 a x y
/-! ### Path patterns -/
def ar (k : Int) : Int := if 1 ≤ k ∧ k ≤ 4 then 0 else if k = 5 ∨ k = 6 then 2 else if k = 7 then 1 else -1
theorem p78 (k : Int) : m78 k = some (ar k) := by
  simp only [m78, m78_1, m78_2, m78_3, m78_4, bnd_ok, br_ite, bnd_ite, eqI_iff, eqI]
  have h : (1 ≤ k ∧ k ≤ 4) ∨ k = 5 ∨ k = 6 ∨ k = 7 ∨ k < 1 ∨ 7 < k := by omega
  have h0 : (k < 1 ∨ 7 < k) → ar k = -1 := fun h => by unfold ar; rw [if_neg (by omega), if_neg (by omega), if_neg (by omega)]
  rcases h with h | h | h | h | h
  · have h : k = 1 ∨ k = 2 ∨ k = 3 ∨ k = 4 := by omega
    rcases h with h | h | h | h <;> subst h <;> rfl
  · subst h; rfl
  · subst h; rfl
  · subst h; rfl
  · rw [h0 h]
    simp [show k ≠ 1 by omega, show k ≠ 2 by omega, show k ≠ 3 by omega, show k ≠ 4 by omega, show k ≠ 5 by omega, show k ≠ 6 by omega, show k ≠ 7 by omega]
theorem p67 (k : Int) : m67 k = some (ar k) := by
  simp only [m67, m67_1, m67_2, m67_3, m67_4, bnd_ok, br_ite, bnd_ite, eqI_iff, eqI]
  have h : (1 ≤ k ∧ k ≤ 4) ∨ k = 5 ∨ k = 6 ∨ k = 7 ∨ k < 1 ∨ 7 < k := by omega
  have h0 : (k < 1 ∨ 7 < k) → ar k = -1 := fun h => by unfold ar; rw [if_neg (by omega), if_neg (by omega), if_neg (by omega)]
  rcases h with h | h | h | h | h
  · have h : k = 1 ∨ k = 2 ∨ k = 3 ∨ k = 4 := by omega
    rcases h with h | h | h | h <;> subst h <;> rfl
  · subst h; rfl
  · subst h; rfl
  · subst h; rfl
  · rw [h0 h]
    simp [show k ≠ 1 by omega, show k ≠ 2 by omega, show k ≠ 3 by omega, show k ≠ 4 by omega, show k ≠ 5 by omega, show k ≠ 6 by omega, show k ≠ 7 by omega]
theorem ar_range (k : Int) : -1 ≤ ar k ∧ ar k ≤ 2 := by unfold ar; repeat' split <;> omega
def okN (c : ReCell) : Bool := decide ((c.kind = 3 → 1 ≤ c.n ∧ c.n ≤ 65535) ∧ (c.kind ≠ 3 → c.n = 0))
def okC (c : ReCell) : Bool := decide (0 ≤ ar c.kind) && okN c
/-- So many patterns are read from the front. -/
def scan (ok : ReCell → Bool) : Nat → List ReCell → Option (List ReCell)
  | 0, l => some l
  | _ + 1, [] => none
  | n + 1, c :: r => if ok c = true then scan ok (n + (ar c.kind).toNat) r else none
theorem scan_zero (ok : ReCell → Bool) (l : List ReCell) : scan ok 0 l = some l := by cases l <;> rfl
theorem scan_add (ok : ReCell → Bool) : ∀ (l : List ReCell) (a b : Nat), scan ok (a + b) l = (scan ok a l).bind (scan ok b) := by
  intro l
  induction l with
  | nil =>
    intro a b
    cases a with
    | zero => rw [Nat.zero_add, scan_zero]; rfl
    | succ a => rw [Nat.succ_add]; rfl
  | cons c r ih =>
    intro a b
    cases a with
    | zero => rw [Nat.zero_add, scan_zero]; rfl
    | succ a =>
      rw [Nat.succ_add]
      simp only [scan]
      split
      · rw [show a + b + (ar c.kind).toNat = (a + (ar c.kind).toNat) + b by omega]; exact ih _ _
      · rfl
theorem scan_suffix (ok : ReCell → Bool) : ∀ (l : List ReCell) (n : Nat) (r : List ReCell), scan ok n l = some r → ∃ p, l = p ++ r ∧ (1 ≤ n → 1 ≤ p.length) := by
  intro l
  induction l with
  | nil =>
    intro n r h
    cases n with
    | zero => rw [scan_zero] at h; cases h; exact ⟨[], rfl, fun h => by omega⟩
    | succ n => cases h
  | cons c t ih =>
    intro n r h
    cases n with
    | zero => rw [scan_zero] at h; cases h; exact ⟨[], rfl, fun h => by omega⟩
    | succ n =>
      simp only [scan] at h
      split at h
      · obtain ⟨p, hp, _⟩ := ih _ _ h
        exact ⟨c :: p, by rw [hp]; rfl, fun _ => by simp⟩
      · cases h
theorem scan_all : ∀ (l : List ReCell) (n : Nat), scan okC n l = some [] ↔ scan (fun c => decide (0 ≤ ar c.kind)) n l = some [] ∧ l.all okN = true := by
  intro l
  induction l with
  | nil => intro n; cases n <;> simp [scan]
  | cons c r ih =>
    intro n
    cases n with
    | zero => simp [scan]
    | succ n =>
      simp only [scan, okC, List.all_cons]
      by_cases h1 : 0 ≤ ar c.kind
      · by_cases h2 : okN c = true
        · simpa [h1, h2] using ih _
        · simp [h1, h2]
      · simp [h1]
/-- Where one stands behind what has been read. -/
def posOf (l : List ReCell) : Option (List ReCell) → Int
  | none => 0
  | some r => (l.length : Int) - r.length
theorem p62_1 (rc : List ReCell → Int → Option (l6T × Int)) (c : ReCell) : m62_1 rc (ar c.kind) c = some (!okC c) := by
  simp only [m62_1, p36, bnd_ok, br_bool, okC, okN]
  rw [Option.some.injEq, Bool.eq_iff_iff]
  simp only [Bool.and_eq_true, Bool.or_eq_true, Bool.not_eq_true', Bool.and_eq_false_iff, decide_eq_true_eq, decide_eq_false_iff_not, ltI_iff, ltI_not, eqI_iff, eqI_not, Bool.not_eq_false', and_true, Bool.true_eq_false, and_false, Bool.false_eq_true, false_or, or_false]
  omega
theorem kids (l : List ReCell) (hl : l.length ≤ 1048576) (k : Nat) (rc1 rc2 : List ReCell → Int → Option (l6T × Int))
    (hrc : ∀ at_ : Nat, at_ ≤ l.length → l.length < at_ + k → ∃ r, rc1 l (at_ : Int) = some r ∧ rc2 l (at_ : Int) = some r ∧ r.2 = posOf l (scan okC 1 (l.drop at_))) :
    ∀ (n pos : Nat) (ks : List l6T), pos ≤ l.length → 1 ≤ pos → l.length < pos + k → ks.length + n ≤ 2 →
      ∃ o, loopP (m62_2b rc1 l) ((pos : Int), (n : Int), ks) = some o ∧ loopP (m62_2b rc2 l) ((pos : Int), (n : Int), ks) = some o ∧ match scan okC n (l.drop pos) with
        | some r => ∃ ks', o = .inl ((l.length : Int) - r.length, ks')
        | none => o = .inr () := by
  intro n
  induction n with
  | zero =>
    intro pos ks hp h1 hk hks
    refine ⟨.inl ((pos : Int), ks), loopP_out (by simp only [m62_2b, sel3]; rw [(ltI_not _ _).2 (by omega), br_false]), loopP_out (by simp only [m62_2b, sel3]; rw [(ltI_not _ _).2 (by omega), br_false]), ?_⟩
    rw [scan_zero]
    exact ⟨ks, by rw [List.length_drop]; congr 2; omega⟩
  | succ n ih =>
    intro pos ks hp h1 hk hks
    obtain ⟨r, r1, r2, r3⟩ := hrc pos hp hk
    obtain ⟨t, q⟩ := r
    simp only at r3
    rw [show n + 1 = 1 + n by omega, scan_add]
    cases hs : scan okC 1 (l.drop pos) with
    | none =>
      rw [hs] at r3
      simp only [posOf] at r3
      subst r3
      refine ⟨.inr (), loopP_out ?_, loopP_out ?_, rfl⟩
      · simp only [m62_2b, sel3, (ltI_iff 0 ((1 + n : Nat) : Int)).2 (by omega), br_true, r1, bnd_ok, sel2_ok, eqI_self]
      · simp only [m62_2b, sel3, (ltI_iff 0 ((1 + n : Nat) : Int)).2 (by omega), br_true, r2, bnd_ok, sel2_ok, eqI_self]
    | some rest =>
      rw [hs] at r3
      simp only [posOf] at r3
      obtain ⟨p, hp1, hp2⟩ := scan_suffix okC _ _ _ hs
      have hp3 := hp2 (Nat.le_refl _)
      have hlen : l.length - pos = p.length + rest.length := by have := congrArg List.length hp1; simpa using this
      have hq : q = ((pos + p.length : Nat) : Int) := by omega
      have hdrop : l.drop (pos + p.length) = rest := by rw [← List.drop_drop, hp1]; simp
      have ew : wsub .i64 ((1 + n : Nat) : Int) 1 = (n : Int) := by rw [wsub64 (by omega) (by omega)]; omega
      obtain ⟨o, o1, o2, o3⟩ := ih (pos + p.length) (ks ++ [t]) (by omega) (by omega) (by omega) (by simp; omega)
      rw [hdrop] at o3
      refine ⟨o, ?_, ?_, o3⟩
      · rw [← o1]
        refine loopP_nxt ?_
        simp only [m62_2b, sel3, (ltI_iff 0 ((1 + n : Nat) : Int)).2 (by omega), br_true, r1, bnd_ok, sel2_ok, hq, (eqI_not ((pos + p.length : Nat) : Int) 0).2 (by omega), br_false, ck_ok (show ks.length + 1 ≤ 4294967296 by omega), ew]
      · rw [← o2]
        refine loopP_nxt ?_
        simp only [m62_2b, sel3, (ltI_iff 0 ((1 + n : Nat) : Int)).2 (by omega), br_true, r2, bnd_ok, sel2_ok, hq, (eqI_not ((pos + p.length : Nat) : Int) 0).2 (by omega), br_false, ck_ok (show ks.length + 1 ≤ 4294967296 by omega), ew]
theorem one (l : List ReCell) (hl : l.length ≤ 1048576) (k : Nat) (rc1 rc2 : List ReCell → Int → Option (l6T × Int))
    (hrc : ∀ at_ : Nat, at_ ≤ l.length → l.length < at_ + k → ∃ r, rc1 l (at_ : Int) = some r ∧ rc2 l (at_ : Int) = some r ∧ r.2 = posOf l (scan okC 1 (l.drop at_))) (at_ : Nat) (h : l.length < at_ + (k + 1)) :
    ∃ r, m62r rc1 l (at_ : Int) = some r ∧ m62r rc2 l (at_ : Int) = some r ∧ r.2 = posOf l (scan okC 1 (l.drop at_)) := by
  by_cases ha : l.length ≤ at_
  · rw [List.drop_eq_nil_of_le ha]
    refine ⟨(⟨0, 0, []⟩, 0), ?_, ?_, rfl⟩
    · simp only [m62r, (leI_iff (l.length : Int) (at_ : Int)).2 (by omega), br_true]
    · simp only [m62r, (leI_iff (l.length : Int) (at_ : Int)).2 (by omega), br_true]
  · have hlt : at_ < l.length := by omega
    rw [List.drop_eq_getElem_cons hlt]
    simp only [m62r, (leI_not (l.length : Int) (at_ : Int)).2 (by omega), br_false, idx_get hlt, bnd_ok, p78, p62_1, scan]
    cases hc : okC l[at_] with
    | false => exact ⟨_, rfl, rfl, rfl⟩
    | true =>
      have hc' := hc
      simp only [okC, Bool.and_eq_true, decide_eq_true_eq] at hc'
      have hr := ar_range l[at_].kind
      obtain ⟨n, hn⟩ : ∃ n : Nat, ar l[at_].kind = (n : Int) := ⟨(ar l[at_].kind).toNat, by omega⟩
      have ew : wadd .i64 (at_ : Int) 1 = ((at_ + 1 : Nat) : Int) := by rw [wadd64 (by omega) (by omega)]; omega
      obtain ⟨o, o1, o2, o3⟩ := kids l hl k rc1 rc2 hrc n (at_ + 1) [] (by omega) (by omega) (by omega) (by simp; omega)
      rw [hn, ew]
      simp only [Bool.not_true, br_false, o1, o2, bnd_ok, if_true, Nat.zero_add, Int.toNat_natCast]
      cases hs : scan okC n (l.drop (at_ + 1)) with
      | none =>
        rw [hs] at o3; simp only at o3; subst o3
        exact ⟨_, rfl, rfl, rfl⟩
      | some rest =>
        rw [hs] at o3
        obtain ⟨ks', rfl⟩ := o3
        exact ⟨_, rfl, rfl, rfl⟩
theorem read (l : List ReCell) (hl : l.length ≤ 1048576) : ∀ (k at_ : Nat), at_ ≤ l.length → l.length < at_ + k → ∃ r, m62k k l (at_ : Int) = some r ∧ m62k (k + 1) l (at_ : Int) = some r ∧ r.2 = posOf l (scan okC 1 (l.drop at_)) := by
  intro k
  induction k with
  | zero =>
    intro at_ h0 h
    exact absurd h (by omega)
  | succ k ih => intro at_ h0 h; exact one l hl k (m62k k) (m62k (k + 1)) ih at_ h
theorem p62 (l : List ReCell) (hl : l.length ≤ 1048576) : ∃ t, m62 l 0 = some (t, posOf l (scan okC 1 l)) := by
  obtain ⟨r, r1, r2, r3⟩ := read l hl (l.length + 1) 0 (by omega) (by omega)
  have all : ∀ j, m62k (l.length + 1 + j) l ((0 : Nat) : Int) = some r := by
    intro j
    induction j with
    | zero => exact r1
    | succ j ih =>
      obtain ⟨r', q1, q2, _⟩ := read l hl (l.length + 1 + j) 0 (by omega) (by omega)
      rw [ih] at q1
      cases q1
      exact q2
  obtain ⟨t, q⟩ := r
  simp only [List.drop_zero] at r3
  subst r3
  refine ⟨t, ?_⟩
  unfold m62
  refine limO_iff.2 ⟨l.length + 1, fun j hj => ?_⟩
  have := all (j - (l.length + 1))
  rw [show l.length + 1 + (j - (l.length + 1)) = j by omega] at this
  exact this
def okRe (l : List ReCell) : Bool := decide (l.length ≤ 30) && decide (scan okC 1 l = some [])
theorem p40 (l : List ReCell) (hl : l.length ≤ 1048576) : m40 l = some (okRe l) := by
  unfold m40 m28
  by_cases c : l.length ≤ 30
  · rw [(ltI_not _ _).2 (by omega), br_false]
    obtain ⟨t, e⟩ := p62 l hl
    rw [e, bnd_ok, sel2_ok]
    have e1 : m28_1 l (posOf l (scan okC 1 l)) = some (okRe l) := by
      unfold m28_1 okRe
      rw [decide_eq_true c, Bool.true_and]
      cases hs : scan okC 1 l with
      | none => rfl
      | some rest =>
        obtain ⟨p, hp1, hp2⟩ := scan_suffix okC _ _ _ hs
        have hp3 := hp2 (Nat.le_refl _)
        have hlen : l.length = p.length + rest.length := by have := congrArg List.length hp1; simpa using this
        simp only [posOf]
        rw [(ltI_iff _ _).2 (by omega), br_true, Option.some.injEq, Bool.eq_iff_iff, eqI_iff, decide_eq_true_eq, Option.some.injEq]
        constructor
        · intro h; exact List.eq_nil_of_length_eq_zero (by omega)
        · intro h; subst h; simp
    rw [e1, bnd_ok, bnd_ok, sel2_ok]
  · rw [(ltI_iff _ _).2 (by omega), br_true, bnd_ok, sel2_ok, okRe, decide_eq_false c]; rfl
def okA (c : ReCell) : Bool := decide (0 ≤ ar c.kind)
theorem sizes (l : List ReCell) (hl : l.length ≤ 1048576) : ∀ (m i n : Nat), m + i = l.length → 1 ≤ n → n ≤ 1 + 2 * i →
    ∃ o, loopP (m49_1b l 0) ((n : Int), (i : Int)) = some o ∧ selS o (fun _ => some (-1 : Int)) (fun v => some v) = some (match scan okA n (l.drop i) with | some r => (l.length : Int) - r.length | none => -1) := by
  intro m
  induction m with
  | zero =>
    intro i n hm h1 h2
    rw [List.drop_eq_nil_of_le (by omega)]
    obtain ⟨n', rfl⟩ : ∃ n', n = n' + 1 := ⟨n - 1, by omega⟩
    exact ⟨.inl (), loopP_out (by simp only [m49_1b, sel2, (ltI_not (i : Int) (l.length : Int)).2 (by omega), br_false]), rfl⟩
  | succ m ih =>
    intro i n hm h1 h2
    have h : i < l.length := by omega
    obtain ⟨n', rfl⟩ : ∃ n', n = n' + 1 := ⟨n - 1, by omega⟩
    rw [List.drop_eq_getElem_cons h, scan]
    have hr := ar_range l[i].kind
    by_cases ha : 0 ≤ ar l[i].kind
    · have hok : okA l[i] = true := decide_eq_true ha
      rw [if_pos hok]
      obtain ⟨a, hn⟩ : ∃ a : Nat, ar l[i].kind = (a : Int) := ⟨(ar l[i].kind).toNat, by omega⟩
      have e1 : wsub .i64 (a : Int) 1 = (a : Int) - 1 := wsub64 (by omega) (by omega)
      have e2 : wadd .i64 ((n' + 1 : Nat) : Int) ((a : Int) - 1) = ((n' + a : Nat) : Int) := by rw [wadd64 (by omega) (by omega)]; omega
      have e3 : wadd .i64 (i : Int) 1 = ((i + 1 : Nat) : Int) := wsucc h (by omega)
      have e4 : wsub .i64 ((i + 1 : Nat) : Int) 0 = ((i + 1 : Nat) : Int) := by rw [wsub64 (by omega) (by omega)]; omega
      rw [hn, Int.toNat_natCast]
      by_cases hz : n' + a = 0
      · rw [hz, scan_zero]
        refine ⟨.inr ((i + 1 : Nat) : Int), loopP_out ?_, ?_⟩
        · simp only [m49_1b, sel2, (ltI_iff (i : Int) (l.length : Int)).2 (by omega), br_true, idx_get h, bnd_ok, p67, hn, (ltI_not (a : Int) 0).2 (by omega), br_false, e1, e2, e3, e4, (eqI_iff ((n' + a : Nat) : Int) 0).2 (by omega)]
        · simp only [selS_inr, List.length_drop]; congr 1; omega
      · obtain ⟨o, o1, o2⟩ := ih (i + 1) (n' + a) (by omega) (by omega) (by omega)
        refine ⟨o, ?_, o2⟩
        rw [← o1]
        refine loopP_nxt ?_
        simp only [m49_1b, sel2, (ltI_iff (i : Int) (l.length : Int)).2 (by omega), br_true, idx_get h, bnd_ok, p67, hn, (ltI_not (a : Int) 0).2 (by omega), br_false, e1, e2, e3, (eqI_not ((n' + a : Nat) : Int) 0).2 (by omega)]
    · have hok : ¬ okA l[i] = true := by unfold okA; rw [decide_eq_false ha]; simp
      rw [if_neg hok]
      refine ⟨.inr (-1), loopP_out ?_, rfl⟩
      simp only [m49_1b, sel2, (ltI_iff (i : Int) (l.length : Int)).2 (by omega), br_true, idx_get h, bnd_ok, p67, (ltI_iff (ar l[i].kind) 0).2 (by omega)]
theorem p49 (l : List ReCell) (hl : l.length ≤ 1048576) : m49 l 0 = some (match scan okA 1 l with | some r => (l.length : Int) - r.length | none => -1) := by
  obtain ⟨o, o1, o2⟩ := sizes l hl l.length 0 1 (by omega) (by omega) (by omega)
  have o1' : loopP (m49_1b l 0) (1, 0) = some o := o1
  unfold m49
  rw [o1', bnd_ok, o2, List.drop_zero]
theorem p53 (c : ReCell) : m53 c = some (!okN c) := by
  simp only [m53, m53_1, m41, p51, bnd_ok, br_bool, okN]
  rw [Option.some.injEq, Bool.eq_iff_iff]
  simp only [Bool.and_eq_true, Bool.or_eq_true, Bool.not_eq_true', Bool.and_eq_false_iff, decide_eq_true_eq, decide_eq_false_iff_not, eqI_iff, eqI_not, Bool.not_eq_false', and_true, Bool.true_eq_false, and_false, Bool.false_eq_true, false_or, or_false]
  omega
theorem p52 (l : List ReCell) (hl : l.length ≤ 1048576) : m52 l (fun y0 => m53 y0) = some (l.any fun c => !okN c) := by
  simp only [m52, m76, indexFunc (body := m76_1b l (l.length : Int) (fun y0 => m53 y0)) (f := fun y0 => m53 y0) l (fun c => !okN c) (fun x _ => p53 x) (by omega) (fun s => rfl), bnd_ok, containsFunc]
theorem any_not {α : Type} (p : α → Bool) (l : List α) : (!l.any fun c => !p c) = l.all p := by
  induction l with
  | nil => rfl
  | cons c r ih => simp only [List.any_cons, List.all_cons, Bool.not_or, Bool.not_not, ih]
theorem p21 (l : List ReCell) (hl : l.length ≤ 1048576) : m21 l = some (okRe l) := by
  simp only [m21, m21_1, p51, bnd_ok, p49 l hl, p52 l hl, any_not]
  have hs := scan_all l 1
  by_cases c : 1 ≤ l.length ∧ l.length ≤ 30
  · rw [decide_eq_true (show 1 ≤ (l.length : Int) ∧ (l.length : Int) ≤ 30 by omega), br_true, bnd_ok]
    have e : (eqI (match scan okA 1 l with | some r => (l.length : Int) - r.length | none => -1) (l.length : Int)) = decide (scan okA 1 l = some []) := by
      rw [Bool.eq_iff_iff, eqI_iff, decide_eq_true_eq]
      cases hq : scan okA 1 l with
      | none => simp
      | some rest =>
        simp only [Option.some.injEq]
        constructor
        · intro h; exact List.eq_nil_of_length_eq_zero (by omega)
        · intro h; subst h; simp
    rw [e]
    by_cases h1 : scan okA 1 l = some []
    · rw [decide_eq_true h1, Bool.not_true, br_false, Option.some.injEq, Bool.eq_iff_iff, okRe, decide_eq_true c.2, Bool.true_and, decide_eq_true_eq, hs]
      exact ⟨fun h => ⟨h1, h⟩, fun h => h.2⟩
    · rw [decide_eq_false h1, Bool.not_false, br_true, okRe, decide_eq_false (p := scan okC 1 l = some []) (fun h => h1 (hs.1 h).1), Bool.and_false]
  · rw [decide_eq_false (show ¬ (1 ≤ (l.length : Int) ∧ (l.length : Int) ≤ 30) by omega), br_false, bnd_ok, br_true, okRe]
    by_cases c2 : l.length ≤ 30
    · have : l = [] := List.eq_nil_of_length_eq_zero (by omega)
      subst this; rfl
    · rw [decide_eq_false c2]; rfl
/-! ### Patterns as trees -/
inductive RX where
  | no | ep | as (n : Int) | an | cat (a b : RX) | alt (a b : RX) | st (a : RX)
  deriving DecidableEq
def toS : RX → l6T
  | .no => .mk 1 0 [] | .ep => .mk 2 0 [] | .as n => .mk 3 n [] | .an => .mk 4 0 []
  | .cat a b => .mk 5 0 [toS a, toS b] | .alt a b => .mk 6 0 [toS a, toS b] | .st a => .mk 7 0 [toS a]
def toI : RX → pattern
  | .no => .mk ⟨1, 0⟩ [] | .ep => .mk ⟨2, 0⟩ [] | .as n => .mk ⟨3, n⟩ [] | .an => .mk ⟨4, 0⟩ []
  | .cat a b => .mk ⟨5, 0⟩ [toI a, toI b] | .alt a b => .mk ⟨6, 0⟩ [toI a, toI b] | .st a => .mk ⟨7, 0⟩ [toI a]
def flat : RX → List ReCell
  | .no => [⟨1, 0⟩] | .ep => [⟨2, 0⟩] | .as n => [⟨3, n⟩] | .an => [⟨4, 0⟩]
  | .cat a b => ⟨5, 0⟩ :: (flat a ++ flat b) | .alt a b => ⟨6, 0⟩ :: (flat a ++ flat b) | .st a => ⟨7, 0⟩ :: flat a
def nul : RX → Bool
  | .ep => true | .st _ => true | .cat a b => nul a && nul b | .alt a b => nul a || nul b | _ => false
def der (x : Int) : RX → RX
  | .as n => if n = x then .ep else .no
  | .an => .ep
  | .alt a b => .alt (der x a) (der x b)
  | .st a => .cat (der x a) (.st a)
  | .cat a b => if nul a = true then .alt (.cat (der x a) b) (der x b) else .cat (der x a) b
  | _ => .no
def mkCat (a b : RX) : RX := if a = .no ∨ b = .no then .no else if a = .ep then b else if b = .ep then a else .cat a b
def mkAlt (a b : RX) : RX := if a = .no then b else if b = .no ∨ a = b then a else .alt a b
def mkSt : RX → RX
  | .no => .ep | .ep => .ep | .st a => .st a | a => .st a
def td : RX → RX
  | .cat a b => mkCat (td a) (td b) | .alt a b => mkAlt (td a) (td b) | .st a => mkSt (td a)
  | r => r
def kn : RX → Int
  | .no => 1 | .ep => 2 | .as _ => 3 | .an => 4 | .cat _ _ => 5 | .alt _ _ => 6 | .st _ => 7
def Ev {α : Type} (f : Nat → Option α) (r : α) : Prop := ∃ N, ∀ j, N ≤ j → f j = some r
theorem ev_succ {α : Type} {f : Nat → Option α} {r : α} (N : Nat) (h : ∀ j, N ≤ j → f (j + 1) = some r) : Ev f r :=
  ⟨N + 1, fun j hj => by obtain ⟨j', rfl⟩ : ∃ j', j = j' + 1 := ⟨j - 1, by omega⟩; exact h j' (by omega)⟩
theorem ev_lim {α : Type} {f : Nat → Option α} {r : α} (h : Ev f r) : limO f = some r := limO_iff.2 h
theorem idx0 {α : Type} (x : α) (l : List α) : idx (x :: l) 0 = some x := by simp [idx]
theorem idx1 {α : Type} (x y : α) (l : List α) : idx (x :: y :: l) 1 = some y := by simp [idx]
theorem nulS (r : RX) : Ev (fun k => m66k k (toS r)) (nul r) := by
  induction r with
  | no => exact ev_succ 0 fun j _ => rfl
  | ep => exact ev_succ 0 fun j _ => rfl
  | as n => exact ev_succ 0 fun j _ => rfl
  | an => exact ev_succ 0 fun j _ => rfl
  | st a _ => exact ev_succ 0 fun j _ => rfl
  | cat a b iha ihb =>
    obtain ⟨N, ha⟩ := iha; obtain ⟨M, hb⟩ := ihb
    refine ev_succ (max N M) fun j hj => ?_
    have h1 := ha j (by omega); have h2 := hb j (by omega)
    show m66r (m66k j) (toS (.cat a b)) = _
    simp only at h1 h2
    cases e : nul a <;> simp [m66r, m66_1, m66_2, m66_3, toS, l6T.kind_, l6T.kids_, eqI, br, bnd, idx0, idx1, h1, h2, nul, e]
  | alt a b iha ihb =>
    obtain ⟨N, ha⟩ := iha; obtain ⟨M, hb⟩ := ihb
    refine ev_succ (max N M) fun j hj => ?_
    have h1 := ha j (by omega); have h2 := hb j (by omega)
    show m66r (m66k j) (toS (.alt a b)) = _
    simp only at h1 h2
    cases e : nul a <;> simp [m66r, m66_1, m66_2, m66_3, toS, l6T.kind_, l6T.kids_, eqI, br, bnd, idx0, idx1, h1, h2, nul, e]
theorem nulI (r : RX) : Ev (fun k => m58k k (toI r)) (nul r) := by
  induction r with
  | no => exact ev_succ 0 fun j _ => rfl
  | ep => exact ev_succ 0 fun j _ => rfl
  | as n => exact ev_succ 0 fun j _ => rfl
  | an => exact ev_succ 0 fun j _ => rfl
  | st a _ => exact ev_succ 0 fun j _ => rfl
  | cat a b iha ihb =>
    obtain ⟨N, ha⟩ := iha; obtain ⟨M, hb⟩ := ihb
    refine ev_succ (max N M) fun j hj => ?_
    have h1 := ha j (by omega); have h2 := hb j (by omega)
    show m58r (m58k j) (toI (.cat a b)) = _
    simp only at h1 h2
    cases e : nul a <;> simp [m58r, m58_1, m58_2, m58_3, toI, pattern.cell, pattern.parts, eqI, br, bnd, idx0, idx1, h1, h2, nul, e]
  | alt a b iha ihb =>
    obtain ⟨N, ha⟩ := iha; obtain ⟨M, hb⟩ := ihb
    refine ev_succ (max N M) fun j hj => ?_
    have h1 := ha j (by omega); have h2 := hb j (by omega)
    show m58r (m58k j) (toI (.alt a b)) = _
    simp only at h1 h2
    cases e : nul a <;> simp [m58r, m58_1, m58_2, m58_3, toI, pattern.cell, pattern.parts, eqI, br, bnd, idx0, idx1, h1, h2, nul, e]
theorem p66 (r : RX) : m66 (toS r) = some (nul r) := ev_lim (nulS r)
theorem p58 (r : RX) : m58 (toI r) = some (nul r) := ev_lim (nulI r)
theorem derS (x : Int) (r : RX) : Ev (fun k => m39k k (toS r) x) (toS (der x r)) := by
  induction r with
  | no => exact ev_succ 0 fun j _ => rfl
  | ep => exact ev_succ 0 fun j _ => rfl
  | as n =>
    refine ev_succ 0 fun j _ => ?_
    show m39r (m39k j) (toS (.as n)) x = _
    by_cases c : n = x <;> simp [m39r, m39_1, toS, l6T.kind_, l6T.kids_, l6T.n_, eqI, br, bnd, selS, sel2, der, c]
  | an => exact ev_succ 0 fun j _ => rfl
  | st a iha =>
    obtain ⟨N, ha⟩ := iha
    refine ev_succ N fun j hj => ?_
    have h1 := ha j hj
    simp only at h1
    show m39r (m39k j) (toS (.st a)) x = _
    simp [m39r, m39_1, toS, l6T.kind_, l6T.kids_, l6T.n_, eqI, br, bnd, selS, sel2, der, idx0, h1]
  | cat a b iha ihb =>
    obtain ⟨N, ha⟩ := iha; obtain ⟨M, hb⟩ := ihb
    refine ev_succ (max N M) fun j hj => ?_
    have h1 := ha j (by omega); have h2 := hb j (by omega)
    simp only at h1 h2
    show m39r (m39k j) (toS (.cat a b)) x = _
    cases e : nul a <;> simp [m39r, m39_1, toS, l6T.kind_, l6T.kids_, l6T.n_, eqI, br, bnd, selS, sel2, der, idx0, idx1, h1, h2, p66, e]
  | alt a b iha ihb =>
    obtain ⟨N, ha⟩ := iha; obtain ⟨M, hb⟩ := ihb
    refine ev_succ (max N M) fun j hj => ?_
    have h1 := ha j (by omega); have h2 := hb j (by omega)
    simp only at h1 h2
    show m39r (m39k j) (toS (.alt a b)) x = _
    simp [m39r, m39_1, toS, l6T.kind_, l6T.kids_, l6T.n_, eqI, br, bnd, selS, sel2, der, idx0, idx1, h1, h2]
theorem derI (x : Int) (r : RX) : Ev (fun k => m43k k (toI r) x) (toI (der x r)) := by
  induction r with
  | no => exact ev_succ 0 fun j _ => rfl
  | ep => exact ev_succ 0 fun j _ => rfl
  | as n =>
    refine ev_succ 0 fun j _ => ?_
    show m43r (m43k j) (toI (.as n)) x = _
    by_cases c : n = x <;> simp [m43r, m43_1, m68, toI, pattern.cell, pattern.parts, eqI, br, bnd, selS, sel2, der, c]
  | an => exact ev_succ 0 fun j _ => rfl
  | st a iha =>
    obtain ⟨N, ha⟩ := iha
    refine ev_succ N fun j hj => ?_
    have h1 := ha j hj
    simp only at h1
    show m43r (m43k j) (toI (.st a)) x = _
    simp [m43r, m43_1, m68, toI, pattern.cell, pattern.parts, eqI, br, bnd, selS, sel2, der, idx0, h1]
  | cat a b iha ihb =>
    obtain ⟨N, ha⟩ := iha; obtain ⟨M, hb⟩ := ihb
    refine ev_succ (max N M) fun j hj => ?_
    have h1 := ha j (by omega); have h2 := hb j (by omega)
    simp only at h1 h2
    show m43r (m43k j) (toI (.cat a b)) x = _
    cases e : nul a <;> simp [m43r, m43_1, m68, toI, pattern.cell, pattern.parts, eqI, br, bnd, selS, sel2, der, idx0, idx1, h1, h2, p58, e]
  | alt a b iha ihb =>
    obtain ⟨N, ha⟩ := iha; obtain ⟨M, hb⟩ := ihb
    refine ev_succ (max N M) fun j hj => ?_
    have h1 := ha j (by omega); have h2 := hb j (by omega)
    simp only at h1 h2
    show m43r (m43k j) (toI (.alt a b)) x = _
    simp [m43r, m43_1, m68, toI, pattern.cell, pattern.parts, eqI, br, bnd, selS, sel2, der, idx0, idx1, h1, h2]
theorem p39 (x : Int) (r : RX) : m39 (toS r) x = some (toS (der x r)) := ev_lim (derS x r)
theorem p43 (x : Int) (r : RX) : m43 (toI r) x = some (toI (der x r)) := ev_lim (derI x r)
/-! ### Trees alike, trees made -/
theorem knS (r : RX) : (toS r).kind_ = kn r := by cases r <;> rfl
theorem knI (r : RX) : (toI r).cell.kind = kn r := by cases r <;> rfl
theorem kn1 (r : RX) : kn r = 1 ↔ r = .no := by cases r <;> simp [kn]
theorem kn2 (r : RX) : kn r = 2 ↔ r = .ep := by cases r <;> simp [kn]
theorem w01 : wadd .i64 0 1 = 1 := by decide
theorem w11 : wadd .i64 1 1 = 2 := by decide
theorem same0 (rc : l6T → l6T → Option Bool) (x y : l6T) : loopP (m80_2b rc 0 x y) 0 = some (.inl ()) := loopP_out (by simp [m80_2b, ltI, br])
theorem same1 {rc : l6T → l6T → Option Bool} {x y : l6T} {u v : l6T} {b : Bool} (hx : x.kids_ = [u]) (hy : y.kids_ = [v]) (h : rc u v = some b) :
    loopP (m80_2b rc 1 x y) 0 = some (if b = true then .inl () else .inr ()) := by
  rw [loopP_eq]
  cases b
  · simp [m80_2b, ltI, br, bnd, hx, hy, idx0, h]
  · simp only [m80_2b, ltI, br, bnd, hx, hy, idx0, h, w01]
    exact loopP_out (by simp [m80_2b, ltI, br])
theorem same2 {rc : l6T → l6T → Option Bool} {x y : l6T} {u v u2 v2 : l6T} {b b2 : Bool} (hx : x.kids_ = [u, u2]) (hy : y.kids_ = [v, v2]) (h : rc u v = some b) (h2 : rc u2 v2 = some b2) :
    loopP (m80_2b rc 2 x y) 0 = some (if b && b2 = true then .inl () else .inr ()) := by
  rw [loopP_eq]
  cases b
  · simp [m80_2b, ltI, br, bnd, hx, hy, idx0, h]
  · simp only [m80_2b, ltI, br, bnd, hx, hy, idx0, h, w01]
    show loopP _ 1 = _
    rw [loopP_eq]
    cases b2
    · simp [m80_2b, ltI, br, bnd, hx, hy, idx1, h2]
    · simp only [m80_2b, ltI, br, bnd, hx, hy, idx1, h2, w11]
      exact loopP_out (by simp [m80_2b, ltI, br])
theorem kdiff (a b : RX) (j : Nat) (h : kn a ≠ kn b) : m80r (m80k j) (toS a) (toS b) = some (decide (a = b)) := by
  have : a ≠ b := fun e => h (by rw [e])
  simp [m80r, m80_1, knS, eqI, h, br, bnd, this]
theorem sameS (a b : RX) : Ev (fun k => m80k k (toS a) (toS b)) (decide (a = b)) := by
  induction a generalizing b with
  | no =>
    refine ev_succ 0 fun j _ => ?_
    show m80r (m80k j) _ (toS b) = _
    cases b with
    | no => simp [m80r, m80_1, toS, l6T.kind_, l6T.n_, l6T.kids_, eqI, br, bnd, same0, selS]
    | _ => exact kdiff _ _ j (by simp [kn])
  | ep =>
    refine ev_succ 0 fun j _ => ?_
    show m80r (m80k j) _ (toS b) = _
    cases b with
    | ep => simp [m80r, m80_1, toS, l6T.kind_, l6T.n_, l6T.kids_, eqI, br, bnd, same0, selS]
    | _ => exact kdiff _ _ j (by simp [kn])
  | an =>
    refine ev_succ 0 fun j _ => ?_
    show m80r (m80k j) _ (toS b) = _
    cases b with
    | an => simp [m80r, m80_1, toS, l6T.kind_, l6T.n_, l6T.kids_, eqI, br, bnd, same0, selS]
    | _ => exact kdiff _ _ j (by simp [kn])
  | as n =>
    refine ev_succ 0 fun j _ => ?_
    show m80r (m80k j) _ (toS b) = _
    cases b with
    | as m => by_cases c : n = m <;> simp [m80r, m80_1, toS, l6T.kind_, l6T.n_, l6T.kids_, eqI, br, bnd, same0, selS, c]
    | _ => exact kdiff _ _ j (by simp [kn])
  | st a iha =>
    cases b with
    | st b =>
      obtain ⟨N, ha⟩ := iha b
      refine ev_succ N fun j hj => ?_
      have h1 := ha j hj
      simp only at h1
      show m80r (m80k j) _ _ = _
      simp only [m80r, m80_1, knS, kn]
      rw [show ((toS (.st a)).kids_.length : Int) = 1 from rfl, same1 (x := toS (.st a)) (y := toS (.st b)) (u := toS a) (v := toS b) rfl rfl h1]
      by_cases c : a = b <;> simp [toS, l6T.n_, eqI, br, bnd, selS, c]
    | _ => exact ev_succ 0 fun j _ => kdiff _ _ j (by simp [kn])
  | cat a a2 iha iha2 =>
    cases b with
    | cat b b2 =>
      obtain ⟨N, ha⟩ := iha b
      obtain ⟨M, ha2⟩ := iha2 b2
      refine ev_succ (max N M) fun j hj => ?_
      have h1 := ha j (by omega)
      have h2 := ha2 j (by omega)
      simp only at h1 h2
      show m80r (m80k j) _ _ = _
      simp only [m80r, m80_1, knS, kn]
      rw [show ((toS (.cat a a2)).kids_.length : Int) = 2 from rfl, same2 (x := toS (.cat a a2)) (y := toS (.cat b b2)) (u := toS a) (v := toS b) (u2 := toS a2) (v2 := toS b2) rfl rfl h1 h2]
      by_cases c : a = b <;> by_cases c2 : a2 = b2 <;> simp [toS, l6T.n_, eqI, br, bnd, selS, c, c2]
    | _ => exact ev_succ 0 fun j _ => kdiff _ _ j (by simp [kn])
  | alt a a2 iha iha2 =>
    cases b with
    | alt b b2 =>
      obtain ⟨N, ha⟩ := iha b
      obtain ⟨M, ha2⟩ := iha2 b2
      refine ev_succ (max N M) fun j hj => ?_
      have h1 := ha j (by omega)
      have h2 := ha2 j (by omega)
      simp only at h1 h2
      show m80r (m80k j) _ _ = _
      simp only [m80r, m80_1, knS, kn]
      rw [show ((toS (.alt a a2)).kids_.length : Int) = 2 from rfl, same2 (x := toS (.alt a a2)) (y := toS (.alt b b2)) (u := toS a) (v := toS b) (u2 := toS a2) (v2 := toS b2) rfl rfl h1 h2]
      by_cases c : a = b <;> by_cases c2 : a2 = b2 <;> simp [toS, l6T.n_, eqI, br, bnd, selS, c, c2]
    | _ => exact ev_succ 0 fun j _ => kdiff _ _ j (by simp [kn])
theorem p80 (a b : RX) : m80 (toS a) (toS b) = some (decide (a = b)) := ev_lim (sameS a b)
theorem etaS (r : RX) : l6T.mk (kn r) (toS r).n_ (toS r).kids_ = toS r := by rw [← knS]; exact (l6T.eta _).symm
theorem makeCat (a b : RX) : m65 5 0 [toS a, toS b] = some (toS (mkCat a b)) := by
  simp only [m65, m65_1, m65_2, idx0, idx1, bnd_ok, knS, eqI, br, kn1, kn2, mkCat]
  by_cases c1 : a = .no
  · simp [c1, selS, sel3, toS]
  by_cases c2 : b = .no
  · simp [c1, c2, selS, sel3, toS]
  by_cases c3 : a = .ep
  · simp [c2, c3, selS, sel3, etaS]
  by_cases c4 : b = .ep
  · simp [c1, c3, c4, selS, sel3, etaS]
  · simp [c1, c2, c3, c4, selS, toS]
theorem makeAlt (a b : RX) : m65 6 0 [toS a, toS b] = some (toS (mkAlt a b)) := by
  simp only [m65, m65_1, m65_3, m65_4, idx0, idx1, bnd_ok, knS, eqI, br, kn1, kn2, mkAlt, p80]
  by_cases c1 : a = .no
  · simp [c1, selS, sel3, etaS]
  by_cases c2 : b = .no
  · simp [c1, c2, selS, sel3, etaS]
  by_cases c3 : a = b
  · simp [c2, c3, selS, sel3, etaS]
  · simp [c1, c2, c3, selS, toS]
theorem makeSt (a : RX) : m65 7 0 [toS a] = some (toS (mkSt a)) := by
  cases a <;> simp [m65, m65_1, m65_3, m65_5, m65_6, idx0, bnd, toS, l6T.kind_, l6T.n_, l6T.kids_, eqI, br, mkSt, selS, sel3]
/-! ### Tidied, flattened, read -/
theorem flat_pos (r : RX) : 1 ≤ (flat r).length := by cases r <;> simp [flat]
theorem kids0 (rc : l6T → Option l6T) (x : l6T) : loopP (m38_1b rc x 0) (0, []) = some [] := loopP_out (by simp [m38_1b, sel2, ltI, br])
theorem kids1 {rc : l6T → Option l6T} {x u v : l6T} (hx : x.kids_ = [u]) (h : rc u = some v) : loopP (m38_1b rc x 1) (0, []) = some [v] := by
  rw [loopP_nxt (s' := (1, [v])) (by simp [m38_1b, sel2, ltI, br, bnd, hx, idx0, h, w01, ck])]
  exact loopP_out (by simp [m38_1b, sel2, ltI, br])
theorem kids2 {rc : l6T → Option l6T} {x u v u2 v2 : l6T} (hx : x.kids_ = [u, u2]) (h : rc u = some v) (h2 : rc u2 = some v2) : loopP (m38_1b rc x 2) (0, []) = some [v, v2] := by
  rw [loopP_nxt (s' := (1, [v])) (by simp [m38_1b, sel2, ltI, br, bnd, hx, idx0, h, w01, ck]), loopP_nxt (s' := (2, [v, v2])) (by simp [m38_1b, sel2, ltI, br, bnd, hx, idx1, h2, w11, ck])]
  exact loopP_out (by simp [m38_1b, sel2, ltI, br])
theorem tidyS (r : RX) : Ev (fun k => m38k k (toS r)) (toS (td r)) := by
  induction r with
  | no | ep | an | as n =>
    refine ev_succ 0 fun j _ => ?_
    show m38r (m38k j) _ = _
    simp only [m38r]
    rw [show ((toS _).kids_.length : Int) = 0 from rfl, kids0]
    rfl
  | st a iha =>
    obtain ⟨N, ha⟩ := iha
    refine ev_succ N fun j hj => ?_
    show m38r (m38k j) _ = _
    simp only [m38r]
    rw [show ((toS (.st a)).kids_.length : Int) = 1 from rfl, kids1 (x := toS (.st a)) rfl (ha j hj), bnd_ok]
    rw [show (toS (.st a)).kind_ = 7 from rfl, show (toS (.st a)).n_ = 0 from rfl, makeSt]; rfl
  | cat a b iha ihb =>
    obtain ⟨N, ha⟩ := iha; obtain ⟨M, hb⟩ := ihb
    refine ev_succ (max N M) fun j hj => ?_
    show m38r (m38k j) _ = _
    simp only [m38r]
    rw [show ((toS (.cat a b)).kids_.length : Int) = 2 from rfl, kids2 (x := toS (.cat a b)) rfl (ha j (by omega)) (hb j (by omega)), bnd_ok]
    rw [show (toS (.cat a b)).kind_ = 5 from rfl, show (toS (.cat a b)).n_ = 0 from rfl, makeCat]; rfl
  | alt a b iha ihb =>
    obtain ⟨N, ha⟩ := iha; obtain ⟨M, hb⟩ := ihb
    refine ev_succ (max N M) fun j hj => ?_
    show m38r (m38k j) _ = _
    simp only [m38r]
    rw [show ((toS (.alt a b)).kids_.length : Int) = 2 from rfl, kids2 (x := toS (.alt a b)) rfl (ha j (by omega)) (hb j (by omega)), bnd_ok]
    rw [show (toS (.alt a b)).kind_ = 6 from rfl, show (toS (.alt a b)).n_ = 0 from rfl, makeAlt]; rfl
theorem p38 (r : RX) : m38 (toS r) = some (toS (td r)) := ev_lim (tidyS r)
theorem flat0 (rc : l6T → List ReCell → Option (List ReCell)) (x : l6T) (acc : List ReCell) : loopP (m37_1b rc x 0) (0, acc) = some acc := loopP_out (by simp [m37_1b, sel2, ltI, br])
theorem cells0 (rc : pattern → Option (List ReCell)) (x : pattern) (acc : List ReCell) : loopP (m45_1b rc x 0) (0, acc) = some acc := loopP_out (by simp [m45_1b, sel2, ltI, br])
theorem flatS (r : RX) : ∀ acc : List ReCell, acc.length + (flat r).length ≤ 4294967296 → Ev (fun k => m37k k (toS r) acc) (acc ++ flat r) := by
  induction r with
  | no | ep | an | as n =>
    intro acc h
    refine ev_succ 0 fun j _ => ?_
    simp only [flat, List.length_cons, List.length_nil] at h
    show m37r (m37k j) _ _ = _
    simp only [m37r]
    rw [ck_ok (by omega), show ((toS _).kids_.length : Int) = 0 from rfl, flat0]
    rfl
  | st a iha =>
    intro acc h
    simp only [flat, List.length_cons] at h
    obtain ⟨N, ha⟩ := iha (acc ++ [⟨7, 0⟩]) (by simp; omega)
    refine ev_succ N fun j hj => ?_
    show m37r (m37k j) _ _ = _
    have h1 := ha j hj
    simp only at h1
    simp only [m37r]
    rw [ck_ok (by omega), show ((toS (.st a)).kids_.length : Int) = 1 from rfl, show (toS (.st a)).kind_ = 7 from rfl, show (toS (.st a)).n_ = 0 from rfl]
    rw [loopP_nxt (s' := (1, (acc ++ [⟨7, 0⟩]) ++ flat a)) (by simp [m37_1b, sel2, ltI, br, bnd, show (toS (.st a)).kids_ = [toS a] from rfl, idx0, h1, w01]), loopP_out (b := (acc ++ [⟨7, 0⟩]) ++ flat a) (by simp [m37_1b, sel2, ltI, br])]
    simp [flat]
  | cat a b iha ihb =>
    intro acc h
    simp only [flat, List.length_cons, List.length_append] at h
    obtain ⟨N, ha⟩ := iha (acc ++ [⟨5, 0⟩]) (by simp; omega)
    obtain ⟨M, hb⟩ := ihb ((acc ++ [⟨5, 0⟩]) ++ flat a) (by simp; omega)
    refine ev_succ (max N M) fun j hj => ?_
    show m37r (m37k j) _ _ = _
    have h1 := ha j (by omega)
    have h2 := hb j (by omega)
    simp only at h1 h2
    simp only [m37r]
    rw [ck_ok (by omega), show ((toS (.cat a b)).kids_.length : Int) = 2 from rfl, show (toS (.cat a b)).kind_ = 5 from rfl, show (toS (.cat a b)).n_ = 0 from rfl]
    rw [loopP_nxt (s' := (1, (acc ++ [⟨5, 0⟩]) ++ flat a)) (by simp only [m37_1b, sel2, ltI, br, bnd, show (toS (.cat a b)).kids_ = [toS a, toS b] from rfl, idx0, h1, w01]; rfl),
      loopP_nxt (s' := (2, ((acc ++ [⟨5, 0⟩]) ++ flat a) ++ flat b)) (by simp only [m37_1b, sel2, ltI, br, bnd, show (toS (.cat a b)).kids_ = [toS a, toS b] from rfl, idx1, h2, w11]; rfl), loopP_out (b := ((acc ++ [⟨5, 0⟩]) ++ flat a) ++ flat b) (by simp [m37_1b, sel2, ltI, br])]
    simp [flat]
  | alt a b iha ihb =>
    intro acc h
    simp only [flat, List.length_cons, List.length_append] at h
    obtain ⟨N, ha⟩ := iha (acc ++ [⟨6, 0⟩]) (by simp; omega)
    obtain ⟨M, hb⟩ := ihb ((acc ++ [⟨6, 0⟩]) ++ flat a) (by simp; omega)
    refine ev_succ (max N M) fun j hj => ?_
    show m37r (m37k j) _ _ = _
    have h1 := ha j (by omega)
    have h2 := hb j (by omega)
    simp only at h1 h2
    simp only [m37r]
    rw [ck_ok (by omega), show ((toS (.alt a b)).kids_.length : Int) = 2 from rfl, show (toS (.alt a b)).kind_ = 6 from rfl, show (toS (.alt a b)).n_ = 0 from rfl]
    rw [loopP_nxt (s' := (1, (acc ++ [⟨6, 0⟩]) ++ flat a)) (by simp only [m37_1b, sel2, ltI, br, bnd, show (toS (.alt a b)).kids_ = [toS a, toS b] from rfl, idx0, h1, w01]; rfl),
      loopP_nxt (s' := (2, ((acc ++ [⟨6, 0⟩]) ++ flat a) ++ flat b)) (by simp only [m37_1b, sel2, ltI, br, bnd, show (toS (.alt a b)).kids_ = [toS a, toS b] from rfl, idx1, h2, w11]; rfl), loopP_out (b := ((acc ++ [⟨6, 0⟩]) ++ flat a) ++ flat b) (by simp [m37_1b, sel2, ltI, br])]
    simp [flat]
theorem p37 (r : RX) (h : (flat r).length ≤ 4294967296) : m37 (toS r) [] = some (flat r) := by
  have := ev_lim (flatS r [] (by simpa using h))
  rw [List.nil_append] at this
  exact this
theorem cellsI (r : RX) : (flat r).length ≤ 4294967296 → Ev (fun k => m45k k (toI r)) (flat r) := by
  induction r with
  | no | ep | an | as n =>
    intro h
    refine ev_succ 0 fun j _ => ?_
    show m45r (m45k j) _ = _
    simp only [m45r]
    rw [show ((toI _).parts.length : Int) = 0 from rfl, cells0]
    rfl
  | st a iha =>
    intro h
    simp only [flat, List.length_cons] at h
    obtain ⟨N, ha⟩ := iha (by omega)
    refine ev_succ N fun j hj => ?_
    show m45r (m45k j) _ = _
    have h1 := ha j hj
    simp only at h1
    simp only [m45r]
    rw [show ((toI (.st a)).parts.length : Int) = 1 from rfl, show (toI (.st a)).cell = ⟨7, 0⟩ from rfl]
    rw [loopP_nxt (s' := (1, [⟨7, 0⟩] ++ flat a)) (by simp only [m45_1b, sel2, ltI, br, bnd, show (toI (.st a)).parts = [toI a] from rfl, idx0, h1, w01]; rw [ck_ok (by simp; omega)]; rfl), loopP_out (b := [⟨7, 0⟩] ++ flat a) (by simp [m45_1b, sel2, ltI, br])]
    simp [flat]
  | cat a b iha ihb =>
    intro h
    simp only [flat, List.length_cons, List.length_append] at h
    obtain ⟨N, ha⟩ := iha (by omega)
    obtain ⟨M, hb⟩ := ihb (by omega)
    refine ev_succ (max N M) fun j hj => ?_
    show m45r (m45k j) _ = _
    have h1 := ha j (by omega)
    have h2 := hb j (by omega)
    simp only at h1 h2
    simp only [m45r]
    rw [show ((toI (.cat a b)).parts.length : Int) = 2 from rfl, show (toI (.cat a b)).cell = ⟨5, 0⟩ from rfl]
    rw [loopP_nxt (s' := (1, [⟨5, 0⟩] ++ flat a)) (by simp only [m45_1b, sel2, ltI, br, bnd, show (toI (.cat a b)).parts = [toI a, toI b] from rfl, idx0, h1, w01]; rw [ck_ok (by simp; omega)]; rfl),
      loopP_nxt (s' := (2, ([⟨5, 0⟩] ++ flat a) ++ flat b)) (by simp only [m45_1b, sel2, ltI, br, bnd, show (toI (.cat a b)).parts = [toI a, toI b] from rfl, idx1, h2, w11]; rw [ck_ok (by simp; omega)]; rfl), loopP_out (b := ([⟨5, 0⟩] ++ flat a) ++ flat b) (by simp [m45_1b, sel2, ltI, br])]
    simp [flat]
  | alt a b iha ihb =>
    intro h
    simp only [flat, List.length_cons, List.length_append] at h
    obtain ⟨N, ha⟩ := iha (by omega)
    obtain ⟨M, hb⟩ := ihb (by omega)
    refine ev_succ (max N M) fun j hj => ?_
    show m45r (m45k j) _ = _
    have h1 := ha j (by omega)
    have h2 := hb j (by omega)
    simp only at h1 h2
    simp only [m45r]
    rw [show ((toI (.alt a b)).parts.length : Int) = 2 from rfl, show (toI (.alt a b)).cell = ⟨6, 0⟩ from rfl]
    rw [loopP_nxt (s' := (1, [⟨6, 0⟩] ++ flat a)) (by simp only [m45_1b, sel2, ltI, br, bnd, show (toI (.alt a b)).parts = [toI a, toI b] from rfl, idx0, h1, w01]; rw [ck_ok (by simp; omega)]; rfl),
      loopP_nxt (s' := (2, ([⟨6, 0⟩] ++ flat a) ++ flat b)) (by simp only [m45_1b, sel2, ltI, br, bnd, show (toI (.alt a b)).parts = [toI a, toI b] from rfl, idx1, h2, w11]; rw [ck_ok (by simp; omega)]; rfl), loopP_out (b := ([⟨6, 0⟩] ++ flat a) ++ flat b) (by simp [m45_1b, sel2, ltI, br])]
    simp [flat]
theorem p45 (r : RX) (h : (flat r).length ≤ 4294967296) : m45 (toI r) = some (flat r) := ev_lim (cellsI r h)
/-! ### Cells alike -/
theorem p70 (l1 l2 : List ReCell) (hl : l1.length ≤ 4294967296) : m70 l1 l2 = some (decide (l1 = l2)) := by
  unfold m70
  by_cases c : l1.length = l2.length
  · rw [(eqI_iff _ _).2 (by omega), br_true]
    rw [loop_all (body := m70_1b l1 l2 (l1.length : Int)) l1.length (fun k => decide (l1[k]? = l2[k]?)) (.inl ()) (.inr ()) (fun k hk => ?_) (by simp [m70_1b, ltI, br])]
    · by_cases e : l1 = l2
      · have : allN l1.length (fun k => decide (l1[k]? = l2[k]?)) = true := allN_iff.2 fun k _ => by rw [e]; simp
        rw [this, decide_eq_true e]; rfl
      · have : ¬ allN l1.length (fun k => decide (l1[k]? = l2[k]?)) = true := fun h => e (List.ext_getElem? fun k => by
          by_cases hk : k < l1.length
          · exact of_decide_eq_true (allN_iff.1 h k hk)
          · rw [List.getElem?_eq_none (by omega), List.getElem?_eq_none (by omega)])
        rw [if_neg this, decide_eq_false e]; rfl
    · have hk2 : k < l2.length := by omega
      rw [m70_1b, (ltI_iff _ _).2 (by omega), br_true, idx_get hk, idx_get hk2, bnd_ok, bnd_ok, List.getElem?_eq_getElem hk, List.getElem?_eq_getElem hk2, wsucc hk (by omega)]
      by_cases e : l1[k] = l2[k]
      · rw [if_pos (by simp [e]), e, eqI_self, eqI_self]; rfl
      · rw [if_neg (by simp [e])]
        have : (eqI l1[k].kind l2[k].kind && eqI l1[k].n l2[k].n) = false := by
          cases h1 : l1[k]; cases h2 : l2[k]
          rw [h1, h2] at e
          simp only [ReCell.mk.injEq] at e
          simp only [eqI, Bool.and_eq_false_iff, decide_eq_false_iff_not]
          exact Classical.not_and_iff_not_or_not.1 e
        rw [this]; rfl
  · rw [(eqI_not _ _).2 (by omega), br_false, decide_eq_false (fun e => c (by rw [e]))]
theorem flat_pre : ∀ (a b : RX) (s t : List ReCell), flat a ++ s = flat b ++ t → a = b ∧ s = t := by
  intro a
  induction a with
  | no | ep | an => intro b s t h; cases b <;> simp [flat] at h ⊢ <;> exact h
  | as n => intro b s t h; cases b <;> simp [flat] at h ⊢ <;> exact h
  | st a iha =>
    intro b s t h
    cases b with
    | st b =>
      simp only [flat, List.cons_append, List.cons.injEq, true_and] at h
      obtain ⟨rfl, h2⟩ := iha _ _ _ h
      exact ⟨rfl, h2⟩
    | _ => simp [flat] at h
  | cat a a2 iha iha2 =>
    intro b s t h
    cases b with
    | cat b b2 =>
      simp only [flat, List.cons_append, List.cons.injEq, true_and, List.append_assoc] at h
      obtain ⟨rfl, h2⟩ := iha _ _ _ h
      obtain ⟨rfl, h3⟩ := iha2 _ _ _ h2
      exact ⟨rfl, h3⟩
    | _ => simp [flat] at h
  | alt a a2 iha iha2 =>
    intro b s t h
    cases b with
    | alt b b2 =>
      simp only [flat, List.cons_append, List.cons.injEq, true_and, List.append_assoc] at h
      obtain ⟨rfl, h2⟩ := iha _ _ _ h
      obtain ⟨rfl, h3⟩ := iha2 _ _ _ h2
      exact ⟨rfl, h3⟩
    | _ => simp [flat] at h
theorem flat_inj (a b : RX) : flat a = flat b ↔ a = b := ⟨fun h => (flat_pre a b [] [] (by rw [h])).1, fun h => by rw [h]⟩
theorem mkCat_len (a b : RX) : (flat (mkCat a b)).length ≤ 1 + (flat a).length + (flat b).length := by
  have := flat_pos a; have := flat_pos b
  unfold mkCat; repeat' split
  all_goals simp [flat]; try omega
theorem mkAlt_len (a b : RX) : (flat (mkAlt a b)).length ≤ 1 + (flat a).length + (flat b).length := by
  have := flat_pos a; have := flat_pos b
  unfold mkAlt; repeat' split
  all_goals simp [flat]; try omega
theorem mkSt_len (a : RX) : (flat (mkSt a)).length ≤ 1 + (flat a).length := by
  cases a <;> simp [mkSt, flat] <;> omega
theorem td_len (r : RX) : (flat (td r)).length ≤ (flat r).length := by
  induction r with
  | no | ep | an | as n => exact Nat.le_refl _
  | st a iha => have := mkSt_len (td a); simp only [td, flat, List.length_cons]; omega
  | cat a b iha ihb => have := mkCat_len (td a) (td b); simp only [td, flat, List.length_cons, List.length_append]; omega
  | alt a b iha ihb => have := mkAlt_len (td a) (td b); simp only [td, flat, List.length_cons, List.length_append]; omega
theorem der_len (x : Int) (r : RX) : (flat (der x r)).length ≤ 2 * ((flat r).length * (flat r).length) := by
  induction r with
  | no | ep | an => simp [der, flat]
  | as n => simp only [der]; split <;> simp [flat]
  | st a iha =>
    simp only [der, flat, List.length_cons, List.length_append]
    generalize (flat (der x a)).length = d at *
    generalize (flat a).length = n at *
    have : 2 * ((n + 1) * (n + 1)) = 2 * (n * n) + 4 * n + 2 := by rw [Nat.add_mul, Nat.mul_add, Nat.mul_add]; omega
    omega
  | cat a b iha ihb =>
    have key : 1 + (1 + (flat (der x a)).length + (flat b).length) + (flat (der x b)).length ≤ 2 * ((flat (RX.cat a b)).length * (flat (RX.cat a b)).length) := by
      simp only [flat, List.length_cons, List.length_append]
      generalize (flat (der x a)).length = d at *
      generalize (flat (der x b)).length = e at *
      generalize (flat a).length = n at *
      generalize (flat b).length = m at *
      have : 2 * ((n + m + 1) * (n + m + 1)) = 2 * (n * n) + 2 * (m * m) + 4 * (n * m) + 4 * n + 4 * m + 2 := by simp only [Nat.add_mul, Nat.mul_add, Nat.mul_comm m n]; omega
      omega
    simp only [der]
    split <;> simp only [flat, List.length_cons, List.length_append] at key ⊢ <;> omega
  | alt a b iha ihb =>
    simp only [der, flat, List.length_cons, List.length_append]
    generalize (flat (der x a)).length = d at *
    generalize (flat (der x b)).length = e at *
    generalize (flat a).length = n at *
    generalize (flat b).length = m at *
    have : 2 * ((n + m + 1) * (n + m + 1)) = 2 * (n * n) + 2 * (m * m) + 4 * (n * m) + 4 * n + 4 * m + 2 := by simp only [Nat.add_mul, Nat.mul_add, Nat.mul_comm m n]; omega
    omega
/-! ### The program's own tidying -/
theorem mI5 (rc : pattern → Option pattern) (a0 : pattern) (a b : RX) : (bnd (m44_2 rc a0 true (.mk ⟨5, 0⟩ [toI a, toI b])) fun o => selS o (fun _ => some (pattern.mk ⟨5, 0⟩ [toI a, toI b])) (fun v => some v)) = some (toI (mkCat a b)) := by
  simp only [m44_2, m44_3, m69, pattern.parts, idx0, idx1, bnd_ok, knI, eqI, br, kn1, kn2, mkCat, m68]
  by_cases c1 : a = .no
  · simp [c1, bnd, selS, toI]
  by_cases c2 : b = .no
  · simp [c1, c2, bnd, selS, toI]
  by_cases c3 : a = .ep
  · simp [c2, c3, bnd, selS]
  by_cases c4 : b = .ep
  · simp [c1, c3, c4, bnd, selS]
  · simp [c1, c2, c3, c4, bnd, selS, toI]
theorem mI6 (rc : pattern → Option pattern) (a0 : pattern) (h0 : a0.cell.kind = 6) (a b : RX) (ha : (flat a).length ≤ 4294967296) (hb : (flat b).length ≤ 4294967296) :
    (bnd (m44_2 rc a0 false (.mk ⟨6, 0⟩ [toI a, toI b])) fun o => selS o (fun _ => some (pattern.mk ⟨6, 0⟩ [toI a, toI b])) (fun v => some v)) = some (toI (mkAlt a b)) := by
  simp only [m44_2, m44_4, m44_5, m69, pattern.parts, idx0, idx1, bnd_ok, knI, eqI, br, kn1, kn2, mkAlt, m68, h0, p45 a ha, p45 b hb, p70 _ _ ha, flat_inj]
  by_cases c1 : a = .no
  · simp [c1, bnd, selS]
  by_cases c2 : b = .no
  · simp [c1, c2, bnd, selS]
  by_cases c3 : a = b
  · simp [c2, c3, bnd, selS]
  · simp [c1, c2, c3, bnd, selS, toI]
theorem mI7 (rc : pattern → Option pattern) (a0 : pattern) (h0 : a0.cell.kind = 7) (a : RX) :
    (bnd (m44_2 rc a0 false (.mk ⟨7, 0⟩ [toI a])) fun o => selS o (fun _ => some (pattern.mk ⟨7, 0⟩ [toI a])) (fun v => some v)) = some (toI (mkSt a)) := by
  simp only [m44_2, m44_4, m44_6, m44_7, m69, pattern.parts, idx0, bnd_ok, knI, eqI, br, h0, m68]
  cases a <;> simp [kn, bnd, selS, mkSt, toI]
theorem mI0 (rc : pattern → Option pattern) (a0 p : pattern) (h5 : a0.cell.kind ≠ 6) (h6 : a0.cell.kind ≠ 7) :
    (bnd (m44_2 rc a0 false p) fun o => selS o (fun _ => some p) (fun v => some v)) = some p := by
  simp [m44_2, m44_4, m44_6, eqI, br, h5, h6, bnd, selS]
theorem kidsI0 (rc : pattern → Option pattern) (x : pattern) : loopP (m44_1b rc x 0) (0, []) = some [] := loopP_out (by simp [m44_1b, sel2, ltI, br])
theorem kidsI1 {rc : pattern → Option pattern} {x u v : pattern} (hx : x.parts = [u]) (h : rc u = some v) : loopP (m44_1b rc x 1) (0, []) = some [v] := by
  rw [loopP_nxt (s' := (1, [v])) (by simp [m44_1b, sel2, ltI, br, bnd, hx, idx0, h, w01, ck])]
  exact loopP_out (by simp [m44_1b, sel2, ltI, br])
theorem kidsI2 {rc : pattern → Option pattern} {x u v u2 v2 : pattern} (hx : x.parts = [u, u2]) (h : rc u = some v) (h2 : rc u2 = some v2) : loopP (m44_1b rc x 2) (0, []) = some [v, v2] := by
  rw [loopP_nxt (s' := (1, [v])) (by simp [m44_1b, sel2, ltI, br, bnd, hx, idx0, h, w01, ck]), loopP_nxt (s' := (2, [v, v2])) (by simp [m44_1b, sel2, ltI, br, bnd, hx, idx1, h2, w11, ck])]
  exact loopP_out (by simp [m44_1b, sel2, ltI, br])
theorem tidyI (r : RX) : (flat r).length ≤ 4294967296 → Ev (fun k => m44k k (toI r)) (toI (td r)) := by
  induction r with
  | no | ep | an | as n =>
    intro _
    refine ev_succ 0 fun j _ => ?_
    show m44r (m44k j) _ = _
    simp only [m44r]
    rw [show ((toI _).parts.length : Int) = 0 from rfl, kidsI0, bnd_ok]
    exact mI0 _ _ _ (by simp [toI, pattern.cell]) (by simp [toI, pattern.cell])
  | st a iha =>
    intro h
    simp only [flat, List.length_cons] at h
    obtain ⟨N, ha⟩ := iha (by omega)
    refine ev_succ N fun j hj => ?_
    show m44r (m44k j) _ = _
    simp only [m44r]
    rw [show ((toI (.st a)).parts.length : Int) = 1 from rfl, kidsI1 (x := toI (.st a)) rfl (ha j hj), bnd_ok]
    exact mI7 _ _ rfl _
  | cat a b iha ihb =>
    intro h
    simp only [flat, List.length_cons, List.length_append] at h
    obtain ⟨N, ha⟩ := iha (by omega); obtain ⟨M, hb⟩ := ihb (by omega)
    refine ev_succ (max N M) fun j hj => ?_
    show m44r (m44k j) _ = _
    simp only [m44r]
    rw [show ((toI (.cat a b)).parts.length : Int) = 2 from rfl, kidsI2 (x := toI (.cat a b)) rfl (ha j (by omega)) (hb j (by omega)), bnd_ok]
    exact mI5 _ _ _ _
  | alt a b iha ihb =>
    intro h
    simp only [flat, List.length_cons, List.length_append] at h
    obtain ⟨N, ha⟩ := iha (by omega); obtain ⟨M, hb⟩ := ihb (by omega)
    have := td_len a; have := td_len b
    refine ev_succ (max N M) fun j hj => ?_
    show m44r (m44k j) _ = _
    simp only [m44r]
    rw [show ((toI (.alt a b)).parts.length : Int) = 2 from rfl, kidsI2 (x := toI (.alt a b)) rfl (ha j (by omega)) (hb j (by omega)), bnd_ok]
    exact mI6 _ _ rfl _ _ (by omega) (by omega)
theorem p44 (r : RX) (h : (flat r).length ≤ 4294967296) : m44 (toI r) = some (toI (td r)) := ev_lim (tidyI r h)
/-! ### Read -/
def okX : RX → Prop
  | .as n => 1 ≤ n ∧ n ≤ 65535 | .cat a b => okX a ∧ okX b | .alt a b => okX a ∧ okX b | .st a => okX a | _ => True
theorem rx_of : ∀ (l : List ReCell) (n : Nat) (rest : List ReCell), scan okC n l = some rest → ∃ rs : List RX, rs.length = n ∧ (∀ r ∈ rs, okX r) ∧ l = rs.flatMap flat ++ rest := by
  intro l
  induction l with
  | nil =>
    intro n rest h
    cases n with
    | zero => cases h; exact ⟨[], rfl, by simp, rfl⟩
    | succ n => cases h
  | cons c t ih =>
    intro n rest h
    cases n with
    | zero => rw [scan_zero] at h; cases h; exact ⟨[], rfl, by simp, rfl⟩
    | succ n =>
      simp only [scan] at h
      split at h
      · rename_i hok
        obtain ⟨rs, h1, h2, h3⟩ := ih _ _ h
        obtain ⟨k, m⟩ := c
        simp only [okC, okN, Bool.and_eq_true, decide_eq_true_eq] at hok
        obtain ⟨hk, hm1, hm2⟩ := hok
        have hkk : (k = 1 ∨ k = 2 ∨ k = 4 ∨ k = 3) ∨ k = 5 ∨ k = 6 ∨ k = 7 := by unfold ar at hk; (repeat' split at hk) <;> omega
        rcases hkk with (hk1 | hk1 | hk1 | hk1) | hk1 | hk1 | hk1
        · subst hk1; have := hm2 (by omega); subst this
          exact ⟨.no :: rs, by simp [h1, ar], List.forall_mem_cons.2 ⟨trivial, h2⟩, by rw [h3]; rfl⟩
        · subst hk1; have := hm2 (by omega); subst this
          exact ⟨.ep :: rs, by simp [h1, ar], List.forall_mem_cons.2 ⟨trivial, h2⟩, by rw [h3]; rfl⟩
        · subst hk1; have := hm2 (by omega); subst this
          exact ⟨.an :: rs, by simp [h1, ar], List.forall_mem_cons.2 ⟨trivial, h2⟩, by rw [h3]; rfl⟩
        · subst hk1
          exact ⟨.as m :: rs, by simp [h1, ar], List.forall_mem_cons.2 ⟨hm1 rfl, h2⟩, by rw [h3]; rfl⟩
        · subst hk1; have := hm2 (by omega); subst this
          have h1' : rs.length = n + 2 := by simpa [ar] using h1
          match rs, h1', h2, h3 with
          | a :: b :: rs, h1', h2, h3 => exact ⟨.cat a b :: rs, by simpa using h1', List.forall_mem_cons.2 ⟨⟨h2 a (by simp), h2 b (by simp)⟩, fun r hr => h2 r (by simp [hr])⟩, by rw [h3]; simp [flat]⟩
        · subst hk1; have := hm2 (by omega); subst this
          have h1' : rs.length = n + 2 := by simpa [ar] using h1
          match rs, h1', h2, h3 with
          | a :: b :: rs, h1', h2, h3 => exact ⟨.alt a b :: rs, by simpa using h1', List.forall_mem_cons.2 ⟨⟨h2 a (by simp), h2 b (by simp)⟩, fun r hr => h2 r (by simp [hr])⟩, by rw [h3]; simp [flat]⟩
        · subst hk1; have := hm2 (by omega); subst this
          have h1' : rs.length = n + 1 := by simpa [ar] using h1
          match rs, h1', h2, h3 with
          | a :: rs, h1', h2, h3 => exact ⟨.st a :: rs, by simpa using h1', List.forall_mem_cons.2 ⟨h2 a (by simp), fun r hr => h2 r (by simp [hr])⟩, by rw [h3]; simp [flat]⟩
      · cases h
theorem rx_good {l : List ReCell} (h : okRe l = true) : l.length ≤ 30 ∧ ∃ r, okX r ∧ l = flat r := by
  simp only [okRe, Bool.and_eq_true, decide_eq_true_eq] at h
  obtain ⟨rs, h1, h2, h3⟩ := rx_of l 1 [] h.2
  refine ⟨h.1, ?_⟩
  match rs, h1, h2, h3 with
  | [r], _, h2, h3 => exact ⟨r, h2 r (by simp), by rw [h3]; simp⟩
theorem trI0 (rc : List ReCell → Option (pattern × List ReCell)) (l : List ReCell) : loopP (m42_1b rc 0) (l, 0, []) = some (l, []) := loopP_out (by simp [m42_1b, sel3, ltI, br])
theorem trI1 {rc : List ReCell → Option (pattern × List ReCell)} {l l2 : List ReCell} {u : pattern} (h : rc l = some (u, l2)) : loopP (m42_1b rc 1) (l, 0, []) = some (l2, [u]) := by
  rw [loopP_nxt (s' := (l2, 1, [u])) (by simp [m42_1b, sel3, sel2, ltI, br, bnd, h, w01, ck])]
  exact loopP_out (by simp [m42_1b, sel3, ltI, br])
theorem trI2 {rc : List ReCell → Option (pattern × List ReCell)} {l l2 l3 : List ReCell} {u v : pattern} (h : rc l = some (u, l2)) (h2 : rc l2 = some (v, l3)) : loopP (m42_1b rc 2) (l, 0, []) = some (l3, [u, v]) := by
  rw [loopP_nxt (s' := (l2, 1, [u])) (by simp [m42_1b, sel3, sel2, ltI, br, bnd, h, w01, ck]), loopP_nxt (s' := (l3, 2, [u, v])) (by simp [m42_1b, sel3, sel2, ltI, br, bnd, h2, w11, ck])]
  exact loopP_out (by simp [m42_1b, sel3, ltI, br])
theorem treeI (r : RX) : ∀ rest : List ReCell, Ev (fun k => m42k k (flat r ++ rest)) (toI r, rest) := by
  have hck : ∀ (x : ReCell) (t : List ReCell) {α : Type} (y : Option α), ck (0 ≤ 1 ∧ 1 ≤ ((x :: t).length : Int)) y = y := fun x t _ y => ck_ok ⟨by omega, by simp; omega⟩ y
  induction r with
  | no | ep | an | as n =>
    intro rest
    refine ev_succ 0 fun j _ => ?_
    show m42r (m42k j) (_ :: rest) = _
    simp only [m42r, idx0, bnd_ok, hck, p67]
    rw [show ar _ = 0 from rfl, List.drop_one, List.tail_cons, trI0]
    rfl
  | st a iha =>
    intro rest
    obtain ⟨N, ha⟩ := iha rest
    refine ev_succ N fun j hj => ?_
    show m42r (m42k j) (_ :: (flat a ++ rest)) = _
    simp only [m42r, idx0, bnd_ok, hck, p67]
    rw [show ar 7 = 1 from rfl, List.drop_one, List.tail_cons, trI1 (ha j hj)]
    rfl
  | cat a b iha ihb =>
    intro rest
    obtain ⟨N, ha⟩ := iha (flat b ++ rest); obtain ⟨M, hb⟩ := ihb rest
    refine ev_succ (max N M) fun j hj => ?_
    show m42r (m42k j) (_ :: ((flat a ++ flat b) ++ rest)) = _
    rw [List.append_assoc]
    simp only [m42r, idx0, bnd_ok, hck, p67]
    rw [show ar 5 = 2 from rfl, List.drop_one, List.tail_cons, trI2 (ha j (by omega)) (hb j (by omega))]
    rfl
  | alt a b iha ihb =>
    intro rest
    obtain ⟨N, ha⟩ := iha (flat b ++ rest); obtain ⟨M, hb⟩ := ihb rest
    refine ev_succ (max N M) fun j hj => ?_
    show m42r (m42k j) (_ :: ((flat a ++ flat b) ++ rest)) = _
    rw [List.append_assoc]
    simp only [m42r, idx0, bnd_ok, hck, p67]
    rw [show ar 6 = 2 from rfl, List.drop_one, List.tail_cons, trI2 (ha j (by omega)) (hb j (by omega))]
    rfl
theorem p42 (r : RX) : m42 (flat r) = some (toI r, []) := by
  have := ev_lim (treeI r [])
  simp only [List.append_nil] at this
  exact this
theorem kdS0 (rc : List ReCell → Int → Option (l6T × Int)) (l : List ReCell) (p : Int) : loopP (m62_2b rc l) (p, 0, []) = some (.inl (p, [])) := loopP_out (by simp [m62_2b, sel3, ltI, br])
theorem kdS1 {rc : List ReCell → Int → Option (l6T × Int)} {l : List ReCell} {p q : Int} {u : l6T} (h : rc l p = some (u, q)) (hq : q ≠ 0) : loopP (m62_2b rc l) (p, 1, []) = some (.inl (q, [u])) := by
  rw [loopP_nxt (s' := (q, 0, [u])) (by simp [m62_2b, sel3, sel2, ltI, eqI, br, bnd, h, hq, ck, show wsub .i64 1 1 = 0 by decide])]
  exact loopP_out (by simp [m62_2b, sel3, ltI, br])
theorem kdS2 {rc : List ReCell → Int → Option (l6T × Int)} {l : List ReCell} {p q z : Int} {u v : l6T} (h : rc l p = some (u, q)) (hq : q ≠ 0) (h2 : rc l q = some (v, z)) (hz : z ≠ 0) : loopP (m62_2b rc l) (p, 2, []) = some (.inl (z, [u, v])) := by
  rw [loopP_nxt (s' := (q, 1, [u])) (by simp [m62_2b, sel3, sel2, ltI, eqI, br, bnd, h, hq, ck, show wsub .i64 2 1 = 1 by decide]), loopP_nxt (s' := (z, 0, [u, v])) (by simp [m62_2b, sel3, sel2, ltI, eqI, br, bnd, h2, hz, ck, show wsub .i64 1 1 = 0 by decide])]
  exact loopP_out (by simp [m62_2b, sel3, ltI, br])
theorem treeS (l : List ReCell) (hl : l.length ≤ 1048576) (r : RX) : okX r → ∀ (pre rest : List ReCell), l = pre ++ (flat r ++ rest) → Ev (fun k => m62k k l (pre.length : Int)) (toS r, ((pre.length + (flat r).length : Nat) : Int)) := by
  have head : ∀ (j : Nat) (pre t : List ReCell) (c : ReCell), l = pre ++ c :: t → okC c = true → ∀ n : Int, ar c.kind = n → m62k (j + 1) l (pre.length : Int) = bnd (loopP (m62_2b (m62k j) l) (((pre.length + 1 : Nat) : Int), n, [])) fun o => selS o (fun p => sel2 p fun v39 v40 => some ((⟨c.kind, c.n, v40⟩ : l6T), v39)) (fun _ => some ((⟨0, 0, []⟩ : l6T), 0)) := by
    intro j pre t c e hc n hn
    have hlt : pre.length < l.length := by rw [e]; simp
    have hget : l[pre.length] = c := by simp [e]
    show m62r (m62k j) l _ = _
    have ew : wadd .i64 (pre.length : Int) 1 = ((pre.length + 1 : Nat) : Int) := by rw [wadd64 (by omega) (by omega)]; omega
    simp only [m62r, (leI_not (l.length : Int) (pre.length : Int)).2 (by omega), br_false, idx_get hlt, bnd_ok, p78, p62_1, hget, hc, Bool.not_true, ew, hn]
  induction r with
  | no | ep | an =>
    intro _ pre rest e
    refine ev_succ 0 fun j _ => ?_
    rw [head j pre rest _ e (by decide) 0 rfl, kdS0]
    rfl
  | as n =>
    intro ok pre rest e
    refine ev_succ 0 fun j _ => ?_
    rw [head j pre rest ⟨3, n⟩ e (by simp only [okX] at ok; simp [okC, okN, ar, ok]) 0 rfl, kdS0]
    rfl
  | st a iha =>
    intro ok pre rest e
    obtain ⟨N, ha⟩ := iha ok (pre ++ [⟨7, 0⟩]) rest (by rw [e]; simp [flat])
    refine ev_succ N fun j hj => ?_
    have h1 := ha j hj
    simp only [List.length_append, List.length_cons, List.length_nil, Nat.zero_add] at h1
    rw [head j pre (flat a ++ rest) ⟨7, 0⟩ (by rw [e]; simp [flat]) (by decide) 1 rfl, kdS1 h1 (by omega)]
    simp only [bnd_ok, selS_inl, sel2_ok, toS, flat, List.length_cons, Option.some.injEq, Prod.mk.injEq, true_and]
    omega
  | cat a b iha ihb =>
    intro ok pre rest e
    obtain ⟨N, ha⟩ := iha ok.1 (pre ++ [⟨5, 0⟩]) (flat b ++ rest) (by rw [e]; simp [flat])
    obtain ⟨M, hb⟩ := ihb ok.2 (pre ++ ⟨5, 0⟩ :: flat a) rest (by rw [e]; simp [flat])
    refine ev_succ (max N M) fun j hj => ?_
    have h1 := ha j (by omega)
    have h2 := hb j (by omega)
    simp only [List.length_append, List.length_cons, List.length_nil, Nat.zero_add] at h1 h2
    rw [show pre.length + ((flat a).length + 1) = pre.length + 1 + (flat a).length by omega] at h2
    rw [head j pre (flat a ++ flat b ++ rest) ⟨5, 0⟩ (by rw [e]; simp [flat]) (by decide) 2 rfl, kdS2 h1 (by omega) h2 (by omega)]
    simp only [bnd_ok, selS_inl, sel2_ok, toS, flat, List.length_cons, List.length_append, Option.some.injEq, Prod.mk.injEq, true_and]
    omega
  | alt a b iha ihb =>
    intro ok pre rest e
    obtain ⟨N, ha⟩ := iha ok.1 (pre ++ [⟨6, 0⟩]) (flat b ++ rest) (by rw [e]; simp [flat])
    obtain ⟨M, hb⟩ := ihb ok.2 (pre ++ ⟨6, 0⟩ :: flat a) rest (by rw [e]; simp [flat])
    refine ev_succ (max N M) fun j hj => ?_
    have h1 := ha j (by omega)
    have h2 := hb j (by omega)
    simp only [List.length_append, List.length_cons, List.length_nil, Nat.zero_add] at h1 h2
    rw [show pre.length + ((flat a).length + 1) = pre.length + 1 + (flat a).length by omega] at h2
    rw [head j pre (flat a ++ flat b ++ rest) ⟨6, 0⟩ (by rw [e]; simp [flat]) (by decide) 2 rfl, kdS2 h1 (by omega) h2 (by omega)]
    simp only [bnd_ok, selS_inl, sel2_ok, toS, flat, List.length_cons, List.length_append, Option.some.injEq, Prod.mk.injEq, true_and]
    omega
theorem p62r (r : RX) (ok : okX r) (hl : (flat r).length ≤ 1048576) : m62 (flat r) 0 = some (toS r, ((flat r).length : Int)) := by
  have := ev_lim (treeS (flat r) hl r ok [] [] (by simp))
  simp only [List.length_nil, Nat.zero_add] at this
  exact this
theorem kCell (l : List ReCell) (k : Int) (hl : l.length ≤ 1048576) (h0 : 0 ≤ k) (h1 : k ≤ 2305843009213693952) : ∃ k' ys, m15 l k = some (k', ys) ∧ ys.length = l.length ∧ k ≤ k' ∧ k' ≤ k + 2097152 ∧ m16 ys k = some k' := by
  obtain ⟨k', ys, e1, e2, e3, e4, e5⟩ := mark_rel (good := fun _ => True) (W := 2) (B := 4611686018427387904) (by omega) (fun x k k' y => k' = k + 2 ∧ y = (⟨k, k + 1⟩ : ReCell))
    (fun x k _ h0 h1 => ⟨_, _, ⟨rfl, rfl⟩, by omega, by omega⟩) (body := m15_1b) (fun i l k k' y h hl hr h0 h1 => by
      obtain ⟨rfl, rfl⟩ := hr
      have w1 : wadd .i64 k 1 = k + 1 := wadd64 (by omega) (by omega)
      have w2 : wadd .i64 (k + 1) 1 = k + 2 := by rw [wadd64 (by omega) (by omega)]; omega
      simp only [m15_1b, sel3_ok, (ltI_iff (i : Int) (l.length : Int)).2 (by omega), br_true, idx_get h, bnd_ok, w1, w2, wsucc h (by omega), Int.toNat_natCast, List.set_set]) (fun l k => by simp only [m15_1b, sel3_ok, (ltI_not (l.length : Int) (l.length : Int)).2 (by omega), br_false])
    (hbody := m16_1b) (fun l i k k' x h hl hr h0 h1 => by
      obtain ⟨rfl, hy⟩ := hr
      have w1 : wadd .i64 k 1 = k + 1 := wadd64 (by omega) (by omega)
      have w2 : wadd .i64 (k + 1) 1 = k + 2 := by rw [wadd64 (by omega) (by omega)]; omega
      simp only [m16_1b, sel2_ok, (ltI_iff (i : Int) (l.length : Int)).2 (by omega), br_true, idx_get h, bnd_ok, hy, w1, w2, eqI_self, wsucc h (by omega)]) (fun l k => by simp only [m16_1b, sel2_ok, (ltI_not (l.length : Int) (l.length : Int)).2 (by omega), br_false])
    l k hl (fun _ _ => trivial) h0 (by omega)
  exact ⟨k', ys, by unfold m15; rw [e1, bnd_ok, sel2_ok], e2, e3, by omega, by unfold m16; rw [e5, bnd_ok, selS_inl]⟩
theorem p41 (a : Int) : m41 a = some (decide (1 ≤ a ∧ a ≤ 65535)) := by simp only [m41, p51, bnd_ok]
theorem p28 (l : List ReCell) (hl : l.length ≤ 1048576) : ∃ t, m28 l = some (t, okRe l) := by
  have h := p40 l hl
  unfold m40 at h
  cases e : m28 l with
  | none => rw [e] at h; cases h
  | some p =>
    obtain ⟨t, b⟩ := p
    rw [e, bnd_ok, sel2_ok] at h
    exact ⟨t, by cases h; rfl⟩
theorem p28g (r : RX) (ok : okX r) (hl : (flat r).length ≤ 30) : m28 (flat r) = some (toS r, true) := by
  have := flat_pos r
  unfold m28
  rw [(ltI_not _ _).2 (by omega), br_false, p62r r ok (by omega), bnd_ok, sel2_ok, m28_1, (ltI_iff _ _).2 (by omega), br_true, eqI_self]
  rfl
theorem core (l : List ReCell) (hl : l.length ≤ 1048576) (x : Int) : ∃ L B, m13 l x = some (L, B) ∧ m14 l x = some (L, B) ∧ L.length ≤ 30 := by
  have bad : ∀ t : l6T, m28 l = some (t, okRe l) → (okRe l && decide (1 ≤ x ∧ x ≤ 65535)) = false → m13 l x = some ([], false) ∧ m14 l x = some ([], false) := by
    intro t e c
    have c1 : m13_1 x (okRe l) = some true := by
      unfold m13_1
      cases h : okRe l
      · rfl
      · rw [h, Bool.true_and] at c
        rw [br_true, p36, bnd_ok, c]; rfl
    have c2 : m14_1 l x = some true := by
      unfold m14_1
      rw [p21 l hl, bnd_ok]
      cases h : okRe l
      · rfl
      · rw [h, Bool.true_and] at c
        rw [br_true, p41, bnd_ok, c]; rfl
    constructor
    · unfold m13; rw [e, bnd_ok, sel2_ok, c1, bnd_ok, br_true]
    · unfold m14; rw [c2, bnd_ok, br_true]
  cases c : okRe l && decide (1 ≤ x ∧ x ≤ 65535) with
  | false =>
    obtain ⟨t, e⟩ := p28 l hl
    obtain ⟨h1, h2⟩ := bad t e c
    exact ⟨[], false, h1, h2, by simp⟩
  | true =>
    rw [Bool.and_eq_true] at c
    obtain ⟨cg, cx⟩ := c
    obtain ⟨h30, r, ok, rfl⟩ := rx_good cg
    have hD := der_len x r
    have hD2 : (flat r).length * (flat r).length ≤ 30 * 30 := Nat.mul_le_mul h30 h30
    have hT := td_len (der x r)
    generalize hR : td (der x r) = R at hT
    have c1 : m13_1 x true = some false := by unfold m13_1; rw [br_true, p36, bnd_ok, cx]; rfl
    have c2 : m14_1 (flat r) x = some false := by unfold m14_1; rw [p21 _ hl, bnd_ok, cg, br_true, p41, bnd_ok, cx]; rfl
    have s : m13 (flat r) x = br (okRe (flat R)) (some (flat R, true)) (some ([], false)) := by
      unfold m13
      rw [p28g r ok h30, bnd_ok, sel2_ok, c1, bnd_ok, br_false, p39, bnd_ok, p38, bnd_ok, hR, p37 R (by omega), bnd_ok, p40 _ (by omega), bnd_ok]
    have i : m14 (flat r) x = br (okRe (flat R)) (some (flat R, true)) (some ([], false)) := by
      unfold m14
      rw [c2, bnd_ok, br_false, p42, bnd_ok, sel2_ok, p43, bnd_ok, p44 _ (by omega), bnd_ok, hR, p45 R (by omega), bnd_ok, p21 _ (by omega), bnd_ok]
    cases hg : okRe (flat R) with
    | true =>
      rw [hg] at s i
      exact ⟨_, _, s, i, (rx_good hg).1⟩
    | false =>
      rw [hg] at s i
      exact ⟨_, _, s, i, by simp⟩
theorem law (a0 : List ReCell) (a1 : Int) (w0 : wfLReCell a0) (w1 : wfInt a1) : m4 a0 a1 = some true := by
  unfold m4
  obtain ⟨v, hv, v1, v2, hs⟩ := z6 a0 1048576 w0 (by omega) (by omega)
  rw [hv, bnd_ok]
  by_cases c0 : v < 0
  · rw [(ltI_iff _ _).2 c0, br_true]
  rw [(ltI_not _ _).2 (by omega), br_false]
  have sa : a0.length ≤ 1048576 := hs (by omega)
  rw [t8 a0 sa, bnd_ok]
  obtain ⟨L, B, e1, e2, hL⟩ := core a0 sa a1
  have qL : m11 L L = some true := q11 L (show L.length ≤ 1048576 by omega)
  have qa : m11 a0 a0 = some true := q11 a0 sa
  obtain ⟨k1, ya, f1, f2, f3, f4, _⟩ := kCell a0 1 sa (by omega) (by omega)
  obtain ⟨k2, yb, g1, g2, g3, g4, g5⟩ := kCell L 1 (by omega) (by omega) (by omega)
  have d1 : m4_1 B B L L = some false := by simp only [m4_1, qL, bnd_ok, br_true, eqB_self, Bool.not_true]
  have d2 : m4_2 B B k1 L L = some false := by simp only [m4_2, (ltI_not k1 0).2 (by omega), br_false, qL, bnd_ok, br_true, eqB_self, Bool.not_true]
  have d3 : m4_3 B B L L = some false := by simp only [m4_3, qL, bnd_ok, br_true, eqB_self, Bool.not_true]
  rw [e1, bnd_ok, sel2_ok, e2, bnd_ok, sel2_ok, d1, bnd_ok, br_false, qa, bnd_ok, br_true, f1, bnd_ok, sel2_ok, ck_ok f2, d2, bnd_ok, br_false, g1, bnd_ok, sel2_ok, ck_ok g2, g5, bnd_ok, (ltI_not k2 0).2 (by omega), br_false, eqI_self, br_true, d3, bnd_ok, br_false]
end Go.Pi.Ytnogicfhdgpdjaa.DeriveBy
