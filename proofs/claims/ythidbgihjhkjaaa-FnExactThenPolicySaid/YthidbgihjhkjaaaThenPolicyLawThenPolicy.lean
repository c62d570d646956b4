/- What functions of the program answer, and that the law answers true at every input; no condition -/
import Derived.Test.YthidbgihjhkjaaaThenPolicyStdThenPolicy
set_option linter.all false
/- ThenPolicy: the program answers as the reference does. -/
namespace Go.Pi.Ythidbgihjhkjaaa.ThenPolicy
open Go Go.Pi
theorem p75 (a x y : Int) : m75 a x y = some (decide (x ≤ a ∧ a ≤ y)) := by
  simp only [m75, m75_1, bnd_ok, br_bool]
  rw [Option.some.injEq, Bool.eq_iff_iff, decide_eq_true_eq]
  simp only [Bool.and_eq_true, Bool.or_eq_true, Bool.not_eq_true', leI_iff, ltI_iff, leI_not, and_false, or_false, Bool.false_eq_true]
theorem p71 (a x y : Int) : m71 a x y = some (decide (x ≤ a ∧ a ≤ y)) := p75 a x y
/-! ### Prefixes -/
theorem p33 (p : Prefix) : ∃ b, m33 p = some b ∧ m37 p = some b := by
  simp only [m33, m33_1, m37, m37_1, m72, m76, m73, m77, p71, p75, bnd_ok]
  by_cases c : 0 ≤ p.len ∧ p.len ≤ 32
  · have e1 : wsub .i64 32 p.len = 32 - p.len := wsub64 (by omega) (by omega)
    have e2 : wcv .u64 (32 - p.len) = 32 - p.len := by simp [wcv, IntKind.wrap, IntKind.bits, IntKind.signed]; omega
    obtain ⟨k, hk⟩ : ∃ k : Nat, 32 - p.len = (k : Int) := ⟨(32 - p.len).toNat, by omega⟩
    have hk2 : k ≤ 32 := by omega
    have e3 : wshl .i64 1 (k : Int) = ((2 ^ k : Nat) : Int) := by
      have h2 : (2 ^ k : Nat) ≤ 4294967296 := by have := Nat.pow_le_pow_right (n := 2) (by omega) hk2; simpa using this
      unfold wshl
      have : min (k : Int).toNat IntKind.i64.bits = k := by simp [IntKind.bits]; omega
      rw [this, Int.one_mul]
      have e : ((2 : Int) ^ k) = ((2 ^ k : Nat) : Int) := by simp
      rw [e]
      generalize (2 ^ k : Nat) = z at h2
      exact w64 (by omega) (by omega)
    have h3 : ¬ ((2 ^ k : Nat) : Int) = 0 := by
      have := Nat.pow_pos (n := k) (show 0 < 2 by omega)
      generalize (2 ^ k : Nat) = z at this
      omega
    rw [decide_eq_true c, br_true, br_true, e1, e2, hk, ck_ok (show ¬ (k : Int) < 0 by omega), bnd_ok, e3, ck_ok h3]
    cases decide (0 ≤ p.addr ∧ p.addr ≤ 4294967295) <;> exact ⟨_, rfl, rfl⟩
  · rw [decide_eq_false c]; exact ⟨_, rfl, rfl⟩
noncomputable def okP (p : Prefix) : Bool := (m33 p).getD false
theorem p33' (p : Prefix) : m33 p = some (okP p) ∧ m37 p = some (okP p) := by
  obtain ⟨b, h1, h2⟩ := p33 p
  unfold okP; rw [h1, h2]; exact ⟨rfl, rfl⟩
noncomputable def okRange (x : Range) : Bool := okP x.prefix_ && decide (x.prefix_.len ≤ x.lo ∧ x.lo ≤ x.hi ∧ x.hi ≤ 32)
theorem p42_3 (x : Range) : m42_3 x = some (!okRange x) := by
  simp only [m42_3, (p33' x.prefix_).1, bnd_ok, p71, br_bool, okRange]
  rw [Option.some.injEq, Bool.eq_iff_iff]
  simp only [Bool.and_eq_true, Bool.or_eq_true, Bool.not_eq_true', Bool.and_eq_false_iff, decide_eq_true_eq, decide_eq_false_iff_not]
  cases okP x.prefix_ <;> simp <;> omega
theorem p86 (x : Range) : m86 x = some (!okRange x) := by
  simp only [m86, m86_1, (p33' x.prefix_).2, bnd_ok, br_bool, okRange]
  rw [Option.some.injEq, Bool.eq_iff_iff]
  simp only [Bool.and_eq_true, Bool.or_eq_true, Bool.not_eq_true', Bool.and_eq_false_iff, decide_eq_true_eq, decide_eq_false_iff_not, ltI_iff, ltI_not]
  cases okP x.prefix_ <;> simp <;> omega
/-! ### Acts -/
def okAct (a : Acn) : Bool := decide ((1 ≤ a.kind ∧ a.kind ≤ 4 ∧ 0 ≤ a.n ∧ a.n ≤ 1000000) ∨ (a.kind = 5 ∧ 1 ≤ a.n ∧ a.n ≤ 65535))
theorem p48 (a : Acn) : m48 a = some (okAct a) := by
  simp only [m48, m48_1, m48_2, m48_3, m48_4, p71, bnd_ok, br_bool, okAct]
  rw [Option.some.injEq, Bool.eq_iff_iff]
  simp only [Bool.and_eq_true, Bool.or_eq_true, Bool.not_eq_true', decide_eq_true_eq, eqI_iff, eqI_not, Bool.or_eq_false_iff, Bool.and_eq_false_iff, and_false, or_false, Bool.false_eq_true]
  omega
theorem p50 (a : Acn) : m50 a = some (okAct a) := by
  simp only [m50, m50_1, m50_2, m50_3, m79, m91, p75, bnd_ok, br_bool, okAct]
  rw [Option.some.injEq, Bool.eq_iff_iff]
  simp only [Bool.and_eq_true, Bool.or_eq_true, Bool.not_eq_true', decide_eq_true_eq, eqI_iff, eqI_not, Bool.or_eq_false_iff, Bool.and_eq_false_iff, and_false, or_false, Bool.false_eq_true]
  omega
/-! ### Path patterns -/
def ar (k : Int) : Int := if 1 ≤ k ∧ k ≤ 4 then 0 else if k = 5 ∨ k = 6 then 2 else if k = 7 then 1 else -1
theorem p154 (k : Int) : m154 k = some (ar k) := by
  simp only [m154, m154_1, m154_2, m154_3, m154_4, bnd_ok, br_ite, bnd_ite, eqI_iff, eqI]
  have h : (1 ≤ k ∧ k ≤ 4) ∨ k = 5 ∨ k = 6 ∨ k = 7 ∨ k < 1 ∨ 7 < k := by omega
  have h0 : (k < 1 ∨ 7 < k) → ar k = -1 := fun h => by unfold ar; rw [if_neg (by omega), if_neg (by omega), if_neg (by omega)]
  rcases h with h | h | h | h | h
  · have h : k = 1 ∨ k = 2 ∨ k = 3 ∨ k = 4 := by omega
    rcases h with h | h | h | h <;> subst h <;> rfl
  · subst h; rfl
  · subst h; rfl
  · subst h; rfl
  · rw [h0 h]
    simp [show k ≠ 1 by omega, show k ≠ 2 by omega, show k ≠ 3 by omega, show k ≠ 4 by omega, show k ≠ 5 by omega, show k ≠ 6 by omega, show k ≠ 7 by omega]
theorem p144 (k : Int) : m144 k = some (ar k) := by
  simp only [m144, m144_1, m144_2, m144_3, m144_4, bnd_ok, br_ite, bnd_ite, eqI_iff, eqI]
  have h : (1 ≤ k ∧ k ≤ 4) ∨ k = 5 ∨ k = 6 ∨ k = 7 ∨ k < 1 ∨ 7 < k := by omega
  have h0 : (k < 1 ∨ 7 < k) → ar k = -1 := fun h => by unfold ar; rw [if_neg (by omega), if_neg (by omega), if_neg (by omega)]
  rcases h with h | h | h | h | h
  · have h : k = 1 ∨ k = 2 ∨ k = 3 ∨ k = 4 := by omega
    rcases h with h | h | h | h <;> subst h <;> rfl
  · subst h; rfl
  · subst h; rfl
  · subst h; rfl
  · rw [h0 h]
    simp [show k ≠ 1 by omega, show k ≠ 2 by omega, show k ≠ 3 by omega, show k ≠ 4 by omega, show k ≠ 5 by omega, show k ≠ 6 by omega, show k ≠ 7 by omega]
theorem ar_range (k : Int) : -1 ≤ ar k ∧ ar k ≤ 2 := by unfold ar; repeat' split <;> omega
def okN (c : ReCell) : Bool := decide ((c.kind = 3 → 1 ≤ c.n ∧ c.n ≤ 65535) ∧ (c.kind ≠ 3 → c.n = 0))
def okC (c : ReCell) : Bool := decide (0 ≤ ar c.kind) && okN c
/-- So many patterns are read from the front. -/
def scan (ok : ReCell → Bool) : Nat → List ReCell → Option (List ReCell)
  | 0, l => some l
  | _ + 1, [] => none
  | n + 1, c :: r => if ok c = true then scan ok (n + (ar c.kind).toNat) r else none
theorem scan_zero (ok : ReCell → Bool) (l : List ReCell) : scan ok 0 l = some l := by cases l <;> rfl
theorem scan_add (ok : ReCell → Bool) : ∀ (l : List ReCell) (a b : Nat), scan ok (a + b) l = (scan ok a l).bind (scan ok b) := by
  intro l
  induction l with
  | nil =>
    intro a b
    cases a with
    | zero => rw [Nat.zero_add, scan_zero]; rfl
    | succ a => rw [Nat.succ_add]; rfl
  | cons c r ih =>
    intro a b
    cases a with
    | zero => rw [Nat.zero_add, scan_zero]; rfl
    | succ a =>
      rw [Nat.succ_add]
      simp only [scan]
      split
      · rw [show a + b + (ar c.kind).toNat = (a + (ar c.kind).toNat) + b by omega]; exact ih _ _
      · rfl
theorem scan_suffix (ok : ReCell → Bool) : ∀ (l : List ReCell) (n : Nat) (r : List ReCell), scan ok n l = some r → ∃ p, l = p ++ r ∧ (1 ≤ n → 1 ≤ p.length) := by
  intro l
  induction l with
  | nil =>
    intro n r h
    cases n with
    | zero => rw [scan_zero] at h; cases h; exact ⟨[], rfl, fun h => by omega⟩
    | succ n => cases h
  | cons c t ih =>
    intro n r h
    cases n with
    | zero => rw [scan_zero] at h; cases h; exact ⟨[], rfl, fun h => by omega⟩
    | succ n =>
      simp only [scan] at h
      split at h
      · obtain ⟨p, hp, _⟩ := ih _ _ h
        exact ⟨c :: p, by rw [hp]; rfl, fun _ => by simp⟩
      · cases h
theorem scan_all : ∀ (l : List ReCell) (n : Nat), scan okC n l = some [] ↔ scan (fun c => decide (0 ≤ ar c.kind)) n l = some [] ∧ l.all okN = true := by
  intro l
  induction l with
  | nil => intro n; cases n <;> simp [scan]
  | cons c r ih =>
    intro n
    cases n with
    | zero => simp [scan]
    | succ n =>
      simp only [scan, okC, List.all_cons]
      by_cases h1 : 0 ≤ ar c.kind
      · by_cases h2 : okN c = true
        · simpa [h1, h2] using ih _
        · simp [h1, h2]
      · simp [h1]
/-- Where one stands behind what has been read. -/
def posOf (l : List ReCell) : Option (List ReCell) → Int
  | none => 0
  | some r => (l.length : Int) - r.length
theorem p143_1 (rc : List ReCell → Int → Option (l6T × Int)) (c : ReCell) : m143_1 rc (ar c.kind) c = some (!okC c) := by
  simp only [m143_1, p71, bnd_ok, br_bool, okC, okN]
  rw [Option.some.injEq, Bool.eq_iff_iff]
  simp only [Bool.and_eq_true, Bool.or_eq_true, Bool.not_eq_true', Bool.and_eq_false_iff, decide_eq_true_eq, decide_eq_false_iff_not, ltI_iff, ltI_not, eqI_iff, eqI_not, Bool.not_eq_false', and_true, Bool.true_eq_false, and_false, Bool.false_eq_true, false_or, or_false]
  omega
theorem kids (l : List ReCell) (hl : l.length ≤ 1048576) (k : Nat) (rc1 rc2 : List ReCell → Int → Option (l6T × Int))
    (hrc : ∀ at_ : Nat, at_ ≤ l.length → l.length < at_ + k → ∃ r, rc1 l (at_ : Int) = some r ∧ rc2 l (at_ : Int) = some r ∧ r.2 = posOf l (scan okC 1 (l.drop at_))) :
    ∀ (n pos : Nat) (ks : List l6T), pos ≤ l.length → 1 ≤ pos → l.length < pos + k → ks.length + n ≤ 2 →
      ∃ o, loopP (m143_2b rc1 l) ((pos : Int), (n : Int), ks) = some o ∧ loopP (m143_2b rc2 l) ((pos : Int), (n : Int), ks) = some o ∧ match scan okC n (l.drop pos) with
        | some r => ∃ ks', o = .inl ((l.length : Int) - r.length, ks')
        | none => o = .inr () := by
  intro n
  induction n with
  | zero =>
    intro pos ks hp h1 hk hks
    refine ⟨.inl ((pos : Int), ks), loopP_out (by simp only [m143_2b, sel3]; rw [(ltI_not _ _).2 (by omega), br_false]), loopP_out (by simp only [m143_2b, sel3]; rw [(ltI_not _ _).2 (by omega), br_false]), ?_⟩
    rw [scan_zero]
    exact ⟨ks, by rw [List.length_drop]; congr 2; omega⟩
  | succ n ih =>
    intro pos ks hp h1 hk hks
    obtain ⟨r, r1, r2, r3⟩ := hrc pos hp hk
    obtain ⟨t, q⟩ := r
    simp only at r3
    rw [show n + 1 = 1 + n by omega, scan_add]
    cases hs : scan okC 1 (l.drop pos) with
    | none =>
      rw [hs] at r3
      simp only [posOf] at r3
      subst r3
      refine ⟨.inr (), loopP_out ?_, loopP_out ?_, rfl⟩
      · simp only [m143_2b, sel3, (ltI_iff 0 ((1 + n : Nat) : Int)).2 (by omega), br_true, r1, bnd_ok, sel2_ok, eqI_self]
      · simp only [m143_2b, sel3, (ltI_iff 0 ((1 + n : Nat) : Int)).2 (by omega), br_true, r2, bnd_ok, sel2_ok, eqI_self]
    | some rest =>
      rw [hs] at r3
      simp only [posOf] at r3
      obtain ⟨p, hp1, hp2⟩ := scan_suffix okC _ _ _ hs
      have hp3 := hp2 (Nat.le_refl _)
      have hlen : l.length - pos = p.length + rest.length := by have := congrArg List.length hp1; simpa using this
      have hq : q = ((pos + p.length : Nat) : Int) := by omega
      have hdrop : l.drop (pos + p.length) = rest := by rw [← List.drop_drop, hp1]; simp
      have ew : wsub .i64 ((1 + n : Nat) : Int) 1 = (n : Int) := by rw [wsub64 (by omega) (by omega)]; omega
      obtain ⟨o, o1, o2, o3⟩ := ih (pos + p.length) (ks ++ [t]) (by omega) (by omega) (by omega) (by simp; omega)
      rw [hdrop] at o3
      refine ⟨o, ?_, ?_, o3⟩
      · rw [← o1]
        refine loopP_nxt ?_
        simp only [m143_2b, sel3, (ltI_iff 0 ((1 + n : Nat) : Int)).2 (by omega), br_true, r1, bnd_ok, sel2_ok, hq, (eqI_not ((pos + p.length : Nat) : Int) 0).2 (by omega), br_false, ck_ok (show ks.length + 1 ≤ 4294967296 by omega), ew]
      · rw [← o2]
        refine loopP_nxt ?_
        simp only [m143_2b, sel3, (ltI_iff 0 ((1 + n : Nat) : Int)).2 (by omega), br_true, r2, bnd_ok, sel2_ok, hq, (eqI_not ((pos + p.length : Nat) : Int) 0).2 (by omega), br_false, ck_ok (show ks.length + 1 ≤ 4294967296 by omega), ew]
theorem one (l : List ReCell) (hl : l.length ≤ 1048576) (k : Nat) (rc1 rc2 : List ReCell → Int → Option (l6T × Int))
    (hrc : ∀ at_ : Nat, at_ ≤ l.length → l.length < at_ + k → ∃ r, rc1 l (at_ : Int) = some r ∧ rc2 l (at_ : Int) = some r ∧ r.2 = posOf l (scan okC 1 (l.drop at_))) (at_ : Nat) (h : l.length < at_ + (k + 1)) :
    ∃ r, m143r rc1 l (at_ : Int) = some r ∧ m143r rc2 l (at_ : Int) = some r ∧ r.2 = posOf l (scan okC 1 (l.drop at_)) := by
  by_cases ha : l.length ≤ at_
  · rw [List.drop_eq_nil_of_le ha]
    refine ⟨(⟨0, 0, []⟩, 0), ?_, ?_, rfl⟩
    · simp only [m143r, (leI_iff (l.length : Int) (at_ : Int)).2 (by omega), br_true]
    · simp only [m143r, (leI_iff (l.length : Int) (at_ : Int)).2 (by omega), br_true]
  · have hlt : at_ < l.length := by omega
    rw [List.drop_eq_getElem_cons hlt]
    simp only [m143r, (leI_not (l.length : Int) (at_ : Int)).2 (by omega), br_false, idx_get hlt, bnd_ok, p154, p143_1, scan]
    cases hc : okC l[at_] with
    | false => exact ⟨_, rfl, rfl, rfl⟩
    | true =>
      have hc' := hc
      simp only [okC, Bool.and_eq_true, decide_eq_true_eq] at hc'
      have hr := ar_range l[at_].kind
      obtain ⟨n, hn⟩ : ∃ n : Nat, ar l[at_].kind = (n : Int) := ⟨(ar l[at_].kind).toNat, by omega⟩
      have ew : wadd .i64 (at_ : Int) 1 = ((at_ + 1 : Nat) : Int) := by rw [wadd64 (by omega) (by omega)]; omega
      obtain ⟨o, o1, o2, o3⟩ := kids l hl k rc1 rc2 hrc n (at_ + 1) [] (by omega) (by omega) (by omega) (by simp; omega)
      rw [hn, ew]
      simp only [Bool.not_true, br_false, o1, o2, bnd_ok, if_true, Nat.zero_add, Int.toNat_natCast]
      cases hs : scan okC n (l.drop (at_ + 1)) with
      | none =>
        rw [hs] at o3; simp only at o3; subst o3
        exact ⟨_, rfl, rfl, rfl⟩
      | some rest =>
        rw [hs] at o3
        obtain ⟨ks', rfl⟩ := o3
        exact ⟨_, rfl, rfl, rfl⟩
theorem read (l : List ReCell) (hl : l.length ≤ 1048576) : ∀ (k at_ : Nat), at_ ≤ l.length → l.length < at_ + k → ∃ r, m143k k l (at_ : Int) = some r ∧ m143k (k + 1) l (at_ : Int) = some r ∧ r.2 = posOf l (scan okC 1 (l.drop at_)) := by
  intro k
  induction k with
  | zero =>
    intro at_ h0 h
    exact absurd h (by omega)
  | succ k ih => intro at_ h0 h; exact one l hl k (m143k k) (m143k (k + 1)) ih at_ h
theorem p143 (l : List ReCell) (hl : l.length ≤ 1048576) : ∃ t, m143 l 0 = some (t, posOf l (scan okC 1 l)) := by
  obtain ⟨r, r1, r2, r3⟩ := read l hl (l.length + 1) 0 (by omega) (by omega)
  have all : ∀ j, m143k (l.length + 1 + j) l ((0 : Nat) : Int) = some r := by
    intro j
    induction j with
    | zero => exact r1
    | succ j ih =>
      obtain ⟨r', q1, q2, _⟩ := read l hl (l.length + 1 + j) 0 (by omega) (by omega)
      rw [ih] at q1
      cases q1
      exact q2
  obtain ⟨t, q⟩ := r
  simp only [List.drop_zero] at r3
  subst r3
  refine ⟨t, ?_⟩
  unfold m143
  refine limO_iff.2 ⟨l.length + 1, fun j hj => ?_⟩
  have := all (j - (l.length + 1))
  rw [show l.length + 1 + (j - (l.length + 1)) = j by omega] at this
  exact this
def okRe (l : List ReCell) : Bool := decide (l.length ≤ 30) && decide (scan okC 1 l = some [])
theorem p82 (l : List ReCell) (hl : l.length ≤ 1048576) : m82 l = some (okRe l) := by
  unfold m82 m122
  by_cases c : l.length ≤ 30
  · rw [(ltI_not _ _).2 (by omega), br_false]
    obtain ⟨t, e⟩ := p143 l hl
    rw [e, bnd_ok, sel2_ok]
    have e1 : m122_1 l (posOf l (scan okC 1 l)) = some (okRe l) := by
      unfold m122_1 okRe
      rw [decide_eq_true c, Bool.true_and]
      cases hs : scan okC 1 l with
      | none => rfl
      | some rest =>
        obtain ⟨p, hp1, hp2⟩ := scan_suffix okC _ _ _ hs
        have hp3 := hp2 (Nat.le_refl _)
        have hlen : l.length = p.length + rest.length := by have := congrArg List.length hp1; simpa using this
        simp only [posOf]
        rw [(ltI_iff _ _).2 (by omega), br_true, Option.some.injEq, Bool.eq_iff_iff, eqI_iff, decide_eq_true_eq, Option.some.injEq]
        constructor
        · intro h; exact List.eq_nil_of_length_eq_zero (by omega)
        · intro h; subst h; simp
    rw [e1, bnd_ok, bnd_ok, sel2_ok]
  · rw [(ltI_iff _ _).2 (by omega), br_true, bnd_ok, sel2_ok, okRe, decide_eq_false c]; rfl
def okA (c : ReCell) : Bool := decide (0 ≤ ar c.kind)
theorem sizes (l : List ReCell) (hl : l.length ≤ 1048576) : ∀ (m i n : Nat), m + i = l.length → 1 ≤ n → n ≤ 1 + 2 * i →
    ∃ o, loopP (m123_1b l 0) ((n : Int), (i : Int)) = some o ∧ selS o (fun _ => some (-1 : Int)) (fun v => some v) = some (match scan okA n (l.drop i) with | some r => (l.length : Int) - r.length | none => -1) := by
  intro m
  induction m with
  | zero =>
    intro i n hm h1 h2
    rw [List.drop_eq_nil_of_le (by omega)]
    obtain ⟨n', rfl⟩ : ∃ n', n = n' + 1 := ⟨n - 1, by omega⟩
    exact ⟨.inl (), loopP_out (by simp only [m123_1b, sel2, (ltI_not (i : Int) (l.length : Int)).2 (by omega), br_false]), rfl⟩
  | succ m ih =>
    intro i n hm h1 h2
    have h : i < l.length := by omega
    obtain ⟨n', rfl⟩ : ∃ n', n = n' + 1 := ⟨n - 1, by omega⟩
    rw [List.drop_eq_getElem_cons h, scan]
    have hr := ar_range l[i].kind
    by_cases ha : 0 ≤ ar l[i].kind
    · have hok : okA l[i] = true := decide_eq_true ha
      rw [if_pos hok]
      obtain ⟨a, hn⟩ : ∃ a : Nat, ar l[i].kind = (a : Int) := ⟨(ar l[i].kind).toNat, by omega⟩
      have e1 : wsub .i64 (a : Int) 1 = (a : Int) - 1 := wsub64 (by omega) (by omega)
      have e2 : wadd .i64 ((n' + 1 : Nat) : Int) ((a : Int) - 1) = ((n' + a : Nat) : Int) := by rw [wadd64 (by omega) (by omega)]; omega
      have e3 : wadd .i64 (i : Int) 1 = ((i + 1 : Nat) : Int) := wsucc h (by omega)
      have e4 : wsub .i64 ((i + 1 : Nat) : Int) 0 = ((i + 1 : Nat) : Int) := by rw [wsub64 (by omega) (by omega)]; omega
      rw [hn, Int.toNat_natCast]
      by_cases hz : n' + a = 0
      · rw [hz, scan_zero]
        refine ⟨.inr ((i + 1 : Nat) : Int), loopP_out ?_, ?_⟩
        · simp only [m123_1b, sel2, (ltI_iff (i : Int) (l.length : Int)).2 (by omega), br_true, idx_get h, bnd_ok, p144, hn, (ltI_not (a : Int) 0).2 (by omega), br_false, e1, e2, e3, e4, (eqI_iff ((n' + a : Nat) : Int) 0).2 (by omega)]
        · simp only [selS_inr, List.length_drop]; congr 1; omega
      · obtain ⟨o, o1, o2⟩ := ih (i + 1) (n' + a) (by omega) (by omega) (by omega)
        refine ⟨o, ?_, o2⟩
        rw [← o1]
        refine loopP_nxt ?_
        simp only [m123_1b, sel2, (ltI_iff (i : Int) (l.length : Int)).2 (by omega), br_true, idx_get h, bnd_ok, p144, hn, (ltI_not (a : Int) 0).2 (by omega), br_false, e1, e2, e3, (eqI_not ((n' + a : Nat) : Int) 0).2 (by omega)]
    · have hok : ¬ okA l[i] = true := by unfold okA; rw [decide_eq_false ha]; simp
      rw [if_neg hok]
      refine ⟨.inr (-1), loopP_out ?_, rfl⟩
      simp only [m123_1b, sel2, (ltI_iff (i : Int) (l.length : Int)).2 (by omega), br_true, idx_get h, bnd_ok, p144, (ltI_iff (ar l[i].kind) 0).2 (by omega)]
theorem p123 (l : List ReCell) (hl : l.length ≤ 1048576) : m123 l 0 = some (match scan okA 1 l with | some r => (l.length : Int) - r.length | none => -1) := by
  obtain ⟨o, o1, o2⟩ := sizes l hl l.length 0 1 (by omega) (by omega) (by omega)
  have o1' : loopP (m123_1b l 0) (1, 0) = some o := o1
  unfold m123
  rw [o1', bnd_ok, o2, List.drop_zero]
theorem p125 (c : ReCell) : m125 c = some (!okN c) := by
  simp only [m125, m125_1, m91, p75, bnd_ok, br_bool, okN]
  rw [Option.some.injEq, Bool.eq_iff_iff]
  simp only [Bool.and_eq_true, Bool.or_eq_true, Bool.not_eq_true', Bool.and_eq_false_iff, decide_eq_true_eq, decide_eq_false_iff_not, eqI_iff, eqI_not, Bool.not_eq_false', and_true, Bool.true_eq_false, and_false, Bool.false_eq_true, false_or, or_false]
  omega
theorem p124 (l : List ReCell) (hl : l.length ≤ 1048576) : m124 l (fun y0 => m125 y0) = some (l.any fun c => !okN c) := by
  simp only [m124, m145, indexFunc (body := m145_1b l (l.length : Int) (fun y0 => m125 y0)) (f := fun y0 => m125 y0) l (fun c => !okN c) (fun x _ => p125 x) (by omega) (fun s => rfl), bnd_ok, containsFunc]
theorem any_not {α : Type} (p : α → Bool) (l : List α) : (!l.any fun c => !p c) = l.all p := by
  induction l with
  | nil => rfl
  | cons c r ih => simp only [List.any_cons, List.all_cons, Bool.not_or, Bool.not_not, ih]
theorem p84 (l : List ReCell) (hl : l.length ≤ 1048576) : m84 l = some (okRe l) := by
  simp only [m84, m84_1, p75, bnd_ok, p123 l hl, p124 l hl, any_not]
  have hs := scan_all l 1
  by_cases c : 1 ≤ l.length ∧ l.length ≤ 30
  · rw [decide_eq_true (show 1 ≤ (l.length : Int) ∧ (l.length : Int) ≤ 30 by omega), br_true, bnd_ok]
    have e : (eqI (match scan okA 1 l with | some r => (l.length : Int) - r.length | none => -1) (l.length : Int)) = decide (scan okA 1 l = some []) := by
      rw [Bool.eq_iff_iff, eqI_iff, decide_eq_true_eq]
      cases hq : scan okA 1 l with
      | none => simp
      | some rest =>
        simp only [Option.some.injEq]
        constructor
        · intro h; exact List.eq_nil_of_length_eq_zero (by omega)
        · intro h; subst h; simp
    rw [e]
    by_cases h1 : scan okA 1 l = some []
    · rw [decide_eq_true h1, Bool.not_true, br_false, Option.some.injEq, Bool.eq_iff_iff, okRe, decide_eq_true c.2, Bool.true_and, decide_eq_true_eq, hs]
      exact ⟨fun h => ⟨h1, h⟩, fun h => h.2⟩
    · rw [decide_eq_false h1, Bool.not_false, br_true, okRe, decide_eq_false (p := scan okC 1 l = some []) (fun h => h1 (hs.1 h).1), Bool.and_false]
  · rw [decide_eq_false (show ¬ (1 ≤ (l.length : Int) ∧ (l.length : Int) ≤ 30) by omega), br_false, bnd_ok, br_true, okRe]
    by_cases c2 : l.length ≤ 30
    · have : l = [] := List.eq_nil_of_length_eq_zero (by omega)
      subst this; rfl
    · rw [decide_eq_false c2]; rfl
/-! ### Terms -/
noncomputable def okT (t : Term) : Bool := t.ranges.all okRange && t.acts.all okAct && (decide (t.ranges.length ≤ 6) && decide (t.acts.length ≤ 5) && (decide (t.path.length = 0) || okRe t.path) && decide (-1 ≤ t.comm ∧ t.comm ≤ 1000000) && decide (0 ≤ t.verdict ∧ t.verdict ≤ 2))
theorem p42 (t : Term) (h1 : t.ranges.length ≤ 1048576) (h2 : t.path.length ≤ 1048576) (h3 : t.acts.length ≤ 1048576) : m42 t = some (okT t) := by
  have l1 := loop_all (body := m42_1b t (t.ranges.length : Int)) t.ranges.length (atB t.ranges okRange) (.inl ()) (.inr ()) (fun k h => by
    simp only [m42_1b, (ltI_iff (k : Int) (t.ranges.length : Int)).2 (by omega), br_true, idx_get h, bnd_ok, p42_3, wsucc h (by omega), atB_get h]
    cases okRange t.ranges[k] <;> rfl) (by simp only [m42_1b, (ltI_not (t.ranges.length : Int) (t.ranges.length : Int)).2 (by omega), br_false])
  have l2 := loop_all (body := m42_4b t (t.acts.length : Int)) t.acts.length (atB t.acts okAct) (.inl ()) (.inr ()) (fun k h => by
    simp only [m42_4b, (ltI_iff (k : Int) (t.acts.length : Int)).2 (by omega), br_true, idx_get h, bnd_ok, p48, wsucc h (by omega), atB_get h]
    cases okAct t.acts[k] <;> rfl) (by simp only [m42_4b, (ltI_not (t.acts.length : Int) (t.acts.length : Int)).2 (by omega), br_false])
  rw [allN_list] at l1 l2
  have e5 : m42_5 t = some (decide (t.ranges.length ≤ 6) && decide (t.acts.length ≤ 5) && (decide (t.path.length = 0) || okRe t.path) && decide (-1 ≤ t.comm ∧ t.comm ≤ 1000000) && decide (0 ≤ t.verdict ∧ t.verdict ≤ 2)) := by
    simp only [m42_5, p71, bnd_ok, p82 t.path h2]
    have a1 : leI (t.ranges.length : Int) 6 = decide (t.ranges.length ≤ 6) := by rw [Bool.eq_iff_iff, leI_iff, decide_eq_true_eq]; omega
    have a2 : leI (t.acts.length : Int) 5 = decide (t.acts.length ≤ 5) := by rw [Bool.eq_iff_iff, leI_iff, decide_eq_true_eq]; omega
    have a3 : eqI (t.path.length : Int) 0 = decide (t.path.length = 0) := by rw [Bool.eq_iff_iff, eqI_iff, decide_eq_true_eq]; omega
    rw [a1, a2, a3]
    cases decide (t.ranges.length ≤ 6) <;> cases decide (t.acts.length ≤ 5) <;> cases decide (t.path.length = 0) <;> cases okRe t.path <;> cases decide (-1 ≤ t.comm ∧ t.comm ≤ 1000000) <;> cases decide (0 ≤ t.verdict ∧ t.verdict ≤ 2) <;> rfl
  simp only [m42, l1, l2, bnd_ok, e5, okT]
  cases t.ranges.all okRange with
  | false => rfl
  | true => cases t.acts.all okAct <;> rfl
theorem p46 (t : Term) (h1 : t.ranges.length ≤ 1048576) (h2 : t.path.length ≤ 1048576) (h3 : t.acts.length ≤ 1048576) : m46 t = some (okT t) := by
  have l1 : m85 t.ranges (fun y0 => m86 y0) = some (t.ranges.any fun x => !okRange x) := by
    simp only [m85, m126, indexFunc (body := m126_1b t.ranges (t.ranges.length : Int) (fun y0 => m86 y0)) (f := fun y0 => m86 y0) t.ranges (fun x => !okRange x) (fun x _ => p86 x) (by omega) (fun s => rfl), bnd_ok, containsFunc]
  have l2 : m87 t.acts (fun y0 => m88 y0) = some (t.acts.any fun x => !okAct x) := by
    simp only [m87, m127, indexFunc (body := m127_1b t.acts (t.acts.length : Int) (fun y0 => m88 y0)) (f := fun y0 => m88 y0) t.acts (fun x => !okAct x) (fun x _ => by simp only [m88, p50, bnd_ok]) (by omega) (fun s => rfl), bnd_ok, containsFunc]
  have e2 : m46_2 t = some (t.ranges.all okRange && t.acts.all okAct) := by
    simp only [m46_2, l1, l2, bnd_ok, any_not]
    rw [← any_not okRange]
    cases t.ranges.any fun x => !okRange x <;> rfl
  have e1 : m46_1 t = some (!(decide (t.ranges.length ≤ 6) && decide (t.acts.length ≤ 5) && (decide (t.path.length = 0) || okRe t.path) && decide (-1 ≤ t.comm ∧ t.comm ≤ 1000000) && decide (0 ≤ t.verdict ∧ t.verdict ≤ 2))) := by
    simp only [m46_1, m79, p75, bnd_ok, p84 t.path h2]
    have a1 : ltI 6 (t.ranges.length : Int) = !decide (t.ranges.length ≤ 6) := by rw [Bool.eq_iff_iff, ltI_iff, Bool.not_eq_true', decide_eq_false_iff_not]; omega
    have a2 : ltI 5 (t.acts.length : Int) = !decide (t.acts.length ≤ 5) := by rw [Bool.eq_iff_iff, ltI_iff, Bool.not_eq_true', decide_eq_false_iff_not]; omega
    have a3 : ltI 0 (t.path.length : Int) = !decide (t.path.length = 0) := by rw [Bool.eq_iff_iff, ltI_iff, Bool.not_eq_true', decide_eq_false_iff_not]; omega
    have a4 : decide (-1 ≤ t.comm ∧ t.comm ≤ 1000000) = (eqI t.comm (-1) || decide (0 ≤ t.comm ∧ t.comm ≤ 1000000)) := by rw [Bool.eq_iff_iff, Bool.or_eq_true, eqI_iff, decide_eq_true_eq, decide_eq_true_eq]; omega
    rw [a1, a2, a3, a4]
    cases decide (t.ranges.length ≤ 6) <;> cases decide (t.acts.length ≤ 5) <;> cases decide (t.path.length = 0) <;> cases okRe t.path <;> cases eqI t.comm (-1) <;> cases decide (0 ≤ t.comm ∧ t.comm ≤ 1000000) <;> cases decide (0 ≤ t.verdict ∧ t.verdict ≤ 2) <;> rfl
  simp only [m46, e1, e2, bnd_ok, okT]
  generalize (decide (t.ranges.length ≤ 6) && decide (t.acts.length ≤ 5) && (decide (t.path.length = 0) || okRe t.path) && decide (-1 ≤ t.comm ∧ t.comm ≤ 1000000) && decide (0 ≤ t.verdict ∧ t.verdict ≤ 2)) = b
  cases b <;> cases t.ranges.all okRange <;> cases t.acts.all okAct <;> rfl
/-! ### Policies -/
noncomputable def okPol (a : Policy) : Bool := decide (a.terms.length ≤ 8) && a.terms.all okT
theorem sm_terms {a : Policy} (se : smPolicy a) : a.terms.length ≤ 1048576 ∧ ∀ t ∈ a.terms, t.ranges.length ≤ 1048576 ∧ t.path.length ≤ 1048576 ∧ t.acts.length ≤ 1048576 :=
  ⟨se.1.1, fun t ht => by have := se.1.2 t ht; exact ⟨this.1, this.2.1, this.2.2.2.1⟩⟩
theorem p14 (a : Policy) (se : smPolicy a) : m14 a = some (okPol a) := by
  obtain ⟨sl, st⟩ := sm_terms se
  have l1 := loop_all (body := m14_1b a (a.terms.length : Int)) a.terms.length (atB a.terms okT) (.inl ()) (.inr ()) (fun k h => by
    obtain ⟨q1, q2, q3⟩ := st _ (List.getElem_mem h)
    simp only [m14_1b, (ltI_iff (k : Int) (a.terms.length : Int)).2 (by omega), br_true, idx_get h, bnd_ok, p42 a.terms[k] q1 q2 q3, wsucc h (by omega), atB_get h]
    cases okT a.terms[k] <;> rfl) (by simp only [m14_1b, (ltI_not (a.terms.length : Int) (a.terms.length : Int)).2 (by omega), br_false])
  rw [allN_list] at l1
  have a1 : leI (a.terms.length : Int) 8 = decide (a.terms.length ≤ 8) := by rw [Bool.eq_iff_iff, leI_iff, decide_eq_true_eq]; omega
  simp only [m14, l1, bnd_ok, a1, okPol]
  cases a.terms.all okT <;> cases decide (a.terms.length ≤ 8) <;> rfl
theorem p44 (l : List Term) (hl : l.length ≤ 1048576) (f : Term → Option Bool) (p : Term → Bool) (hf : ∀ x ∈ l, f x = some (p x)) : m44 l f = some (l.any p) := by
  simp only [m44, m83, indexFunc (body := m83_1b l (l.length : Int) f) (f := f) l p hf (by omega) (fun s => rfl), bnd_ok, containsFunc]
theorem p16 (a : Policy) (se : smPolicy a) : m16 a = some (okPol a) := by
  obtain ⟨sl, st⟩ := sm_terms se
  have l2 : m44 a.terms (fun y0 => m45 y0) = some (a.terms.any fun x => !okT x) := p44 _ sl _ _ (fun x hx => by obtain ⟨q1, q2, q3⟩ := st _ hx; simp only [m45, p46 x q1 q2 q3, bnd_ok])
  have a1 : leI (a.terms.length : Int) 8 = decide (a.terms.length ≤ 8) := by rw [Bool.eq_iff_iff, leI_iff, decide_eq_true_eq]; omega
  simp only [m16, m16_1, l2, bnd_ok, a1, okPol]
  rw [← any_not okT]
  cases a.terms.any fun x => !okT x <;> cases decide (a.terms.length ≤ 8) <;> rfl
/-! ### Marks -/
theorem kRange (l : List Range) (k : Int) (hl : l.length ≤ 1048576) (h0 : 0 ≤ k) (h1 : k ≤ 2305843009213693952) : ∃ k' ys, m102 l k = some (k', ys) ∧ ys.length = l.length ∧ k ≤ k' ∧ k' ≤ k + 4194304 ∧ m105 ys k = some k' := by
  obtain ⟨k', ys, e1, e2, e3, e4, e5⟩ := mark_rel (good := fun _ => True) (W := 4) (B := 4611686018427387904) (by omega) (fun x k k' y => k' = k + 4 ∧ y = (⟨⟨k, k + 1⟩, k + 2, k + 3⟩ : Range))
    (fun x k _ h0 h1 => ⟨_, _, ⟨rfl, rfl⟩, by omega, by omega⟩) (body := m102_1b) (fun i l k k' y h hl hr h0 h1 => by
      obtain ⟨rfl, rfl⟩ := hr
      have w1 : wadd .i64 k 1 = k + 1 := wadd64 (by omega) (by omega)
      have w2 : wadd .i64 (k + 1) 1 = k + 2 := by rw [wadd64 (by omega) (by omega)]; omega
      have w3 : wadd .i64 (k + 2) 1 = k + 3 := by rw [wadd64 (by omega) (by omega)]; omega
      have w4 : wadd .i64 (k + 3) 1 = k + 4 := by rw [wadd64 (by omega) (by omega)]; omega
      simp only [m102_1b, sel3_ok, (ltI_iff (i : Int) (l.length : Int)).2 (by omega), br_true, idx_get h, bnd_ok, w1, w2, w3, w4, wsucc h (by omega), Int.toNat_natCast, List.set_set]) (fun l k => by simp only [m102_1b, sel3_ok, (ltI_not (l.length : Int) (l.length : Int)).2 (by omega), br_false])
    (hbody := m105_1b) (fun l i k k' x h hl hr h0 h1 => by
      obtain ⟨rfl, hy⟩ := hr
      have w1 : wadd .i64 k 1 = k + 1 := wadd64 (by omega) (by omega)
      have w2 : wadd .i64 (k + 1) 1 = k + 2 := by rw [wadd64 (by omega) (by omega)]; omega
      have w3 : wadd .i64 (k + 2) 1 = k + 3 := by rw [wadd64 (by omega) (by omega)]; omega
      have w4 : wadd .i64 (k + 3) 1 = k + 4 := by rw [wadd64 (by omega) (by omega)]; omega
      simp only [m105_1b, sel2_ok, (ltI_iff (i : Int) (l.length : Int)).2 (by omega), br_true, idx_get h, bnd_ok, hy, w1, w2, w3, w4, eqI_self, wsucc h (by omega)]) (fun l k => by simp only [m105_1b, sel2_ok, (ltI_not (l.length : Int) (l.length : Int)).2 (by omega), br_false])
    l k hl (fun _ _ => trivial) h0 (by omega)
  exact ⟨k', ys, by unfold m102; rw [e1, bnd_ok, sel2_ok], e2, e3, by omega, by unfold m105; rw [e5, bnd_ok, selS_inl]⟩
theorem kCell (l : List ReCell) (k : Int) (hl : l.length ≤ 1048576) (h0 : 0 ≤ k) (h1 : k ≤ 2305843009213693952) : ∃ k' ys, m103 l k = some (k', ys) ∧ ys.length = l.length ∧ k ≤ k' ∧ k' ≤ k + 2097152 ∧ m106 ys k = some k' := by
  obtain ⟨k', ys, e1, e2, e3, e4, e5⟩ := mark_rel (good := fun _ => True) (W := 2) (B := 4611686018427387904) (by omega) (fun x k k' y => k' = k + 2 ∧ y = (⟨k, k + 1⟩ : ReCell))
    (fun x k _ h0 h1 => ⟨_, _, ⟨rfl, rfl⟩, by omega, by omega⟩) (body := m103_1b) (fun i l k k' y h hl hr h0 h1 => by
      obtain ⟨rfl, rfl⟩ := hr
      have w1 : wadd .i64 k 1 = k + 1 := wadd64 (by omega) (by omega)
      have w2 : wadd .i64 (k + 1) 1 = k + 2 := by rw [wadd64 (by omega) (by omega)]; omega
      simp only [m103_1b, sel3_ok, (ltI_iff (i : Int) (l.length : Int)).2 (by omega), br_true, idx_get h, bnd_ok, w1, w2, wsucc h (by omega), Int.toNat_natCast, List.set_set]) (fun l k => by simp only [m103_1b, sel3_ok, (ltI_not (l.length : Int) (l.length : Int)).2 (by omega), br_false])
    (hbody := m106_1b) (fun l i k k' x h hl hr h0 h1 => by
      obtain ⟨rfl, hy⟩ := hr
      have w1 : wadd .i64 k 1 = k + 1 := wadd64 (by omega) (by omega)
      have w2 : wadd .i64 (k + 1) 1 = k + 2 := by rw [wadd64 (by omega) (by omega)]; omega
      simp only [m106_1b, sel2_ok, (ltI_iff (i : Int) (l.length : Int)).2 (by omega), br_true, idx_get h, bnd_ok, hy, w1, w2, eqI_self, wsucc h (by omega)]) (fun l k => by simp only [m106_1b, sel2_ok, (ltI_not (l.length : Int) (l.length : Int)).2 (by omega), br_false])
    l k hl (fun _ _ => trivial) h0 (by omega)
  exact ⟨k', ys, by unfold m103; rw [e1, bnd_ok, sel2_ok], e2, e3, by omega, by unfold m106; rw [e5, bnd_ok, selS_inl]⟩
theorem kAct (l : List Acn) (k : Int) (hl : l.length ≤ 1048576) (h0 : 0 ≤ k) (h1 : k ≤ 2305843009213693952) : ∃ k' ys, m104 l k = some (k', ys) ∧ ys.length = l.length ∧ k ≤ k' ∧ k' ≤ k + 2097152 ∧ m107 ys k = some k' := by
  obtain ⟨k', ys, e1, e2, e3, e4, e5⟩ := mark_rel (good := fun _ => True) (W := 2) (B := 4611686018427387904) (by omega) (fun x k k' y => k' = k + 2 ∧ y = (⟨k, k + 1⟩ : Acn))
    (fun x k _ h0 h1 => ⟨_, _, ⟨rfl, rfl⟩, by omega, by omega⟩) (body := m104_1b) (fun i l k k' y h hl hr h0 h1 => by
      obtain ⟨rfl, rfl⟩ := hr
      have w1 : wadd .i64 k 1 = k + 1 := wadd64 (by omega) (by omega)
      have w2 : wadd .i64 (k + 1) 1 = k + 2 := by rw [wadd64 (by omega) (by omega)]; omega
      simp only [m104_1b, sel3_ok, (ltI_iff (i : Int) (l.length : Int)).2 (by omega), br_true, idx_get h, bnd_ok, w1, w2, wsucc h (by omega), Int.toNat_natCast, List.set_set]) (fun l k => by simp only [m104_1b, sel3_ok, (ltI_not (l.length : Int) (l.length : Int)).2 (by omega), br_false])
    (hbody := m107_1b) (fun l i k k' x h hl hr h0 h1 => by
      obtain ⟨rfl, hy⟩ := hr
      have w1 : wadd .i64 k 1 = k + 1 := wadd64 (by omega) (by omega)
      have w2 : wadd .i64 (k + 1) 1 = k + 2 := by rw [wadd64 (by omega) (by omega)]; omega
      simp only [m107_1b, sel2_ok, (ltI_iff (i : Int) (l.length : Int)).2 (by omega), br_true, idx_get h, bnd_ok, hy, w1, w2, eqI_self, wsucc h (by omega)]) (fun l k => by simp only [m107_1b, sel2_ok, (ltI_not (l.length : Int) (l.length : Int)).2 (by omega), br_false])
    l k hl (fun _ _ => trivial) h0 (by omega)
  exact ⟨k', ys, by unfold m104; rw [e1, bnd_ok, sel2_ok], e2, e3, by omega, by unfold m107; rw [e5, bnd_ok, selS_inl]⟩
def TR (x : Term) (k k' : Int) (y : Term) : Prop := ∃ k1 r k2 p k3 c, m102 x.ranges k = some (k1, r) ∧ r.length = x.ranges.length ∧ m105 r k = some k1 ∧ m103 x.path k1 = some (k2, p) ∧ p.length = x.path.length ∧ m106 p k1 = some k2 ∧
  m104 x.acts (k2 + 1) = some (k3, c) ∧ c.length = x.acts.length ∧ m107 c (k2 + 1) = some k3 ∧ (k ≤ k1 ∧ k1 ≤ k2 ∧ k2 < k3 ∧ k3 ≤ k + 8388609) ∧ k' = k3 + 1 ∧ y = (⟨r, p, k2, c, k3⟩ : Term)
theorem k57 (l : List Term) (k : Int) (hl : l.length ≤ 1048576) (hs : ∀ t ∈ l, t.ranges.length ≤ 1048576 ∧ t.path.length ≤ 1048576 ∧ t.acts.length ≤ 1048576) (h0 : 0 ≤ k) (h1 : k ≤ 1152921504606846976) :
    ∃ k' ys, m57 l k = some (k', ys) ∧ ys.length = l.length ∧ k ≤ k' ∧ k' ≤ k + 8796097216512 ∧ m58 ys k = some k' := by
  obtain ⟨k', ys, e1, e2, e3, e4, e5⟩ := mark_rel (good := fun t : Term => t.ranges.length ≤ 1048576 ∧ t.path.length ≤ 1048576 ∧ t.acts.length ≤ 1048576) (W := 8388612) (B := 2305843009213693952) (by omega) TR
    (fun x k hx h0 h1 => by
      obtain ⟨k1, r, a1, a2, a3, a4, a5⟩ := kRange x.ranges k hx.1 h0 (by omega)
      obtain ⟨k2, p, b1, b2, b3, b4, b5⟩ := kCell x.path k1 hx.2.1 (by omega) (by omega)
      obtain ⟨k3, c, c1, c2, c3, c4, c5⟩ := kAct x.acts (k2 + 1) hx.2.2 (by omega) (by omega)
      exact ⟨k3 + 1, _, ⟨k1, r, k2, p, k3, c, a1, a2, a5, b1, b2, b5, c1, c2, c5, by omega, rfl, rfl⟩, by omega, by omega⟩) (body := m57_1b) (fun i l k k' y h hl hr h0 h1 => by
      obtain ⟨k1, r, k2, p, k3, c, a1, a2, a5, b1, b2, b5, c1, c2, c5, hk, rfl, rfl⟩ := hr
      have w1 : wadd .i64 k2 1 = k2 + 1 := wadd64 (by omega) (by omega)
      have w2 : wadd .i64 k3 1 = k3 + 1 := wadd64 (by omega) (by omega)
      simp only [m57_1b, sel3_ok, (ltI_iff (i : Int) (l.length : Int)).2 (by omega), br_true, idx_get h, bnd_ok, sel2_ok, a1, ck_ok a2, b1, ck_ok b2, w1, c1, ck_ok c2, w2, wsucc h (by omega), Int.toNat_natCast, List.set_set]) (fun l k => by simp only [m57_1b, sel3_ok, (ltI_not (l.length : Int) (l.length : Int)).2 (by omega), br_false])
    (hbody := m58_1b) (fun l i k k' x h hl hr h0 h1 => by
      obtain ⟨k1, r, k2, p, k3, c, a1, a2, a5, b1, b2, b5, c1, c2, c5, hk, rfl, hy⟩ := hr
      have w1 : wadd .i64 k2 1 = k2 + 1 := wadd64 (by omega) (by omega)
      have w2 : wadd .i64 k3 1 = k3 + 1 := wadd64 (by omega) (by omega)
      simp only [m58_1b, sel2_ok, (ltI_iff (i : Int) (l.length : Int)).2 (by omega), br_true, idx_get h, bnd_ok, hy, a5, (ltI_not k1 0).2 (by omega), br_false, b5, (ltI_not k2 0).2 (by omega), eqI_self, w1, c5, (ltI_not k3 0).2 (by omega), w2, wsucc h (by omega)]) (fun l k => by simp only [m58_1b, sel2_ok, (ltI_not (l.length : Int) (l.length : Int)).2 (by omega), br_false])
    l k hl hs h0 (by omega)
  exact ⟨k', ys, by unfold m57; rw [e1, bnd_ok, sel2_ok], e2, e3, by omega, by unfold m58; rw [e5, bnd_ok, selS_inl]⟩
theorem k25 (a : Policy) (k : Int) (se : smPolicy a) (h0 : 0 ≤ k) (h1 : k ≤ 1152921504606846976) : ∃ k' ys, m25 a k = some (k', ys) ∧ ys.length = a.terms.length ∧ k ≤ k' ∧ k' ≤ k + 8796097216512 ∧ m26 (⟨ys, a.accept⟩ : Policy) k = some k' := by
  obtain ⟨sl, st⟩ := sm_terms se
  obtain ⟨k', ys, e1, e2, e3, e4, e5⟩ := k57 a.terms k sl st h0 h1
  refine ⟨k', ys, by unfold m25; rw [e1, bnd_ok, sel2_ok, ck_ok e2], e2, e3, e4, ?_⟩
  unfold m26
  show bnd (m58 ys k) _ = _
  rw [e5, bnd_ok, (ltI_not _ _).2 (by omega), br_false]
/-! ### One behind the other -/
theorem pushS (a : Policy) (hl : a.terms.length ≤ 1048576) (hs : ∀ t ∈ a.terms, t.ranges.length ≤ 1048576 ∧ t.path.length ≤ 1048576 ∧ t.acts.length ≤ 1048576) (o : List Term) (ho : o.length ≤ 1048576) : ∀ (n k : Nat) (o : List Term), n + k = a.terms.length → o.length ≤ 1048576 + k →
    loopP (m23_3b a (a.terms.length : Int)) ((k : Int), o) = some (o ++ a.terms.drop k) := by
  intro n
  induction n with
  | zero =>
    intro k o hk _
    refine loopP_out ?_
    unfold m23_3b
    rw [sel2_ok, (ltI_not _ _).2 (by omega), br_false, List.drop_eq_nil_of_le (by omega), List.append_nil]
  | succ n ih =>
    intro k o hk ho
    have hkl : k < a.terms.length := by omega
    obtain ⟨q1, q2, q3⟩ := hs _ (List.getElem_mem hkl)
    rw [loopP_nxt (s' := (((k + 1 : Nat) : Int), o ++ [a.terms[k]])), ih (k + 1) _ (by omega) (by simp; omega), List.drop_eq_getElem_cons hkl]
    · simp
    · unfold m23_3b m54
      rw [sel2_ok, (ltI_iff _ _).2 (by omega), br_true, idx_get hkl, bnd_ok, ck_ok (by omega), ck_ok (by omega), ck_ok (by omega), bnd_ok, ck_ok (by omega), wsucc hkl (by omega)]
theorem pushV (a : Policy) (hl : a.terms.length ≤ 1048576) (hs : ∀ t ∈ a.terms, t.ranges.length ≤ 1048576 ∧ t.path.length ≤ 1048576 ∧ t.acts.length ≤ 1048576) : ∀ (n k : Nat) (o : List Term), n + k = a.terms.length → o.length ≤ k →
    loopP (m23_2b a (a.terms.length : Int)) ((k : Int), o) = some (if (a.terms.drop k).any (fun t => eqI t.verdict 1) = true then .inr () else .inl (o ++ a.terms.drop k)) := by
  intro n
  induction n with
  | zero =>
    intro k o hk _
    refine loopP_out ?_
    unfold m23_2b
    rw [sel2_ok, (ltI_not _ _).2 (by omega), br_false, List.drop_eq_nil_of_le (by omega), List.append_nil]; rfl
  | succ n ih =>
    intro k o hk ho
    have hkl : k < a.terms.length := by omega
    obtain ⟨q1, q2, q3⟩ := hs _ (List.getElem_mem hkl)
    rw [List.drop_eq_getElem_cons hkl, List.any_cons]
    cases h : eqI a.terms[k].verdict 1 with
    | true =>
      refine loopP_out ?_
      unfold m23_2b
      rw [sel2_ok, (ltI_iff _ _).2 (by omega), br_true, idx_get hkl, bnd_ok, h]; rfl
    | false =>
      rw [loopP_nxt (s' := (((k + 1 : Nat) : Int), o ++ [a.terms[k]])), ih (k + 1) _ (by omega) (by simp; omega), Bool.false_or]
      · simp
      · unfold m23_2b m54
        rw [sel2_ok, (ltI_iff _ _).2 (by omega), br_true, idx_get hkl, bnd_ok, h, br_false, ck_ok (by omega), ck_ok (by omega), ck_ok (by omega), bnd_ok, ck_ok (by omega), wsucc hkl (by omega)]
theorem p56 (l : List Term) (hl : l.length ≤ 1048576) (hs : ∀ t ∈ l, t.ranges.length ≤ 1048576 ∧ t.path.length ≤ 1048576 ∧ t.acts.length ≤ 1048576) : m56 l = some l := by
  have key : ∀ (n k : Nat) (o : List Term), n + k = l.length → o.length ≤ k → loopP (m56_1b l (l.length : Int)) ((k : Int), o) = some (o ++ l.drop k) := by
    intro n
    induction n with
    | zero =>
      intro k o hk _
      refine loopP_out ?_
      unfold m56_1b
      rw [sel2_ok, (ltI_not _ _).2 (by omega), br_false, List.drop_eq_nil_of_le (by omega), List.append_nil]
    | succ n ih =>
      intro k o hk ho
      have hkl : k < l.length := by omega
      obtain ⟨q1, q2, q3⟩ := hs _ (List.getElem_mem hkl)
      rw [loopP_nxt (s' := (((k + 1 : Nat) : Int), o ++ [l[k]])), ih (k + 1) _ (by omega) (by simp; omega), List.drop_eq_getElem_cons hkl]
      · simp
      · unfold m56_1b m99 m100 m101
        rw [sel2_ok, (ltI_iff _ _).2 (by omega), br_true, idx_get hkl, bnd_ok, ck_ok (by omega), bnd_ok, ck_ok (by omega), bnd_ok, ck_ok (by omega), bnd_ok, ck_ok (by omega), wsucc hkl (by omega)]
  have := key l.length 0 [] (by omega) (by simp)
  rw [show ((0 : Nat) : Int) = 0 from rfl, List.drop_zero, List.nil_append] at this
  unfold m56
  rw [this]; rfl
theorem same (a b : Policy) (sa : smPolicy a) (sb : smPolicy b) : ∃ x y, m23 a b = some (x, y) ∧ m24 a b = some (x, y) ∧ smPolicy x := by
  obtain ⟨al, at_⟩ := sm_terms sa
  obtain ⟨bl, bt⟩ := sm_terms sb
  have nil_sm : smPolicy ⟨[], false⟩ := ⟨⟨by simp, by simp⟩, trivial⟩
  have e1 : m24_1 a b = m23_1 a b := by
    unfold m24_1 m23_1
    rw [p14 a sa, p14 b sb, p16 a sa, p16 b sb]
  unfold m23 m24
  rw [e1]
  unfold m23_1
  rw [p14 a sa, bnd_ok]
  cases okPol a with
  | false => exact ⟨_, _, rfl, rfl, nil_sm⟩
  | true =>
    rw [br_true, p14 b sb, bnd_ok]
    cases okPol b with
    | false => exact ⟨_, _, rfl, rfl, nil_sm⟩
    | true =>
      rw [br_true]
      cases a.accept with
      | false => exact ⟨_, _, rfl, rfl, nil_sm⟩
      | true =>
        rw [br_true, bnd_ok]
        cases hlt : ltI 8 (wadd .i64 (a.terms.length : Int) (b.terms.length : Int)) with
        | true => exact ⟨_, _, rfl, rfl, nil_sm⟩
        | false =>
          rw [wadd64 (by omega) (by omega)] at hlt
          have h8 := (ltI_not _ _).1 hlt
          have e2 := pushV a al at_ a.terms.length 0 [] (by omega) (by simp)
          rw [show ((0 : Nat) : Int) = 0 from rfl, List.drop_zero, List.nil_append] at e2
          rw [br_false, bnd_ok, br_false, e2, bnd_ok, p44 a.terms al (fun y0 => m55 y0) (fun t => eqI t.verdict 1) (fun x _ => rfl), bnd_ok]
          cases a.terms.any fun t => eqI t.verdict 1 with
          | true => exact ⟨_, _, rfl, rfl, nil_sm⟩
          | false =>
            have e3 := pushS b bl bt a.terms (by omega) b.terms.length 0 a.terms (by omega) (by omega)
            rw [show ((0 : Nat) : Int) = 0 from rfl, List.drop_zero] at e3
            rw [if_neg (by simp), selS_inl, e3, bnd_ok, br_false, p56 a.terms al at_, p56 b.terms bl bt, bnd_ok, bnd_ok, ck_ok (by omega)]
            refine ⟨_, _, rfl, rfl, ⟨by simp; omega, fun t ht => ?_⟩, trivial⟩
            rcases List.mem_append.1 ht with h | h
            · exact sa.1.2 t h
            · exact sb.1.2 t h
theorem law (a b : Policy) (wa : wfPolicy a) (wb : wfPolicy b) : m6 a b = some true := by
  unfold m6
  obtain ⟨v, hv, v1, v2, hs⟩ := z13 a 1048576 wa (by omega) (by omega)
  rw [hv, bnd_ok]
  by_cases c0 : v < 0
  · rw [(ltI_iff _ _).2 c0, br_true]
  rw [(ltI_not _ _).2 (by omega), br_false]
  obtain ⟨u, hu, u1, u2, hs2⟩ := z13 b v wb (by omega) (by omega)
  rw [hu, bnd_ok]
  by_cases c1 : u < 0
  · rw [(ltI_iff _ _).2 c1, br_true]
  rw [(ltI_not _ _).2 (by omega), br_false]
  have sa := hs (by omega)
  have sb := hs2 (by omega)
  obtain ⟨x, y, e1, e2, sx⟩ := same a b sa sb
  obtain ⟨k1, ya, f1, f2, f3, f4, _⟩ := k25 a 1 sa (by omega) (by omega)
  obtain ⟨k2, yb, g1, g2, g3, g4, _⟩ := k25 b k1 sb (by omega) (by omega)
  obtain ⟨k3, yc, h1, h2, h3, h4, h5⟩ := k25 x 1 sx (by omega) (by omega)
  simp only [t15 a sa, t15 b sb, bnd_ok, e1, e2, sel2_ok, m6_1, m6_2, m6_3, q17 x sx, br_true, eqB_self, Bool.not_true, br_false, q17 a sa, q17 b sb, f1, ck_ok f2, g1, ck_ok g2, (ltI_not k2 0).2 (by omega), h1, ck_ok h2, h5, (ltI_not k3 0).2 (by omega), eqI_self]
end Go.Pi.Ythidbgihjhkjaaa.ThenPolicy
