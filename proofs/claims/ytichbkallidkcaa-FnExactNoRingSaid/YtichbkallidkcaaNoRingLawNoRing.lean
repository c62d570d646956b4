/- What functions of the program answer, and that the law answers true at every input; no condition -/
import Derived.Test.YtichbkallidkcaaNoRingStdNoRing
set_option linter.all false
/- NoRing: the program answers as the reference does. -/
namespace Go.Pi.Ytichbkallidkcaa.NoRing
open Go Go.Pi
set_option linter.all false
/-! ### What one is to another -/
def kd (a b : Int) : List Rel → Int
  | [] => 0
  | r :: t => if r.a = a ∧ r.b = b then r.kind else if r.a = b ∧ r.b = a then wsub .i64 4 r.kind else kd a b t
def kdF (a b : Int) (r : Rel) : Option Int := if r.a = a ∧ r.b = b then some r.kind else if r.a = b ∧ r.b = a then some (wsub .i64 4 r.kind) else none
theorem kd_find (a b : Int) (l : List Rel) : kd a b l = (l.findSome? (kdF a b)).getD 0 := by
  induction l with
  | nil => rfl
  | cons r t ih =>
    simp only [kd, List.findSome?_cons, kdF]
    split
    · rfl
    · split
      · rfl
      · exact ih
theorem kdBody (a b : Int) (x : Rel) : m46_4 a b x = some (decide (x.a = a ∧ x.b = b)) ∧ m46_5 a b x = some (decide (x.a = b ∧ x.b = a)) := by
  simp only [m46_4, m46_5, br_ite, eqI_iff]
  constructor
  · by_cases h : x.a = a
    · rw [if_pos h]; simp [h, eqI]
    · rw [if_neg h]; simp [h]
  · by_cases h : x.a = b
    · rw [if_pos h]; simp [h, eqI]
    · rw [if_neg h]; simp [h]
theorem loopK (a b : Int) (l : List Rel) (hl : l.length ≤ 1000) {body : Int → Option (Ctl Int (Unit ⊕ Int))}
    (hb : ∀ s, body s = m46_1b a b l (l.length : Int) s) : loopP body 0 = some (match l.findSome? (kdF a b) with | none => .inl () | some k => .inr k) := by
  have := loop_find (body := body) l (fun r => (kdF a b r).map .inr) (.inl ()) (fun k h => by
    obtain ⟨e1, e2⟩ := kdBody a b l[k]
    simp only [hb, m46_1b, (ltI_iff (k : Int) (l.length : Int)).2 (by omega), br_true, idx_get h, bnd_ok, e1, e2, kdF, wsucc h (by omega)]
    by_cases c1 : l[k].a = a ∧ l[k].b = b
    · rw [if_pos c1, decide_eq_true c1]; rfl
    · rw [if_neg c1, decide_eq_false c1, br_false]
      by_cases c2 : l[k].a = b ∧ l[k].b = a
      · rw [if_pos c2, decide_eq_true c2]; rfl
      · rw [if_neg c2, decide_eq_false c2]; rfl) (by simp only [hb, m46_1b, (ltI_not (l.length : Int) (l.length : Int)).2 (by omega), br_false])
  rw [this]
  congr 1
  clear this hb hl
  induction l with
  | nil => rfl
  | cons r t ih =>
    simp only [List.findSome?_cons]
    cases kdF a b r with
    | none => exact ih
    | some k => rfl
theorem p46 (l : List Rel) (a b : Int) (hl : l.length ≤ 1000) : m46 l a b = some (kd a b l) := by
  unfold m46
  rw [loopK (body := m46_1b a b l (l.length : Int)) a b l hl (fun s => rfl), bnd_ok, kd_find]
  cases l.findSome? (kdF a b) <;> rfl
theorem p45 (l : List Rel) (a b : Int) (hl : l.length ≤ 1000) : m45 l a b = some (kd a b l) := by
  unfold m45
  rw [loopK (body := m45_1b a b l (l.length : Int)) a b l hl (fun s => rfl), bnd_ok, kd_find]
  cases l.findSome? (kdF a b) <;> rfl
theorem p47 (l : List Int) (x : Int) (hl : l.length ≤ 1000) : m47 l x = some (l.any fun y => eqI y x) := by
  unfold m47
  have := loop_find (body := m47_1b x l (l.length : Int)) l (fun y => if eqI y x = true then some (.inr ()) else none) (.inl ()) (fun k h => by
    simp only [m47_1b, (ltI_iff (k : Int) (l.length : Int)).2 (by omega), br_true, idx_get h, bnd_ok, wsucc h (by omega)]
    cases eqI l[k] x <;> rfl) (by simp only [m47_1b, (ltI_not (l.length : Int) (l.length : Int)).2 (by omega), br_false])
  rw [this, bnd_ok]
  clear this hl
  induction l with
  | nil => rfl
  | cons y t ih =>
    simp only [List.findSome?_cons, List.any_cons]
    cases eqI y x with
    | true => rfl
    | false => simpa using ih
/-! ### Good relations -/
def okR (n : Int) (prev : List Rel) (r : Rel) : Bool := decide (0 ≤ r.a ∧ r.a < r.b ∧ r.b ≤ n ∧ 1 ≤ r.kind ∧ r.kind ≤ 3) && !(prev.any fun o => decide (o.a = r.a ∧ o.b = r.b))
def goodB (n : Int) (l : List Rel) : Bool := decide (1 ≤ n ∧ n ≤ 5 ∧ l.length ≤ 15) && allN l.length (fun k => atB l (okR n (l.take k)) k)
theorem p41 (a x y : Int) : m41 a x y = some (decide (x ≤ a ∧ a ≤ y)) := by
  simp only [m41, m41_1, bnd_ok, br_bool]
  rw [Option.some.injEq, Bool.eq_iff_iff, decide_eq_true_eq]
  simp only [Bool.and_eq_true, Bool.or_eq_true, Bool.not_eq_true', leI_iff, ltI_iff, leI_not, and_false, or_false, Bool.false_eq_true]
theorem p39 (a x y : Int) : m39 a x y = some (decide (x ≤ a ∧ a ≤ y)) := p41 a x y
theorem p43 (o r : Rel) : m43 o r = some (decide (o.a = r.a ∧ o.b = r.b)) := by
  simp only [m43, m43_1, bnd_ok, br_bool]
  rw [Option.some.injEq, Bool.eq_iff_iff, decide_eq_true_eq]
  simp only [Bool.and_eq_true, Bool.or_eq_true, Bool.not_eq_true', eqI_iff, eqI_not, and_false, or_false, Bool.false_eq_true]
  exact ⟨fun h => ⟨h.1.symm, h.2.symm⟩, fun h => ⟨h.1.symm, h.2.symm⟩⟩
theorem p42 (l : List Rel) (r : Rel) (hl : l.length ≤ 1000) : m42 l (fun y0 => m43 y0 r) = some (l.any fun o => decide (o.a = r.a ∧ o.b = r.b)) := by
  simp only [m42, m70, indexFunc (body := m70_1b l (l.length : Int) (fun y0 => m43 y0 r)) (f := fun y0 => m43 y0 r) l (fun o => decide (o.a = r.a ∧ o.b = r.b)) (fun x _ => p43 x r) (by omega) (fun s => rfl), bnd_ok, containsFunc]
theorem p14_4 (n : Int) (l : List Rel) (k : Nat) (x : Rel) (hk : k ≤ l.length) (hl : l.length ≤ 1000) (hx2 : x.b ≤ 9223372036854775807) : m14_4 n l (k : Int) x = some (!okR n (l.take k) x) := by
  have hc : 0 ≤ (k : Int) ∧ (k : Int) ≤ (l.length : Int) := by omega
  simp only [m14_4, p41, bnd_ok, ck_ok hc, Int.toNat_natCast, p42 (l.take k) x (by rw [List.length_take]; omega), okR]
  by_cases c1 : 1 ≤ x.b ∧ x.b ≤ n
  · have ew : wsub .i64 x.b 1 = x.b - 1 := wsub64 (by omega) (by omega)
    rw [decide_eq_true c1, br_true, ew]
    by_cases c2 : 0 ≤ x.a ∧ x.a ≤ x.b - 1
    · rw [decide_eq_true c2, br_true]
      by_cases c3 : 1 ≤ x.kind ∧ x.kind ≤ 3
      · rw [decide_eq_true c3, br_true, decide_eq_true (by omega), Bool.true_and, Bool.not_not]
      · rw [decide_eq_false c3, br_false, decide_eq_false (by omega)]; rfl
    · rw [decide_eq_false c2, br_false, decide_eq_false (by omega)]; rfl
  · rw [decide_eq_false c1, br_false, decide_eq_false (by omega)]; rfl
theorem p14 (n : Int) (l : List Rel) (hl : l.length ≤ 1000) (hw : ∀ r ∈ l, r.b ≤ 9223372036854775807) : m14 n l = some (goodB n l) := by
  have h := loop_all (body := m14_2b n l (l.length : Int)) l.length (fun k => atB l (okR n (l.take k)) k) (.inl ()) (.inr ()) (fun k h => by
    simp only [m14_2b, (ltI_iff (k : Int) (l.length : Int)).2 (by omega), br_true, idx_get h, bnd_ok, p14_4 n l k l[k] (by omega) hl (hw _ (List.getElem_mem h)), wsucc h (by omega), atB_get h]
    cases okR n (l.take k) l[k] <;> rfl) (by simp only [m14_2b, (ltI_not (l.length : Int) (l.length : Int)).2 (by omega), br_false])
  simp only [m14, m14_1, p41, bnd_ok, goodB, h]
  by_cases c1 : 1 ≤ n ∧ n ≤ 5
  · rw [decide_eq_true c1, br_true, bnd_ok]
    by_cases c2 : l.length ≤ 15
    · rw [(ltI_not _ _).2 (by omega), br_false, decide_eq_true ⟨c1.1, c1.2, c2⟩, Bool.true_and]
      cases allN l.length (fun k => atB l (okR n (l.take k)) k) <;> rfl
    · rw [(ltI_iff _ _).2 (by omega), br_true, decide_eq_false (by omega)]; rfl
  · rw [decide_eq_false c1, br_false, bnd_ok, br_true, decide_eq_false (by omega)]; rfl
theorem p12_7 (n : Int) (x : Rel) : m12_7 n x = some (!decide (0 ≤ x.a ∧ x.a < x.b ∧ x.b ≤ n ∧ 1 ≤ x.kind ∧ x.kind ≤ 3)) := by
  simp only [m12_7, p39, bnd_ok, br_bool]
  rw [Option.some.injEq, Bool.eq_iff_iff]
  simp only [Bool.and_eq_true, Bool.or_eq_true, Bool.not_eq_true', decide_eq_false_iff_not, leI_iff, ltI_iff, leI_not, ltI_not, true_and, and_true, true_or, or_true]
  omega
theorem find_any {α : Type} (p : α → Bool) (xs : List α) : (xs.findSome? (fun o => if p o = true then some (Sum.inr () : Unit ⊕ Unit) else none)).getD (.inl ()) = if xs.any p = true then .inr () else .inl () := by
  induction xs with
  | nil => rfl
  | cons y t ih => cases h : p y <;> simp [List.findSome?_cons, h, ih]
theorem p12_8 (p : List Rel) (x : Rel) (hl : p.length ≤ 1000) : loopP (m12_8b p (p.length : Int) x) 0 = some (if (p.any fun o => decide (o.a = x.a ∧ o.b = x.b)) = true then .inr () else .inl ()) := by
  have := loop_find (body := m12_8b p (p.length : Int) x) p (fun o => if decide (o.a = x.a ∧ o.b = x.b) = true then some (.inr ()) else none) (.inl ()) (fun k h => by
    have e : m12_10 x p[k] = some (decide (p[k].a = x.a ∧ p[k].b = x.b)) := by
      simp only [m12_10, br_bool]
      rw [Option.some.injEq, Bool.eq_iff_iff, decide_eq_true_eq]
      simp only [Bool.and_eq_true, Bool.or_eq_true, Bool.not_eq_true', eqI_iff, eqI_not, and_false, or_false, Bool.false_eq_true]
    simp only [m12_8b, (ltI_iff (k : Int) (p.length : Int)).2 (by omega), br_true, idx_get h, bnd_ok, e, wsucc h (by omega)]
    cases decide (p[k].a = x.a ∧ p[k].b = x.b) <;> rfl) (by simp only [m12_8b, (ltI_not (p.length : Int) (p.length : Int)).2 (by omega), br_false])
  rw [this]
  exact congrArg some (find_any (fun o => decide (o.a = x.a ∧ o.b = x.b)) p)
theorem p12 (n : Int) (l : List Rel) (hl : l.length ≤ 1000) : m12 n l = some (goodB n l) := by
  have h := loop_all (body := m12_2b n l (l.length : Int)) l.length (fun k => atB l (okR n (l.take k)) k) (.inl ()) (.inr ()) (fun k h => by
    have hc : 0 ≤ (k : Int) ∧ (k : Int) ≤ (l.length : Int) := by omega
    simp only [m12_2b, (ltI_iff (k : Int) (l.length : Int)).2 (by omega), br_true, idx_get h, bnd_ok, p12_7, ck_ok hc, Int.toNat_natCast, p12_8 (l.take k) l[k] (by rw [List.length_take]; omega), wsucc h (by omega), atB_get h, okR]
    cases decide (0 ≤ l[k].a ∧ l[k].a < l[k].b ∧ l[k].b ≤ n ∧ 1 ≤ l[k].kind ∧ l[k].kind ≤ 3) with
    | false => rfl
    | true => cases ((l.take k).any fun o => decide (o.a = l[k].a ∧ o.b = l[k].b)) <;> rfl) (by simp only [m12_2b, (ltI_not (l.length : Int) (l.length : Int)).2 (by omega), br_false])
  simp only [m12, m12_1, p39, bnd_ok, goodB, h]
  by_cases c1 : 1 ≤ n ∧ n ≤ 5
  · rw [decide_eq_true c1, br_true, bnd_ok]
    by_cases c2 : l.length ≤ 15
    · rw [(ltI_not _ _).2 (by omega), br_false, decide_eq_true ⟨c1.1, c1.2, c2⟩, Bool.true_and]
      cases allN l.length (fun k => atB l (okR n (l.take k)) k) <;> rfl
    · rw [(ltI_iff _ _).2 (by omega), br_true, decide_eq_false (by omega)]; rfl
  · rw [decide_eq_false c1, br_false, bnd_ok, br_true, decide_eq_false (by omega)]; rfl
/-- Of good relations: each is between two unlike ones, of one of three kinds. -/
def Rels (l : List Rel) : Prop := ∀ r ∈ l, r.a < r.b ∧ 1 ≤ r.kind ∧ r.kind ≤ 3
theorem good_rels {n : Int} {l : List Rel} (h : goodB n l = true) : Rels l := by
  simp only [goodB, Bool.and_eq_true, allN_iff] at h
  intro r hr
  obtain ⟨k, hk, rfl⟩ := List.getElem_of_mem hr
  have := h.2 k hk
  rw [atB_get hk] at this
  simp only [okR, Bool.and_eq_true, decide_eq_true_eq] at this
  omega
theorem kd_range {l : List Rel} (h : Rels l) (a b : Int) : 0 ≤ kd a b l ∧ kd a b l ≤ 3 := by
  induction l with
  | nil => simp [kd]
  | cons r t ih =>
    have hr := h r (by simp)
    have := ih (fun x hx => h x (by simp [hx]))
    have e : wsub .i64 4 r.kind = 4 - r.kind := wsub64 (by omega) (by omega)
    simp only [kd, e]
    split
    · omega
    · split <;> omega
theorem kd_symm {l : List Rel} (h : Rels l) (a b : Int) : (kd a b l = 0 ∧ kd b a l = 0) ∨ (kd a b l ≠ 0 ∧ kd b a l = 4 - kd a b l) := by
  induction l with
  | nil => simp [kd]
  | cons r t ih =>
    have hr := h r (by simp)
    have := ih (fun x hx => h x (by simp [hx]))
    have e : wsub .i64 4 r.kind = 4 - r.kind := wsub64 (by omega) (by omega)
    simp only [kd, e]
    by_cases c1 : r.a = a ∧ r.b = b
    · rw [if_pos c1, if_neg (by omega), if_pos c1]; omega
    · rw [if_neg c1]
      by_cases c2 : r.a = b ∧ r.b = a
      · rw [if_pos c2, if_pos c2]; omega
      · rw [if_neg c2, if_neg c2, if_neg c1]; exact this
/-! ### Ways -/
inductive Tr (E : Int → Int → Prop) : Int → Int → Prop
  | one {a b : Int} (h : E a b) : Tr E a b
  | step {a b c : Int} (h : Tr E a b) (k : E b c) : Tr E a c
theorem Tr.cons {E : Int → Int → Prop} {a b c : Int} (h : E a b) (k : Tr E b c) : Tr E a c := by
  induction k with
  | one k => exact .step (.one h) k
  | step _ k ih => exact .step ih k
theorem Tr.trans {E : Int → Int → Prop} {a b c : Int} (h : Tr E a b) (k : Tr E b c) : Tr E a c := by
  induction k with
  | one k => exact .step h k
  | step _ k ih => exact .step ih k
theorem Tr.head {E : Int → Int → Prop} {a c : Int} (h : Tr E a c) : E a c ∨ ∃ b, E a b ∧ Tr E b c := by
  induction h with
  | one h => exact .inl h
  | step _ k ih =>
    rcases ih with ih | ⟨b, h1, h2⟩
    · exact .inr ⟨_, ih, .one k⟩
    · exact .inr ⟨b, h1, .step h2 k⟩
theorem Tr.next {E : Int → Int → Prop} {a : Int} (h : Tr E a a) : ∃ b, E a b ∧ Tr E b b := by
  rcases h.head with h | ⟨b, h1, h2⟩
  · exact ⟨a, h, .one h⟩
  · exact ⟨b, h1, .step h2 h1⟩
open Classical in
/-- Where each one of some has one of them behind it, one comes back to itself. -/
theorem ring_of {E : Int → Int → Prop} : ∀ (n : Nat) (L : List Int), L.length ≤ n → L ≠ [] → (∀ a ∈ L, ∃ b ∈ L, E a b) → ∃ x ∈ L, Tr E x x := by
  intro n
  induction n with
  | zero => intro L hl hn; exact absurd (List.eq_nil_of_length_eq_zero (by omega)) hn
  | succ n ih =>
    intro L hl hn hs
    cases L with
    | nil => exact absurd rfl hn
    | cons a r =>
      by_cases ha : Tr E a a
      · exact ⟨a, by simp, ha⟩
      · have hsub : ∀ x, x ∈ (a :: r).filter (fun y => decide (Tr E a y)) ↔ x ∈ a :: r ∧ Tr E a x := by intro x; rw [List.mem_filter, decide_eq_true_eq]
        have hlen : ((a :: r).filter (fun y => decide (Tr E a y))).length ≤ n := by
          rw [List.filter_cons, if_neg (by simpa using ha)]
          have := List.length_filter_le (fun y => decide (Tr E a y)) r
          simp at hl; omega
        obtain ⟨b, hb, hab⟩ := hs a (by simp)
        obtain ⟨x, hx, ht⟩ := ih _ hlen (List.ne_nil_of_mem ((hsub b).2 ⟨hb, .one hab⟩)) (fun y hy => by
          obtain ⟨hy1, hy2⟩ := (hsub y).1 hy
          obtain ⟨z, hz1, hz2⟩ := hs y hy1
          exact ⟨z, (hsub z).2 ⟨hz1, .step hy2 hz2⟩, hz2⟩)
        exact ⟨x, ((hsub x).1 hx).1, ht⟩
def Ed (l : List Rel) (N a b : Int) : Prop := kd a b l = 1 ∧ 0 ≤ b ∧ b ≤ N
/-! ### How many have not been seen -/
def mu (N : Int) (seen : List Int) : Nat := ((List.range (N.toNat + 1)).filter (fun k : Nat => decide (¬ (k : Int) ∈ seen))).length
theorem filter_less {α : Type} (p q : α → Bool) (hpq : ∀ x, q x = true → p x = true) {k : α} (hp : p k = true) (hq : q k = false) : ∀ U : List α, k ∈ U → (U.filter q).length + 1 ≤ (U.filter p).length := by
  have le : ∀ U : List α, (U.filter q).length ≤ (U.filter p).length := by
    intro U
    induction U with
    | nil => simp
    | cons x r ih =>
      rw [List.filter_cons, List.filter_cons]
      by_cases h : q x = true
      · rw [if_pos h, if_pos (hpq x h)]; simpa using ih
      · rw [if_neg h]
        split
        · simp only [List.length_cons]; omega
        · exact ih
  intro U
  induction U with
  | nil => intro h; cases h
  | cons x r ih =>
    intro h
    rw [List.filter_cons, List.filter_cons]
    rcases List.mem_cons.1 h with rfl | h
    · rw [if_neg (by simp [hq]), if_pos hp]; have := le r; simp; omega
    · have := ih h
      by_cases hx : q x = true
      · rw [if_pos hx, if_pos (hpq x hx)]; simp; omega
      · rw [if_neg hx]
        split
        · simp only [List.length_cons]; omega
        · exact this
theorem mu_add {N k : Int} {seen : List Int} (h0 : 0 ≤ k) (h1 : k ≤ N) (h : ¬ k ∈ seen) : mu N (seen ++ [k]) + 1 ≤ mu N seen := by
  obtain ⟨n, rfl⟩ := Int.eq_ofNat_of_zero_le h0
  unfold mu
  refine filter_less (fun k : Nat => decide (¬ (k : Int) ∈ seen)) (fun k : Nat => decide (¬ (k : Int) ∈ seen ++ [(n : Int)])) (fun x hx => ?_) (k := n) (decide_eq_true h) (by simp) _ (List.mem_range.2 (by omega))
  simp only [decide_eq_true_eq, List.mem_append, not_or] at hx ⊢
  exact hx.1
theorem mu_le (N : Int) (seen : List Int) : mu N seen ≤ N.toNat + 1 := by
  have := List.length_filter_le (fun k : Nat => decide (¬ (k : Int) ∈ seen)) (List.range (N.toNat + 1))
  rw [List.length_range] at this
  exact this
/-! ### The reference -/
structure Base (E : Int → Int → Prop) (N s : Int) (seen : List Int) : Prop where
  mem : s ∈ seen
  rng : ∀ x ∈ seen, 0 ≤ x ∧ x ≤ N
  tr : ∀ x ∈ seen, x = s ∨ Tr E s x
  cnt : seen.length + mu N seen ≤ 20
theorem inner (l : List Rel) (hl : l.length ≤ 1000) (N s : Int) (hN : N ≤ 5) (i : Nat) (x : Int) (hx : x = s ∨ Tr (Ed l N) s x) : ∀ (n : Nat) (k : Int) (seen : List Int), (n : Int) = N + 1 - k → 0 ≤ k → (h : i < seen.length) → seen[i] = x → Base (Ed l N) N s seen → (∀ k', 0 ≤ k' → k' < k → kd x k' l = 1 → k' ∈ seen ∧ k' ≠ s) →
    ∃ o, loopP (m20_19b N l s (i : Int)) (k, seen) = some o ∧ match o with
      | .inl seen' => (∃ ext, seen' = seen ++ ext) ∧ Base (Ed l N) N s seen' ∧ (∀ k', Ed l N x k' → k' ∈ seen' ∧ k' ≠ s) ∧ seen'.length + mu N seen' ≤ seen.length + mu N seen
      | .inr () => Tr (Ed l N) s s := by
  intro n
  induction n with
  | zero =>
    intro k seen hn h0 h he hb hk
    refine ⟨.inl seen, loopP_out (by simp only [m20_19b, sel2, (leI_not k N).2 (by omega), br_false]), ⟨[], by simp⟩, hb, fun k' hk' => hk k' hk'.2.1 (by have := hk'.2.2; omega) hk'.1, Nat.le_refl _⟩
  | succ n ih =>
    intro k seen hn h0 h he hb hk
    have hget : idx seen (i : Int) = some x := by rw [idx_get h, he]
    have hlen := hb.cnt
    have ek : wadd .i64 k 1 = k + 1 := wadd64 (by omega) (by omega)
    by_cases c1 : kd x k l = 1
    · by_cases c2 : k = s
      · subst c2
        refine ⟨.inr (), loopP_out ?_, ?_⟩
        · simp only [m20_19b, sel2, (leI_iff k N).2 (by omega), br_true, m20_22, hget, bnd_ok, p45 l _ _ hl, (eqI_iff _ _).2 c1, eqI_self, selS_inr]
        · rcases hx with rfl | hx
          · exact .one ⟨c1, by omega, by omega⟩
          · exact .step hx ⟨c1, by omega, by omega⟩
      · by_cases c3 : k ∈ seen
        · have e47 : m47 seen k = some true := by rw [p47 seen k (by omega), Option.some.injEq]; exact List.any_eq_true.2 ⟨k, c3, eqI_self k⟩
          obtain ⟨o, o1, o2⟩ := ih (k + 1) seen (by omega) (by omega) h he hb (fun k' h1 h2 h3 => by
            by_cases hkk : k' = k
            · subst hkk; exact ⟨c3, c2⟩
            · exact hk k' h1 (by omega) h3)
          refine ⟨o, ?_, o2⟩
          rw [← o1]
          refine loopP_nxt ?_
          simp only [m20_19b, sel2, (leI_iff k N).2 (by omega), br_true, m20_22, m20_23, hget, bnd_ok, p45 l _ _ hl, (eqI_iff _ _).2 c1, (eqI_not k s).2 c2, br_false, e47, Bool.not_true, selS_inl, ek]
        · have e47 : m47 seen k = some false := by
            rw [p47 seen k (by omega), Option.some.injEq]
            cases hq : seen.any fun y => eqI y k with
            | false => rfl
            | true => obtain ⟨y, hy, hyk⟩ := List.any_eq_true.1 hq; rw [(eqI_iff _ _).1 hyk] at hy; exact absurd hy c3
          have hmu := mu_add (N := N) h0 (by omega) c3
          have hb' : Base (Ed l N) N s (seen ++ [k]) := by
            refine ⟨by simp [hb.mem], fun y hy => ?_, fun y hy => ?_, by simp; omega⟩
            · rcases List.mem_append.1 hy with hy | hy
              · exact hb.rng y hy
              · simp at hy; omega
            · rcases List.mem_append.1 hy with hy | hy
              · exact hb.tr y hy
              · simp at hy; subst hy
                right
                rcases hx with rfl | hx
                · exact .one ⟨c1, by omega, by omega⟩
                · exact .step hx ⟨c1, by omega, by omega⟩
          obtain ⟨o, o1, o2⟩ := ih (k + 1) (seen ++ [k]) (by omega) (by omega) (by simp; omega) (by rw [List.getElem_append_left h]; exact he) hb' (fun k' h1 h2 h3 => by
            by_cases hkk : k' = k
            · subst hkk; exact ⟨by simp, c2⟩
            · have := hk k' h1 (by omega) h3; exact ⟨by simp [this.1], this.2⟩)
          refine ⟨o, ?_, ?_⟩
          · rw [← o1]
            refine loopP_nxt ?_
            simp only [m20_19b, sel2, (leI_iff k N).2 (by omega), br_true, m20_22, m20_23, hget, bnd_ok, p45 l _ _ hl, (eqI_iff _ _).2 c1, (eqI_not k s).2 c2, br_false, e47, Bool.not_false, selS_inl, ek, ck_ok (show seen.length + 1 ≤ 4294967296 by omega)]
          · cases o with
            | inr u => exact o2
            | inl seen' =>
              obtain ⟨⟨ext, e⟩, q1, q2, q3⟩ := o2
              exact ⟨⟨[k] ++ ext, by rw [e, List.append_assoc]⟩, q1, q2, by simp at q3; omega⟩
    · obtain ⟨o, o1, o2⟩ := ih (k + 1) seen (by omega) (by omega) h he hb (fun k' h1 h2 h3 => by
        by_cases hkk : k' = k
        · subst hkk; exact absurd h3 c1
        · exact hk k' h1 (by omega) h3)
      refine ⟨o, ?_, o2⟩
      rw [← o1]
      refine loopP_nxt ?_
      simp only [m20_19b, sel2, (leI_iff k N).2 (by omega), br_true, m20_22, hget, bnd_ok, p45 l _ _ hl, (eqI_not _ _).2 c1, br_false, selS_inl, ek]
theorem outer (l : List Rel) (hl : l.length ≤ 1000) (N s : Int) (hN : N ≤ 5) (hs : 0 ≤ s ∧ s ≤ N) : ∃ b, loopP (m20_13b N l s) (0, [s]) = some b ∧ match b with
    | .inl () => ¬ Tr (Ed l N) s s
    | .inr () => Tr (Ed l N) s s := by
  refine loopP_inv (body := m20_13b N l s) (fun p => ∃ i : Nat, p.1 = (i : Int) ∧ i ≤ p.2.length ∧ Base (Ed l N) N s p.2 ∧ ∀ (j : Nat) (hj : j < i) (hj' : j < p.2.length) k, Ed l N p.2[j] k → k ∈ p.2 ∧ k ≠ s) (fun b => match b with
    | .inl () => ¬ Tr (Ed l N) s s
    | .inr () => Tr (Ed l N) s s) (fun p => 2 * mu N p.2 + (p.2.length - p.1.toNat)) ?_ (0, [s]) ⟨0, rfl, by simp, ⟨by simp, by simp; omega, by simp, by have := mu_le N [s]; simp; omega⟩, fun j hj => by omega⟩
  rintro ⟨a, seen⟩ ⟨i, hi, hle, hb, hc⟩
  simp only at hi hle hb hc
  subst hi
  by_cases h : i < seen.length
  · obtain ⟨o, o1, o2⟩ := inner l hl N s hN i seen[i] (hb.tr _ (List.getElem_mem h)) (N + 1).toNat 0 seen (by omega) (by omega) h rfl hb (fun k' h1 h2 => by omega)
    have hcnt := hb.cnt
    cases o with
    | inr u =>
      refine ⟨.out (.inr ()), ?_, o2⟩
      simp only [m20_13b, sel2, (ltI_iff (i : Int) (seen.length : Int)).2 (by omega), br_true, o1, bnd_ok, selS_inr]
    | inl seen' =>
      obtain ⟨⟨ext, e⟩, q1, q2, q3⟩ := o2
      have hl' : seen'.length = seen.length + ext.length := by rw [e]; simp
      refine ⟨.nxt (((i + 1 : Nat) : Int), seen'), ?_, ⟨i + 1, rfl, by simp only []; omega, q1, fun j hj hj' k hk => ?_⟩, by simp only []; omega⟩
      · simp only [m20_13b, sel2, (ltI_iff (i : Int) (seen.length : Int)).2 (by omega), br_true, o1, bnd_ok, selS_inl, wsucc h (by omega)]
      · simp only at hj' hk ⊢
        have hjs : j < seen.length := by omega
        have hg : seen'[j] = seen[j] := by subst e; exact List.getElem_append_left hjs
        rw [hg] at hk
        by_cases hji : j = i
        · subst hji; exact q2 k hk
        · have := hc j (by omega) hjs k hk
          exact ⟨by rw [e]; simp [this.1], this.2⟩
  · refine ⟨.out (.inl ()), by simp only [m20_13b, sel2, (ltI_not (i : Int) (seen.length : Int)).2 (by omega), br_false], ?_⟩
    have key : ∀ a b, Tr (Ed l N) a b → a = s → b ∈ seen ∧ b ≠ s := by
      intro a b ht
      have close : ∀ x ∈ seen, ∀ k, Ed l N x k → k ∈ seen ∧ k ≠ s := by
        intro x hx k hk
        obtain ⟨j, hj, rfl⟩ := List.getElem_of_mem hx
        exact hc j (by omega) hj k hk
      induction ht with
      | one h => intro ha; subst ha; exact close _ hb.mem _ h
      | step _ k ih => intro ha; exact close _ (ih ha).1 _ k
    intro ht
    exact (key s s ht rfl).2 rfl
theorem p20 (N : Int) (l : List Rel) (hl : l.length ≤ 1000) (hN : 0 ≤ N ∧ N ≤ 5) : ∃ b, loopP (m20_1b N l) 0 = some b ∧ match b with
    | .inl () => ∀ x, 0 ≤ x → x ≤ N → ¬ Tr (Ed l N) x x
    | .inr () => ∃ x, Tr (Ed l N) x x := by
  refine loopP_inv (body := m20_1b N l) (fun s => 0 ≤ s ∧ s ≤ N + 1 ∧ ∀ x, 0 ≤ x → x < s → ¬ Tr (Ed l N) x x) (fun b => match b with
    | .inl () => ∀ x, 0 ≤ x → x ≤ N → ¬ Tr (Ed l N) x x
    | .inr () => ∃ x, Tr (Ed l N) x x) (fun s => (N + 1 - s).toNat) ?_ 0 ⟨by omega, by omega, fun x h1 h2 => by omega⟩
  rintro s ⟨h0, h1, h2⟩
  by_cases h : s ≤ N
  · obtain ⟨b, b1, b2⟩ := outer l hl N s hN.2 ⟨h0, h⟩
    have es : wadd .i64 s 1 = s + 1 := wadd64 (by omega) (by omega)
    cases b with
    | inl u =>
      refine ⟨.nxt (s + 1), by simp only [m20_1b, (leI_iff s N).2 h, br_true, b1, bnd_ok, selS_inl, es], ⟨by omega, by omega, fun x hx1 hx2 => ?_⟩, by omega⟩
      by_cases hxs : x = s
      · subst hxs; exact b2
      · exact h2 x hx1 (by omega)
    | inr u => exact ⟨.out (.inr ()), by simp only [m20_1b, (leI_iff s N).2 h, br_true, b1, bnd_ok, selS_inr], s, b2⟩
  · exact ⟨.out (.inl ()), by simp only [m20_1b, (leI_not s N).2 (by omega), br_false], fun x hx1 hx2 => h2 x hx1 (by omega)⟩
/-! ### The program -/
theorem p71 (l : List Int) (hl : l.length ≤ 1000) (f : Int → Option Bool) (p : Int → Bool) (hf : ∀ x ∈ l, f x = some (p x)) : m71 l f = some (match findI p l with | none => (-1 : Int) | some i => (i : Int)) := by
  unfold m71
  exact indexFunc (body := m71_1b l (l.length : Int) f) (f := f) l p hf (by omega) (fun s => rfl)
theorem p51 (l : List Int) (hl : l.length ≤ 1000) (f : Int → Option Bool) (p : Int → Bool) (hf : ∀ x ∈ l, f x = some (p x)) : m51 l f = some (l.any p) := by
  unfold m51
  rw [p71 l hl f p hf, bnd_ok]
  exact congrArg some (containsFunc (p := p) (xs := l))
theorem p48 (l : List Int) (hl : l.length ≤ 1000) (f : Int → Option Bool) (p : Int → Bool) (hf : ∀ x ∈ l, f x = some (p x)) : m48 l f = some (l.filter (fun x => !p x)) := by
  unfold m48
  rw [p71 l hl f p hf, bnd_ok]
  exact deleteFunc (body := m48_1b f) p l hf (by omega) (fun i j l => rfl)
def hasNext (l : List Rel) (left : List Int) (a : Int) : Bool := left.any fun b => eqI (kd a b l) 1
theorem p50 (l : List Rel) (hl : l.length ≤ 1000) (left : List Int) (hf : left.length ≤ 1000) (a : Int) : m50 a left l = some (!hasNext l left a) := by
  simp only [m50, p51 left hf (fun y0 => m52 y0 l a) (fun b => eqI (kd a b l) 1) (fun b _ => by simp only [m52, p46 l a b hl, bnd_ok]), bnd_ok, hasNext]
theorem ups (N : Int) (hN : 0 ≤ N ∧ N ≤ 5) : ∃ b, loopP (m21_1b (N + 1)) (0, []) = some b ∧ (∀ x, x ∈ b ↔ 0 ≤ x ∧ x ≤ N) ∧ b.length ≤ 6 := by
  refine loopP_inv (body := m21_1b (N + 1)) (fun p => 0 ≤ p.1 ∧ p.1 ≤ N + 1 ∧ (∀ x, x ∈ p.2 ↔ 0 ≤ x ∧ x < p.1) ∧ (p.2.length : Int) = p.1) (fun b => (∀ x, x ∈ b ↔ 0 ≤ x ∧ x ≤ N) ∧ b.length ≤ 6) (fun p => (N + 1 - p.1).toNat) ?_ (0, []) ⟨by simp, by simp only []; omega, fun x => by (simp; try omega), rfl⟩
  rintro ⟨k, acc⟩ ⟨h0, h1, h2, h3⟩
  simp only at h0 h1 h2 h3
  by_cases h : k < N + 1
  · have ek : wadd .i64 k 1 = k + 1 := wadd64 (by omega) (by omega)
    refine ⟨.nxt (k + 1, acc ++ [k]), by simp only [m21_1b, sel2, (ltI_iff k (N + 1)).2 h, br_true, ck_ok (show acc.length + 1 ≤ 4294967296 by omega), ek], ⟨by simp only []; omega, by simp only []; omega, fun x => ?_, by simp; omega⟩, by simp only []; omega⟩
    rw [List.mem_append, h2, List.mem_singleton]
    constructor
    · rintro (h | h) <;> omega
    · intro h; omega
  · refine ⟨.out acc, by simp only [m21_1b, sel2, (ltI_not k (N + 1)).2 (by omega), br_false], fun x => ?_, by omega⟩
    rw [h2]; omega
theorem loops (N : Int) (l : List Rel) (hl : l.length ≤ 1000) (left : List Int) (h1 : ∀ x ∈ left, 0 ≤ x ∧ x ≤ N) (h2 : ∀ x, Tr (Ed l N) x x → x ∈ left) (h3 : left.length ≤ 6) :
    ∃ b, loopP (m21_2b l) left = some b ∧ (b = true ↔ ∀ x, ¬ Tr (Ed l N) x x) := by
  refine loopP_inv (body := m21_2b l) (fun left => (∀ x ∈ left, 0 ≤ x ∧ x ≤ N) ∧ (∀ x, Tr (Ed l N) x x → x ∈ left) ∧ left.length ≤ 6) (fun b => b = true ↔ ∀ x, ¬ Tr (Ed l N) x x) (fun left => left.length) ?_ left ⟨h1, h2, h3⟩
  rintro left ⟨h1, h2, h3⟩
  have e49 : m49 left = some left := by unfold m49; rw [ck_ok (by omega)]
  have e48 := p48 left (by omega) (fun y0 => m50 y0 left l) (fun a => !hasNext l left a) (fun a _ => p50 l hl left (by omega) a)
  have efil : left.filter (fun x => !!hasNext l left x) = left.filter (hasNext l left) := by congr 1; funext x; simp
  rw [efil] at e48
  have hle := List.length_filter_le (hasNext l left) left
  by_cases h : (left.filter (hasNext l left)).length = left.length
  · refine ⟨.out (eqI (left.length : Int) 0), by simp only [m21_2b, e49, e48, bnd_ok, (eqI_iff ((left.filter (hasNext l left)).length : Int) (left.length : Int)).2 (by omega), br_true], (?_ : eqI (left.length : Int) 0 = true ↔ ∀ x, ¬ Tr (Ed l N) x x)⟩
    have hall : ∀ a ∈ left, hasNext l left a = true := List.length_filter_eq_length_iff.1 h
    rw [eqI_iff]
    constructor
    · intro he x hx
      have : left = [] := List.eq_nil_of_length_eq_zero (by omega)
      have := h2 x hx
      simp_all
    · intro hno
      by_cases hn : left = []
      · subst hn; rfl
      · exfalso
        obtain ⟨x, hx, ht⟩ := ring_of (E := Ed l N) left.length left (Nat.le_refl _) hn (fun a ha => by
          obtain ⟨b, hb, hk⟩ := List.any_eq_true.1 (hall a ha)
          exact ⟨b, hb, (eqI_iff _ _).1 hk, (h1 b hb).1, (h1 b hb).2⟩)
        exact hno x ht
  · refine ⟨.nxt (left.filter (hasNext l left)), by simp only [m21_2b, e49, e48, bnd_ok, (eqI_not ((left.filter (hasNext l left)).length : Int) (left.length : Int)).2 (by omega), br_false], ⟨fun x hx => h1 x (List.mem_filter.1 hx).1, fun x hx => ?_, by omega⟩, by omega⟩
    obtain ⟨y, hy1, hy2⟩ := hx.next
    exact List.mem_filter.2 ⟨h2 x hx, List.any_eq_true.2 ⟨y, h2 y hy2, (eqI_iff _ _).2 hy1.1⟩⟩
theorem tr_rng {l : List Rel} {N a b : Int} (h : Tr (Ed l N) a b) : 0 ≤ b ∧ b ≤ N := by
  cases h with
  | one h => exact h.2
  | step _ h => exact h.2
theorem same (N : Int) (l : List Rel) (hl : l.length ≤ 1000) (hw : ∀ r ∈ l, r.b ≤ 9223372036854775807) : ∃ x y, m20 N l = some (x, y) ∧ m21 N l = some (x, y) := by
  unfold m20 m21
  rw [p12 N l hl, p14 N l hl hw, bnd_ok, bnd_ok]
  cases hg : goodB N l with
  | false => exact ⟨_, _, rfl, rfl⟩
  | true =>
    have hN : 0 ≤ N ∧ N ≤ 5 := by
      simp only [goodB, Bool.and_eq_true, decide_eq_true_eq] at hg; omega
    obtain ⟨b, b1, b2⟩ := p20 N l hl hN
    have ew : wadd .i64 N 1 = N + 1 := wadd64 (by omega) (by omega)
    obtain ⟨left, l1, l2, l3⟩ := ups N hN
    obtain ⟨c, c1, c2⟩ := loops N l hl left (fun x hx => (l2 x).1 hx) (fun x hx => (l2 x).2 (tr_rng hx)) l3
    rw [br_true, br_true, b1, ew, l1, bnd_ok, bnd_ok, c1, bnd_ok]
    cases b with
    | inl u =>
      have : c = true := c2.2 (fun x hx => b2 x (tr_rng hx).1 (tr_rng hx).2 hx)
      rw [this]; exact ⟨_, _, rfl, rfl⟩
    | inr u =>
      have : c = false := by
        cases hc : c with
        | false => rfl
        | true => obtain ⟨x, hx⟩ := b2; exact absurd hx (c2.1 hc x)
      rw [this]; exact ⟨_, _, rfl, rfl⟩
theorem p12' (N : Int) (l : List Rel) (h : ¬ l.length ≤ 15) : m12 N l = some false ∧ m14 N l = some false := by
  simp only [m12, m12_1, m14, m14_1, p39, p41, bnd_ok]
  rw [(ltI_iff 15 (l.length : Int)).2 (by omega)]
  cases decide (1 ≤ N ∧ N ≤ 5) <;> exact ⟨rfl, rfl⟩
theorem law (N : Int) (l : List Rel) (hN : wfInt N) (hw : wfLRel l) : m6 N l = some true := by
  obtain ⟨v, e, lo, u, s⟩ := z11 l 1048576 hw (by omega) (by omega)
  unfold m6
  rw [e, bnd_ok]
  by_cases c : v < 0
  · rw [(ltI_iff _ _).2 c]; rfl
  rw [(ltI_not _ _).2 (by omega), br_false]
  have se := s (by omega)
  have hs : ∃ x y, m20 N l = some (x, y) ∧ m21 N l = some (x, y) := by
    by_cases hl : l.length ≤ 15
    · exact same N l (by omega) (fun r hr => ((hw.2 r hr).2.1).2)
    · obtain ⟨q1, q2⟩ := p12' N l hl
      unfold m20 m21
      rw [q1, q2]
      exact ⟨_, _, rfl, rfl⟩
  obtain ⟨x, y, e1, e2⟩ := hs
  simp only [t13 l se, bnd_ok, e1, e2, sel2_ok, m6_1, eqB_self, br_true, Bool.not_true, br_false, q15 l se]
end Go.Pi.Ytichbkallidkcaa.NoRing
