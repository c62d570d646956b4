/- What functions of the program answer, and that the law answers true at every input; no condition -/
import Derived.Test.YtichbkallidkcaaValleyStdValley
set_option linter.all false
/- Valley: a row is free of valleys just if each on its way may tell it on. -/
namespace Go.Pi.Ytichbkallidkcaa.Valley
open Go Go.Pi
set_option linter.all false
/-! ### What one is to another -/
def kd (a b : Int) : List Rel → Int
  | [] => 0
  | r :: t => if r.a = a ∧ r.b = b then r.kind else if r.a = b ∧ r.b = a then wsub .i64 4 r.kind else kd a b t
def kdF (a b : Int) (r : Rel) : Option Int := if r.a = a ∧ r.b = b then some r.kind else if r.a = b ∧ r.b = a then some (wsub .i64 4 r.kind) else none
theorem kd_find (a b : Int) (l : List Rel) : kd a b l = (l.findSome? (kdF a b)).getD 0 := by
  induction l with
  | nil => rfl
  | cons r t ih =>
    simp only [kd, List.findSome?_cons, kdF]
    split
    · rfl
    · split
      · rfl
      · exact ih
theorem kdBody (a b : Int) (x : Rel) : m46_4 a b x = some (decide (x.a = a ∧ x.b = b)) ∧ m46_5 a b x = some (decide (x.a = b ∧ x.b = a)) := by
  simp only [m46_4, m46_5, br_ite, eqI_iff]
  constructor
  · by_cases h : x.a = a
    · rw [if_pos h]; simp [h, eqI]
    · rw [if_neg h]; simp [h]
  · by_cases h : x.a = b
    · rw [if_pos h]; simp [h, eqI]
    · rw [if_neg h]; simp [h]
theorem loopK (a b : Int) (l : List Rel) (hl : l.length ≤ 1000) {body : Int → Option (Ctl Int (Unit ⊕ Int))}
    (hb : ∀ s, body s = m46_1b a b l (l.length : Int) s) : loopP body 0 = some (match l.findSome? (kdF a b) with | none => .inl () | some k => .inr k) := by
  have := loop_find (body := body) l (fun r => (kdF a b r).map .inr) (.inl ()) (fun k h => by
    obtain ⟨e1, e2⟩ := kdBody a b l[k]
    simp only [hb, m46_1b, (ltI_iff (k : Int) (l.length : Int)).2 (by omega), br_true, idx_get h, bnd_ok, e1, e2, kdF, wsucc h (by omega)]
    by_cases c1 : l[k].a = a ∧ l[k].b = b
    · rw [if_pos c1, decide_eq_true c1]; rfl
    · rw [if_neg c1, decide_eq_false c1, br_false]
      by_cases c2 : l[k].a = b ∧ l[k].b = a
      · rw [if_pos c2, decide_eq_true c2]; rfl
      · rw [if_neg c2, decide_eq_false c2]; rfl) (by simp only [hb, m46_1b, (ltI_not (l.length : Int) (l.length : Int)).2 (by omega), br_false])
  rw [this]
  congr 1
  clear this hb hl
  induction l with
  | nil => rfl
  | cons r t ih =>
    simp only [List.findSome?_cons]
    cases kdF a b r with
    | none => exact ih
    | some k => rfl
theorem p46 (l : List Rel) (a b : Int) (hl : l.length ≤ 1000) : m46 l a b = some (kd a b l) := by
  unfold m46
  rw [loopK (body := m46_1b a b l (l.length : Int)) a b l hl (fun s => rfl), bnd_ok, kd_find]
  cases l.findSome? (kdF a b) <;> rfl
theorem p45 (l : List Rel) (a b : Int) (hl : l.length ≤ 1000) : m45 l a b = some (kd a b l) := by
  unfold m45
  rw [loopK (body := m45_1b a b l (l.length : Int)) a b l hl (fun s => rfl), bnd_ok, kd_find]
  cases l.findSome? (kdF a b) <;> rfl
theorem p47 (l : List Int) (x : Int) (hl : l.length ≤ 1000) : m47 l x = some (l.any fun y => eqI y x) := by
  unfold m47
  have := loop_find (body := m47_1b x l (l.length : Int)) l (fun y => if eqI y x = true then some (.inr ()) else none) (.inl ()) (fun k h => by
    simp only [m47_1b, (ltI_iff (k : Int) (l.length : Int)).2 (by omega), br_true, idx_get h, bnd_ok, wsucc h (by omega)]
    cases eqI l[k] x <;> rfl) (by simp only [m47_1b, (ltI_not (l.length : Int) (l.length : Int)).2 (by omega), br_false])
  rw [this, bnd_ok]
  clear this hl
  induction l with
  | nil => rfl
  | cons y t ih =>
    simp only [List.findSome?_cons, List.any_cons]
    cases eqI y x with
    | true => rfl
    | false => simpa using ih
theorem p55 (l : List Int) (x : Int) (hl : l.length ≤ 1000) : m55 l x = some (l.any fun y => eqI y x) := by
  unfold m55
  have h2 : m72 l x = some (match findI (fun y => eqI y x) l with | none => -1 | some i => (i : Int)) := by
    unfold m72
    have h3 := loop_index (body := m72_1b l x (l.length : Int)) l (f := fun y => some (eqI x y)) (fun y => eqI y x) (fun y _ => by rw [Option.some.injEq, Bool.eq_iff_iff, eqI_iff, eqI_iff]; exact ⟨fun h => h.symm, fun h => h.symm⟩) (by omega) (fun s => by simp only [m72_1b, bnd_ok])
    rw [h3, bnd_ok]
    cases findI (fun y => eqI y x) l <;> rfl
  rw [h2, bnd_ok]
  exact congrArg some (containsFunc (p := fun y => eqI y x) (xs := l))
/-! ### Good relations -/
def okR (n : Int) (prev : List Rel) (r : Rel) : Bool := decide (0 ≤ r.a ∧ r.a < r.b ∧ r.b ≤ n ∧ 1 ≤ r.kind ∧ r.kind ≤ 3) && !(prev.any fun o => decide (o.a = r.a ∧ o.b = r.b))
def goodB (n : Int) (l : List Rel) : Bool := decide (1 ≤ n ∧ n ≤ 5 ∧ l.length ≤ 15) && allN l.length (fun k => atB l (okR n (l.take k)) k)
theorem p41 (a x y : Int) : m41 a x y = some (decide (x ≤ a ∧ a ≤ y)) := by
  simp only [m41, m41_1, bnd_ok, br_bool]
  rw [Option.some.injEq, Bool.eq_iff_iff, decide_eq_true_eq]
  simp only [Bool.and_eq_true, Bool.or_eq_true, Bool.not_eq_true', leI_iff, ltI_iff, leI_not, and_false, or_false, Bool.false_eq_true]
theorem p39 (a x y : Int) : m39 a x y = some (decide (x ≤ a ∧ a ≤ y)) := p41 a x y
theorem p43 (o r : Rel) : m43 o r = some (decide (o.a = r.a ∧ o.b = r.b)) := by
  simp only [m43, m43_1, bnd_ok, br_bool]
  rw [Option.some.injEq, Bool.eq_iff_iff, decide_eq_true_eq]
  simp only [Bool.and_eq_true, Bool.or_eq_true, Bool.not_eq_true', eqI_iff, eqI_not, and_false, or_false, Bool.false_eq_true]
  exact ⟨fun h => ⟨h.1.symm, h.2.symm⟩, fun h => ⟨h.1.symm, h.2.symm⟩⟩
theorem p42 (l : List Rel) (r : Rel) (hl : l.length ≤ 1000) : m42 l (fun y0 => m43 y0 r) = some (l.any fun o => decide (o.a = r.a ∧ o.b = r.b)) := by
  simp only [m42, m70, indexFunc (body := m70_1b l (l.length : Int) (fun y0 => m43 y0 r)) (f := fun y0 => m43 y0 r) l (fun o => decide (o.a = r.a ∧ o.b = r.b)) (fun x _ => p43 x r) (by omega) (fun s => rfl), bnd_ok, containsFunc]
theorem p14_4 (n : Int) (l : List Rel) (k : Nat) (x : Rel) (hk : k ≤ l.length) (hl : l.length ≤ 1000) (hx : -9223372036854775807 ≤ x.b) (hx2 : x.b ≤ 9223372036854775807) : m14_4 n l (k : Int) x = some (!okR n (l.take k) x) := by
  have ew : wsub .i64 x.b 1 = x.b - 1 := wsub64 (by omega) (by omega)
  have hc : 0 ≤ (k : Int) ∧ (k : Int) ≤ (l.length : Int) := by omega
  simp only [m14_4, p41, bnd_ok, ew, ck_ok hc, Int.toNat_natCast, p42 (l.take k) x (by rw [List.length_take]; omega), okR]
  by_cases c1 : 1 ≤ x.b ∧ x.b ≤ n
  · rw [decide_eq_true c1, br_true]
    by_cases c2 : 0 ≤ x.a ∧ x.a ≤ x.b - 1
    · rw [decide_eq_true c2, br_true]
      by_cases c3 : 1 ≤ x.kind ∧ x.kind ≤ 3
      · rw [decide_eq_true c3, br_true, decide_eq_true (by omega), Bool.true_and, Bool.not_not]
      · rw [decide_eq_false c3, br_false, decide_eq_false (by omega)]; rfl
    · rw [decide_eq_false c2, br_false, decide_eq_false (by omega)]; rfl
  · rw [decide_eq_false c1, br_false, decide_eq_false (by omega)]; rfl
theorem p14 (n : Int) (l : List Rel) (hl : l.length ≤ 1000) (hw : ∀ r ∈ l, -9223372036854775807 ≤ r.b ∧ r.b ≤ 9223372036854775807) : m14 n l = some (goodB n l) := by
  have h := loop_all (body := m14_2b n l (l.length : Int)) l.length (fun k => atB l (okR n (l.take k)) k) (.inl ()) (.inr ()) (fun k h => by
    simp only [m14_2b, (ltI_iff (k : Int) (l.length : Int)).2 (by omega), br_true, idx_get h, bnd_ok, p14_4 n l k l[k] (by omega) hl (hw _ (List.getElem_mem h)).1 (hw _ (List.getElem_mem h)).2, wsucc h (by omega), atB_get h]
    cases okR n (l.take k) l[k] <;> rfl) (by simp only [m14_2b, (ltI_not (l.length : Int) (l.length : Int)).2 (by omega), br_false])
  simp only [m14, m14_1, p41, bnd_ok, goodB, h]
  by_cases c1 : 1 ≤ n ∧ n ≤ 5
  · rw [decide_eq_true c1, br_true, bnd_ok]
    by_cases c2 : l.length ≤ 15
    · rw [(ltI_not _ _).2 (by omega), br_false, decide_eq_true ⟨c1.1, c1.2, c2⟩, Bool.true_and]
      cases allN l.length (fun k => atB l (okR n (l.take k)) k) <;> rfl
    · rw [(ltI_iff _ _).2 (by omega), br_true, decide_eq_false (by omega)]; rfl
  · rw [decide_eq_false c1, br_false, bnd_ok, br_true, decide_eq_false (by omega)]; rfl
theorem p12_7 (n : Int) (x : Rel) : m12_7 n x = some (!decide (0 ≤ x.a ∧ x.a < x.b ∧ x.b ≤ n ∧ 1 ≤ x.kind ∧ x.kind ≤ 3)) := by
  simp only [m12_7, p39, bnd_ok, br_bool]
  rw [Option.some.injEq, Bool.eq_iff_iff]
  simp only [Bool.and_eq_true, Bool.or_eq_true, Bool.not_eq_true', decide_eq_false_iff_not, leI_iff, ltI_iff, leI_not, ltI_not, true_and, and_true, true_or, or_true]
  omega
theorem find_any {α : Type} (p : α → Bool) (xs : List α) : (xs.findSome? (fun o => if p o = true then some (Sum.inr () : Unit ⊕ Unit) else none)).getD (.inl ()) = if xs.any p = true then .inr () else .inl () := by
  induction xs with
  | nil => rfl
  | cons y t ih => cases h : p y <;> simp [List.findSome?_cons, h, ih]
theorem p12_8 (p : List Rel) (x : Rel) (hl : p.length ≤ 1000) : loopP (m12_8b p (p.length : Int) x) 0 = some (if (p.any fun o => decide (o.a = x.a ∧ o.b = x.b)) = true then .inr () else .inl ()) := by
  have := loop_find (body := m12_8b p (p.length : Int) x) p (fun o => if decide (o.a = x.a ∧ o.b = x.b) = true then some (.inr ()) else none) (.inl ()) (fun k h => by
    have e : m12_10 x p[k] = some (decide (p[k].a = x.a ∧ p[k].b = x.b)) := by
      simp only [m12_10, br_bool]
      rw [Option.some.injEq, Bool.eq_iff_iff, decide_eq_true_eq]
      simp only [Bool.and_eq_true, Bool.or_eq_true, Bool.not_eq_true', eqI_iff, eqI_not, and_false, or_false, Bool.false_eq_true]
    simp only [m12_8b, (ltI_iff (k : Int) (p.length : Int)).2 (by omega), br_true, idx_get h, bnd_ok, e, wsucc h (by omega)]
    cases decide (p[k].a = x.a ∧ p[k].b = x.b) <;> rfl) (by simp only [m12_8b, (ltI_not (p.length : Int) (p.length : Int)).2 (by omega), br_false])
  rw [this]
  exact congrArg some (find_any (fun o => decide (o.a = x.a ∧ o.b = x.b)) p)
theorem p12 (n : Int) (l : List Rel) (hl : l.length ≤ 1000) : m12 n l = some (goodB n l) := by
  have h := loop_all (body := m12_2b n l (l.length : Int)) l.length (fun k => atB l (okR n (l.take k)) k) (.inl ()) (.inr ()) (fun k h => by
    have hc : 0 ≤ (k : Int) ∧ (k : Int) ≤ (l.length : Int) := by omega
    simp only [m12_2b, (ltI_iff (k : Int) (l.length : Int)).2 (by omega), br_true, idx_get h, bnd_ok, p12_7, ck_ok hc, Int.toNat_natCast, p12_8 (l.take k) l[k] (by rw [List.length_take]; omega), wsucc h (by omega), atB_get h, okR]
    cases decide (0 ≤ l[k].a ∧ l[k].a < l[k].b ∧ l[k].b ≤ n ∧ 1 ≤ l[k].kind ∧ l[k].kind ≤ 3) with
    | false => rfl
    | true => cases ((l.take k).any fun o => decide (o.a = l[k].a ∧ o.b = l[k].b)) <;> rfl) (by simp only [m12_2b, (ltI_not (l.length : Int) (l.length : Int)).2 (by omega), br_false])
  simp only [m12, m12_1, p39, bnd_ok, goodB, h]
  by_cases c1 : 1 ≤ n ∧ n ≤ 5
  · rw [decide_eq_true c1, br_true, bnd_ok]
    by_cases c2 : l.length ≤ 15
    · rw [(ltI_not _ _).2 (by omega), br_false, decide_eq_true ⟨c1.1, c1.2, c2⟩, Bool.true_and]
      cases allN l.length (fun k => atB l (okR n (l.take k)) k) <;> rfl
    · rw [(ltI_iff _ _).2 (by omega), br_true, decide_eq_false (by omega)]; rfl
  · rw [decide_eq_false c1, br_false, bnd_ok, br_true, decide_eq_false (by omega)]; rfl
/-- Of good relations: each is between two unlike ones, of one of three kinds. -/
def Rels (l : List Rel) : Prop := ∀ r ∈ l, r.a < r.b ∧ 1 ≤ r.kind ∧ r.kind ≤ 3
theorem good_rels {n : Int} {l : List Rel} (h : goodB n l = true) : Rels l := by
  simp only [goodB, Bool.and_eq_true, allN_iff] at h
  intro r hr
  obtain ⟨k, hk, rfl⟩ := List.getElem_of_mem hr
  have := h.2 k hk
  rw [atB_get hk] at this
  simp only [okR, Bool.and_eq_true, decide_eq_true_eq] at this
  omega
theorem kd_range {l : List Rel} (h : Rels l) (a b : Int) : 0 ≤ kd a b l ∧ kd a b l ≤ 3 := by
  induction l with
  | nil => simp [kd]
  | cons r t ih =>
    have hr := h r (by simp)
    have := ih (fun x hx => h x (by simp [hx]))
    have e : wsub .i64 4 r.kind = 4 - r.kind := wsub64 (by omega) (by omega)
    simp only [kd, e]
    split
    · omega
    · split <;> omega
theorem kd_symm {l : List Rel} (h : Rels l) (a b : Int) : (kd a b l = 0 ∧ kd b a l = 0) ∨ (kd a b l ≠ 0 ∧ kd b a l = 4 - kd a b l) := by
  induction l with
  | nil => simp [kd]
  | cons r t ih =>
    have hr := h r (by simp)
    have := ih (fun x hx => h x (by simp [hx]))
    have e : wsub .i64 4 r.kind = 4 - r.kind := wsub64 (by omega) (by omega)
    simp only [kd, e]
    by_cases c1 : r.a = a ∧ r.b = b
    · rw [if_pos c1, if_neg (by omega), if_pos c1]; omega
    · rw [if_neg c1]
      by_cases c2 : r.a = b ∧ r.b = a
      · rw [if_pos c2, if_pos c2]; omega
      · rw [if_neg c2, if_neg c2, if_neg c1]; exact this
/-! ### Rows -/
def badP (n : Int) (l : List Rel) (p : List Int) (k : Nat) (x : Int) : Bool :=
  !decide (0 ≤ x ∧ x ≤ n) || ((p.take k).any fun y => eqI y x) || (decide (0 < k) && (match p[k - 1]? with | some y => eqI (kd y x l) 0 | none => false))
theorem badP_pos {n : Int} {l : List Rel} {p : List Int} {k : Nat} (h : k < p.length) (h0 : 0 < k) (x : Int) : badP n l p k x = (!decide (0 ≤ x ∧ x ≤ n) || ((p.take k).any fun y => eqI y x) || eqI (kd (p[k - 1]'(by omega)) x l) 0) := by
  simp only [badP, decide_eq_true h0, Bool.true_and, List.getElem?_eq_getElem (show k - 1 < p.length by omega)]
theorem p24_4 (n : Int) (l : List Rel) (p : List Int) (k : Nat) (hk : k < p.length) (hl : l.length ≤ 1000) (hp : p.length ≤ 1000) (x : Int) : m24_4 n l p (k : Int) x = some (badP n l p k x) := by
  have hc : 0 ≤ (k : Int) ∧ (k : Int) ≤ (p.length : Int) := by omega
  simp only [m24_4, p41, bnd_ok, ck_ok hc, Int.toNat_natCast, p55 (p.take k) x (by rw [List.length_take]; omega)]
  by_cases c1 : 0 ≤ x ∧ x ≤ n
  · rw [decide_eq_true c1, br_true]
    cases h2 : ((p.take k).any fun y => eqI y x) with
    | true => simp only [badP, h2, br_true, Bool.or_true, Bool.true_or]
    | false =>
      rw [br_false]
      by_cases c3 : 0 < k
      · rw [(ltI_iff _ _).2 (by omega), br_true, wpred hk c3 (by omega), idx_get (show k - 1 < p.length by omega), bnd_ok, p46 l _ _ hl, bnd_ok, badP_pos hk c3, h2, decide_eq_true c1]; rfl
      · rw [(ltI_not _ _).2 (by omega), br_false]; simp only [badP, h2, decide_eq_true c1, decide_eq_false c3]; rfl
  · rw [decide_eq_false c1, br_false]; simp only [badP, decide_eq_false c1]; rfl
theorem p53_3 (n : Int) (l : List Rel) (p : List Int) (k : Nat) (hk : k < p.length) (hl : l.length ≤ 1000) (hp : p.length ≤ 1000) (x : Int) : m53_3 n l p (k : Int) x = some (badP n l p k x) := by
  have hc : 0 ≤ (k : Int) ∧ (k : Int) ≤ (p.length : Int) := by omega
  simp only [m53_3, bnd_ok, ck_ok hc, Int.toNat_natCast, p47 (p.take k) x (by rw [List.length_take]; omega)]
  by_cases c0 : x < 0
  · rw [(ltI_iff _ _).2 c0, br_true]; simp only [badP, decide_eq_false (show ¬ (0 ≤ x ∧ x ≤ n) by omega)]; rfl
  rw [(ltI_not _ _).2 (by omega), br_false]
  by_cases c1 : x ≤ n
  · have c1' : 0 ≤ x ∧ x ≤ n := by omega
    rw [(ltI_not _ _).2 (by omega), br_false]
    cases h2 : ((p.take k).any fun y => eqI y x) with
    | true => simp only [badP, h2, br_true, Bool.or_true, Bool.true_or]
    | false =>
      rw [br_false]
      by_cases c3 : 0 < k
      · rw [(ltI_iff _ _).2 (by omega), br_true, wpred hk c3 (by omega), idx_get (show k - 1 < p.length by omega), bnd_ok, p45 l _ _ hl, bnd_ok, badP_pos hk c3, h2, decide_eq_true c1']; rfl
      · rw [(ltI_not _ _).2 (by omega), br_false]; simp only [badP, h2, decide_eq_true c1', decide_eq_false c3]; rfl
  · rw [(ltI_iff _ _).2 (by omega), br_true]; simp only [badP, decide_eq_false (show ¬ (0 ≤ x ∧ x ≤ n) by omega)]; rfl
def rowB (n : Int) (l : List Rel) (p : List Int) : Bool := allN p.length (fun k => atB p (fun x => !badP n l p k x) k)
theorem loop24 (n : Int) (l : List Rel) (p : List Int) (hl : l.length ≤ 1000) (hp : p.length ≤ 1000) : loopP (m24_2b n l p (p.length : Int)) 0 = some (if rowB n l p = true then .inl () else .inr ()) :=
  loop_all (β := Unit ⊕ Unit) p.length (fun k => atB p (fun x => !badP n l p k x) k) (.inl ()) (.inr ()) (fun k h => by
    simp only [m24_2b, (ltI_iff (k : Int) (p.length : Int)).2 (by omega), br_true, idx_get h, bnd_ok, p24_4 n l p k h hl hp, wsucc h (by omega), atB_get h]
    cases badP n l p k p[k] <;> rfl) (by simp only [m24_2b, (ltI_not (p.length : Int) (p.length : Int)).2 (by omega), br_false])
theorem loop53 (n : Int) (l : List Rel) (p : List Int) (hl : l.length ≤ 1000) (hp : p.length ≤ 1000) : loopP (m53_1b n l p (p.length : Int)) 0 = some (if rowB n l p = true then .inl () else .inr ()) :=
  loop_all (β := Unit ⊕ Unit) p.length (fun k => atB p (fun x => !badP n l p k x) k) (.inl ()) (.inr ()) (fun k h => by
    simp only [m53_1b, (ltI_iff (k : Int) (p.length : Int)).2 (by omega), br_true, idx_get h, bnd_ok, p53_3 n l p k h hl hp, wsucc h (by omega), atB_get h]
    cases badP n l p k p[k] <;> rfl) (by simp only [m53_1b, (ltI_not (p.length : Int) (p.length : Int)).2 (by omega), br_false])
/-- The kinds along a row. -/
def ks (l : List Rel) : List Int → List Int
  | a :: b :: r => kd a b l :: ks l (b :: r)
  | _ => []
theorem ks_drop (l : List Rel) : ∀ (p : List Int) (s : Nat) (h : s + 1 < p.length), (ks l p).drop s = kd p[s] p[s + 1] l :: (ks l p).drop (s + 1) := by
  intro p
  induction p with
  | nil => intro s h; simp at h
  | cons a p ih =>
    intro s h
    cases p with
    | nil => simp at h
    | cons b r =>
      cases s with
      | zero => rfl
      | succ s =>
        have := ih s (by simpa using h)
        simpa [ks] using this
theorem ks_end (l : List Rel) : ∀ (p : List Int) (s : Nat), p.length ≤ s + 1 → (ks l p).drop s = [] := by
  intro p
  induction p with
  | nil => intro s h; simp [ks]
  | cons a p ih =>
    intro s h
    cases p with
    | nil => simp [ks]
    | cons b r =>
      cases s with
      | zero => simp at h
      | succ s => simpa [ks] using ih s (by simpa using h)
def free : Bool → List Int → Bool
  | _, [] => true
  | d, k :: r => if d && !eqI k 1 then false else free (d || !eqI k 3) r
def pairs : List Int → Bool
  | k :: k' :: r => (eqI k 3 || eqI k' 1) && pairs (k' :: r)
  | _ => true
theorem pairs_down : ∀ (r : List Int) (k : Int), k ≠ 3 → pairs (k :: r) = free true r := by
  intro r
  induction r with
  | nil => intro k _; rfl
  | cons k' r ih =>
    intro k hk
    simp only [pairs, free, (eqI_not k 3).2 hk, Bool.false_or, Bool.true_and, Bool.true_or]
    by_cases c : k' = 1
    · subst c
      rw [eqI_self]
      simpa using ih 1 (by omega)
    · rw [(eqI_not k' 1).2 c]; rfl
theorem pairs_up : ∀ (r : List Int), pairs (3 :: r) = free false r := by
  intro r
  induction r with
  | nil => rfl
  | cons k' r ih =>
    simp only [pairs, free, eqI_self, Bool.true_or, Bool.true_and, Bool.false_and, Bool.false_or, if_false, Bool.false_eq_true]
    by_cases c : k' = 3
    · subst c; rw [eqI_self]; simpa using ih
    · rw [(eqI_not k' 3).2 c]; exact pairs_down r k' c
theorem pairs_free (r : List Int) : pairs r = free false r := by
  cases r with
  | nil => rfl
  | cons k r =>
    simp only [free, Bool.false_and, Bool.false_or, if_false, Bool.false_eq_true]
    by_cases c : k = 3
    · subst c; rw [eqI_self]; exact pairs_up r
    · rw [(eqI_not k 3).2 c]; exact pairs_down r k c
theorem loop54 (l : List Rel) (p : List Int) (hl : l.length ≤ 1000) (hp : p.length ≤ 1000) : ∀ (n s : Nat) (d : Bool), n + s = p.length → 1 ≤ s → loopP (m54_1b l p) (d, (s : Int)) = some (if free d ((ks l p).drop (s - 1)) = true then .inl () else .inr ()) := by
  intro n
  induction n with
  | zero =>
    intro s d hs h1
    rw [ks_end l p (s - 1) (by omega)]
    refine loopP_out ?_
    simp only [m54_1b, sel2, (ltI_not (s : Int) (p.length : Int)).2 (by omega), br_false]; rfl
  | succ n ih =>
    intro s d hs h1
    have h : s < p.length := by omega
    obtain ⟨t, rfl⟩ : ∃ t, s = t + 1 := ⟨s - 1, by omega⟩
    have e0 : wsub .i64 ((t + 1 : Nat) : Int) 1 = (t : Int) := by rw [wsub64 (by omega) (by omega)]; omega
    have e1 : idx p (t : Int) = some p[t] := idx_get (by omega)
    rw [show t + 1 - 1 = t by omega, ks_drop l p t h, free]
    generalize hk : kd p[t] p[t + 1] l = k
    cases hc : (d && !eqI k 1) with
    | true =>
      simp only [Bool.and_eq_true, Bool.not_eq_true'] at hc
      rw [if_pos rfl]
      refine loopP_out ?_
      simp only [m54_1b, sel2, (ltI_iff ((t + 1 : Nat) : Int) (p.length : Int)).2 (by omega), br_true, e0, e1, idx_get h, bnd_ok, p45 l _ _ hl, hk, m54_4, hc.1, hc.2, Bool.not_false]; rfl
    | false =>
      simp only [if_false, Bool.false_eq_true]
      rw [loopP_nxt (s' := (d || !eqI k 3, ((t + 1 + 1 : Nat) : Int)))]
      · exact ih (t + 1 + 1) _ (by omega) (by omega)
      · have e4 : m54_4 d k = some (d, false) := by
          unfold m54_4
          cases d with
          | false => rfl
          | true => simp only [Bool.true_and] at hc; rw [br_true, hc]
        have e5 : m54_5 d k = some (d || !eqI k 3) := by cases d <;> rfl
        simp only [m54_1b, sel2, (ltI_iff ((t + 1 : Nat) : Int) (p.length : Int)).2 (by omega), br_true, e0, e1, idx_get h, bnd_ok, p45 l _ _ hl, hk, e4, e5, br_false, wsucc h (by omega)]
theorem p54 (l : List Rel) (p : List Int) (hl : l.length ≤ 1000) (hp : p.length ≤ 1000) : m54 l p = some (free false (ks l p)) := by
  unfold m54
  by_cases h : 1 ≤ p.length
  · have := loop54 l p hl hp (p.length - 1) 1 false (by omega) (by omega)
    have e : loopP (m54_1b l p) (false, 1) = _ := this
    rw [e, bnd_ok, show 1 - 1 = 0 from rfl, List.drop_zero]
    cases free false (ks l p) <;> rfl
  · have : p = [] := List.eq_nil_of_length_eq_zero (by omega)
    subst this
    rw [loopP_out (b := .inl ()) (by simp only [m54_1b, sel2, (ltI_not 1 (([] : List Int).length : Int)).2 (by simp), br_false])]
    rfl
/-- In a good row each one has a relation with the next one. -/
theorem row_kd {n : Int} {l : List Rel} {p : List Int} (h : rowB n l p = true) (t : Nat) (ht : t + 1 < p.length) : kd p[t] p[t + 1] l ≠ 0 := by
  simp only [rowB, allN_iff] at h
  have := h (t + 1) ht
  rw [atB_get ht, badP_pos ht (by omega)] at this
  simp only [Bool.not_eq_true', Bool.or_eq_false_iff] at this
  exact (eqI_not _ _).1 this.2
theorem row_ne {n : Int} {l : List Rel} {p : List Int} (h : rowB n l p = true) (s t : Nat) (hst : s < t) (ht : t < p.length) : p[s]'(by omega) ≠ p[t] := by
  simp only [rowB, allN_iff] at h
  have := h t ht
  rw [atB_get ht] at this
  simp only [badP, Bool.not_eq_true', Bool.or_eq_false_iff] at this
  have h2 := this.1.2
  intro he
  have : ((p.take t).any fun y => eqI y p[t]) = true := by
    rw [List.any_eq_true]
    exact ⟨p[s]'(by omega), by rw [List.mem_take_iff_getElem]; exact ⟨s, by omega, rfl⟩, (eqI_iff _ _).2 he⟩
  rw [this] at h2; cases h2
theorem loop56 (n0 : Int) (l : List Rel) (p : List Int) (hl : l.length ≤ 1000) (hp : p.length ≤ 1000) (hr : rowB n0 l p = true) : ∀ (n s : Nat) (d : Bool), n + s = p.length → 1 ≤ s → loopP (m56_1b l p) (d, (s : Int)) = some (if free d ((ks l p).drop (s - 1)) = true then .inl () else .inr ()) := by
  intro n
  induction n with
  | zero =>
    intro s d hs h1
    rw [ks_end l p (s - 1) (by omega)]
    refine loopP_out ?_
    simp only [m56_1b, sel2, (ltI_not (s : Int) (p.length : Int)).2 (by omega), br_false]; rfl
  | succ n ih =>
    intro s d hs h1
    have h : s < p.length := by omega
    obtain ⟨t, rfl⟩ : ∃ t, s = t + 1 := ⟨s - 1, by omega⟩
    have e0 : wsub .i64 ((t + 1 : Nat) : Int) 1 = (t : Int) := by rw [wsub64 (by omega) (by omega)]; omega
    have e1 : idx p (t : Int) = some p[t] := idx_get (by omega)
    have hne := row_kd hr t h
    rw [show t + 1 - 1 = t by omega, ks_drop l p t h, free]
    generalize hk : kd p[t] p[t + 1] l = k at hne
    have hz : eqI k 0 = false := (eqI_not _ _).2 hne
    cases hc : (d && !eqI k 1) with
    | true =>
      simp only [Bool.and_eq_true, Bool.not_eq_true'] at hc
      rw [if_pos rfl]
      refine loopP_out ?_
      simp only [m56_1b, sel2, (ltI_iff ((t + 1 : Nat) : Int) (p.length : Int)).2 (by omega), br_true, e0, e1, idx_get h, bnd_ok, p46 l _ _ hl, hk, m56_4, hz, br_false, hc.1, hc.2, Bool.not_false]; rfl
    | false =>
      simp only [if_false, Bool.false_eq_true]
      rw [loopP_nxt (s' := (d || !eqI k 3, ((t + 1 + 1 : Nat) : Int)))]
      · exact ih (t + 1 + 1) _ (by omega) (by omega)
      · have e4 : m56_4 d k = some (d, false) := by
          unfold m56_4
          rw [hz, br_false]
          cases d with
          | false => rfl
          | true => simp only [Bool.true_and] at hc; rw [br_true, hc]
        have e5 : m56_5 d k = some (d || !eqI k 3) := by cases d <;> rfl
        simp only [m56_1b, sel2, (ltI_iff ((t + 1 : Nat) : Int) (p.length : Int)).2 (by omega), br_true, e0, e1, idx_get h, bnd_ok, p46 l _ _ hl, hk, e4, e5, br_false, wsucc h (by omega)]
def okV (n : Int) (l : List Rel) (p : List Int) : Bool := goodB n l && decide (2 ≤ p.length ∧ p.length ≤ 6) && rowB n l p
theorem same (n : Int) (l : List Rel) (p : List Int) (hl : l.length ≤ 1000) (hp : p.length ≤ 1000) (hw : ∀ r ∈ l, -9223372036854775807 ≤ r.b ∧ r.b ≤ 9223372036854775807) :
    m24 n l p = some (okV n l p && free false (ks l p), okV n l p) ∧ m22 n l p = some (okV n l p && free false (ks l p), okV n l p) := by
  simp only [m24, m24_1, m22, m22_1, m53, p14 n l hl hw, p12 n l hl, p41, p39, bnd_ok, loop24 n l p hl hp, loop53 n l p hl hp, p54 l p hl hp, okV]
  have ed : decide (2 ≤ (p.length : Int) ∧ (p.length : Int) ≤ 6) = decide (2 ≤ p.length ∧ p.length ≤ 6) := by
    rw [decide_eq_decide]; omega
  rw [ed]
  cases goodB n l with
  | false => exact ⟨rfl, rfl⟩
  | true =>
    cases hd : decide (2 ≤ p.length ∧ p.length ≤ 6) with
    | false => cases rowB n l p <;> exact ⟨rfl, rfl⟩
    | true =>
      cases hr : rowB n l p with
      | false => exact ⟨rfl, rfl⟩
      | true =>
        have h1 := of_decide_eq_true hd
        have h56 := loop56 n l p hl hp hr (p.length - 1) 1 false (by omega) (by omega)
        rw [show 1 - 1 = 0 from rfl, List.drop_zero] at h56
        have e : loopP (m56_1b l p) (false, 1) = _ := h56
        simp only [m56, e, bnd_ok, br_true, Bool.not_true, br_false, Bool.true_and, if_true, selS_inl]
        cases free false (ks l p) <;> exact ⟨rfl, trivial⟩
/-! ### Telling -/
def tell (l : List Rel) (a f t : Int) : Bool := eqI (kd a f l) 1 || eqI (kd a t l) 1
def okT (n : Int) (l : List Rel) (a f t : Int) : Bool := goodB n l && !eqI f t && !eqI (kd a f l) 0 && !eqI (kd a t l) 0
theorem p19 (n : Int) (l : List Rel) (a f t : Int) (hl : l.length ≤ 1000) (hw : ∀ r ∈ l, -9223372036854775807 ≤ r.b ∧ r.b ≤ 9223372036854775807) : m19 n l a f t = some (okT n l a f t && tell l a f t, okT n l a f t) := by
  simp only [m19, m19_1, m19_2, m19_3, p14 n l hl hw, p46 l _ _ hl, bnd_ok, okT, tell]
  cases goodB n l <;> cases eqI f t <;> cases eqI (kd a f l) 0 <;> cases eqI (kd a t l) 0 <;> cases eqI (kd a f l) 1 <;> cases eqI (kd a t l) 1 <;> rfl
theorem kd_self {l : List Rel} (h : Rels l) (a : Int) : kd a a l = 0 := by
  induction l with
  | nil => rfl
  | cons r t ih =>
    have hr := h r (by simp)
    simp only [kd]
    rw [if_neg (by omega), if_neg (by omega)]
    exact ih (fun x hx => h x (by simp [hx]))
theorem p18 (n : Int) (l : List Rel) (a f t : Int) (hl : l.length ≤ 1000) : m18 n l a f t = some (okT n l a f t && tell l a f t, okT n l a f t) := by
  simp only [m18, m18_1, m18_2, p12 n l hl, p45 l _ _ hl, bnd_ok, okT, tell]
  cases hg : goodB n l with
  | false => rfl
  | true =>
    have hs := kd_self (good_rels hg)
    by_cases c1 : a = f
    · subst c1; rw [hs a, eqI_self]; cases eqI a t <;> cases eqI (kd a t l) 0 <;> rfl
    · rw [(eqI_not _ _).2 c1]
      by_cases c2 : a = t
      · subst c2; rw [hs a, eqI_self]; cases eqI f a <;> cases eqI (kd a f l) 0 <;> rfl
      · rw [(eqI_not _ _).2 c2]
        cases eqI f t <;> cases eqI (kd a f l) 0 <;> cases eqI (kd a t l) 0 <;> cases eqI (kd a f l) 1 <;> cases eqI (kd a t l) 1 <;> rfl
theorem loop8 (n0 : Int) (l : List Rel) (p : List Int) (hl : l.length ≤ 1000) (hp : p.length ≤ 1000) (hw : ∀ r ∈ l, -9223372036854775807 ≤ r.b ∧ r.b ≤ 9223372036854775807) (hg : goodB n0 l = true) (hr : rowB n0 l p = true) :
    ∀ (n s : Nat) (d : Bool), n + s + 1 = p.length → 1 ≤ s → loopP (m8_3b n0 l p) (d, (s : Int)) = some (.inl (d && pairs ((ks l p).drop (s - 1)))) := by
  intro n
  induction n with
  | zero =>
    intro s d hs h1
    obtain ⟨t, rfl⟩ : ∃ t, s = t + 1 := ⟨s - 1, by omega⟩
    rw [show t + 1 - 1 = t by omega, ks_drop l p t (by omega), ks_end l p (t + 1) (by omega)]
    refine loopP_out ?_
    have e1 : wadd .i64 ((t + 1 : Nat) : Int) 1 = ((t + 1 + 1 : Nat) : Int) := wsucc (show t + 1 < p.length by omega) (by omega)
    simp only [m8_3b, sel2, e1, (ltI_not ((t + 1 + 1 : Nat) : Int) (p.length : Int)).2 (by omega), br_false, pairs, Bool.and_true]
  | succ n ih =>
    intro s d hs h1
    obtain ⟨t, rfl⟩ : ∃ t, s = t + 1 := ⟨s - 1, by omega⟩
    have h : t + 1 + 1 < p.length := by omega
    have e0 : wsub .i64 ((t + 1 : Nat) : Int) 1 = (t : Int) := by rw [wsub64 (by omega) (by omega)]; omega
    have e1 : wadd .i64 ((t + 1 : Nat) : Int) 1 = ((t + 1 + 1 : Nat) : Int) := wsucc (show t + 1 < p.length by omega) (by omega)
    have i0 : idx p (t : Int) = some p[t] := idx_get (by omega)
    have i1 : idx p ((t + 1 : Nat) : Int) = some p[t + 1] := idx_get (by omega)
    have i2 : idx p ((t + 1 + 1 : Nat) : Int) = some p[t + 1 + 1] := idx_get h
    have k1 := row_kd hr t (by omega)
    have k2 := row_kd hr (t + 1) (by omega)
    have hsym := kd_symm (good_rels hg) p[t] p[t + 1]
    have hrg := kd_range (good_rels hg) p[t] p[t + 1]
    have hne := row_ne hr t (t + 1 + 1) (by omega) h
    have eok : okT n0 l p[t + 1] p[t] p[t + 1 + 1] = true := by
      simp only [okT, hg, (eqI_not _ _).2 hne, (eqI_not _ _).2 k2, (eqI_not (kd p[t + 1] p[t] l) 0).2 (by omega)]; rfl
    have et : tell l p[t + 1] p[t] p[t + 1 + 1] = (eqI (kd p[t] p[t + 1] l) 3 || eqI (kd p[t + 1] p[t + 1 + 1] l) 1) := by
      unfold tell
      congr 1
      rw [Bool.eq_iff_iff, eqI_iff, eqI_iff]; omega
    rw [show t + 1 - 1 = t by omega, ks_drop l p t (by omega), ks_drop l p (t + 1) h, pairs, ← ks_drop l p (t + 1) h]
    rw [loopP_nxt (s' := (d && tell l p[t + 1] p[t] p[t + 1 + 1], ((t + 1 + 1 : Nat) : Int)))]
    · rw [ih (t + 1 + 1) _ (by omega) (by omega), show t + 1 + 1 - 1 = t + 1 by omega, et, Bool.and_assoc]
    · have e5 : ∀ b : Bool, m8_5 d b = some (d && b) := by intro b; cases d <;> rfl
      simp only [m8_3b, sel2, e1, (ltI_iff ((t + 1 + 1 : Nat) : Int) (p.length : Int)).2 (by omega), br_true, i0, i1, i2, e0, bnd_ok, p19 n0 l _ _ _ hl hw, eok, Bool.true_and, e5]
/-! ### What is drawn -/
def Drawn (l : List Rel) : Prop := l.length ≤ 1000 ∧ ∀ r ∈ l, -9223372036854775807 ≤ r.b ∧ r.b ≤ 9223372036854775807
theorem Drawn.add {l : List Rel} (h : Drawn l) {r : Rel} (hl : l.length ≤ 999) (h1 : -9223372036854775807 ≤ r.b ∧ r.b ≤ 9223372036854775807) : Drawn (l ++ [r]) :=
  ⟨by simp; omega, fun x hx => by rcases List.mem_append.1 hx with hx | hx; exact h.2 x hx; simp at hx; subst hx; exact h1⟩
theorem inner (code : List Int) (hb : ∀ y ∈ code, 0 ≤ y ∧ y ≤ 255) (c0 : l1Cur) (hc0 : c0.code = code) (p a : Int) (hp : p ≤ 4) : ∀ (n : Nat) (b at_ seed : Int) (l : List Rel), (n : Int) = p + 1 - b → 0 ≤ b → 0 ≤ at_ → at_ + 4 * n ≤ 2000 → Drawn l → l.length + n ≤ 900 →
    Ans (fun r => at_ ≤ r.1 ∧ r.1 ≤ at_ + 4 * n ∧ Drawn r.2.2 ∧ r.2.2.length ≤ l.length + n) (loopP (m57_9b p a c0) (b, at_, seed, l)) := by
  intro n
  induction n with
  | zero =>
    intro b at_ seed l hn h0 h1 h2 hd hl
    refine ⟨_, loopP_out (b := (at_, seed, l)) (by simp only [m57_9b, sel4, (leI_not b p).2 (by omega), br_false]), by simp only []; omega, by simp only []; omega, hd, by simp⟩
  | succ n ih =>
    intro b at_ seed l hn h0 h1 h2 hd hl
    have h13 : Ans (fun r => at_ ≤ r.1 ∧ r.1 ≤ at_ + 4 ∧ Drawn r.2.2 ∧ r.2.2.length ≤ l.length + 1) (m57_13 a b c0 at_ seed l) := by
      unfold m57_13
      rw [hc0]
      refine ans_bnd (cOne code at_ seed 3 h1 (by omega) hb) fun r hr => ?_
      obtain ⟨x, a1, s1⟩ := r
      simp only [sel3_ok] at hr ⊢
      rw [ans_br]
      refine ⟨fun _ => ?_, fun _ => (ans_some _ _).2 ⟨by simp only []; omega, by simp only []; omega, hd, by simp⟩⟩
      refine ans_bnd (cPick code a1 s1 5 (by omega) (by omega) hb) fun r hr2 => ?_
      obtain ⟨y, a2, s2⟩ := r
      simp only [sel3_ok] at hr2 ⊢
      have h14 : Ans (fun _ => True) (m57_14 y (eqI y 0)) := by
        unfold m57_14 m57_15
        rw [ans_br]
        refine ⟨fun _ => (ans_some _ _).2 trivial, fun _ => ?_⟩
        cases eqI y 1 <;> exact ⟨_, rfl, trivial⟩
      refine ans_bnd h14 fun k _ => ?_
      rw [ck_ok (show l.length + 1 ≤ 4294967296 by omega), ans_some]
      exact ⟨by simp only []; omega, by simp only []; omega, hd.add (by omega) (by simp only []; omega), by simp⟩
    obtain ⟨⟨a', s', l'⟩, e, k1, k2, k3, k4⟩ := h13
    simp only at k1 k2 k3 k4
    have ew : wadd .i64 b 1 = b + 1 := wadd64 (by omega) (by omega)
    rw [loopP_nxt (s' := (b + 1, a', s', l'))]
    · obtain ⟨r, e2, q1, q2, q3, q4⟩ := ih (b + 1) a' s' l' (by omega) (by omega) (by omega) (by omega) k3 (by omega)
      exact ⟨r, e2, by omega, by omega, q3, by omega⟩
    · simp only [m57_9b, sel4, (leI_iff b p).2 (by omega), br_true, e, bnd_ok, sel3, ew]
theorem outer (code : List Int) (hb : ∀ y ∈ code, 0 ≤ y ∧ y ≤ 255) (c0 : l1Cur) (hc0 : c0.code = code) (p : Int) (hp : p ≤ 4) (hp0 : 0 ≤ p) : ∀ (n : Nat) (a at_ seed : Int) (l : List Rel), (n : Int) = p - a → 0 ≤ a → 0 ≤ at_ → at_ + 20 * n ≤ 200 → Drawn l → l.length + 5 * n ≤ 100 →
    Ans (fun r => 0 ≤ r.1 ∧ r.1 ≤ at_ + 20 * n ∧ Drawn r.2.2 ∧ r.2.2.length ≤ l.length + 5 * n) (loopP (m57_1b p c0) (a, at_, seed, l)) := by
  intro n
  induction n with
  | zero =>
    intro a at_ seed l hn h0 h1 h2 hd hl
    refine ⟨_, loopP_out (b := (at_, seed, l)) (by simp only [m57_1b, sel4, (ltI_not a p).2 (by omega), br_false]), by simp only []; omega, by simp only []; omega, hd, by simp⟩
  | succ n ih =>
    intro a at_ seed l hn h0 h1 h2 hd hl
    have ew : wadd .i64 a 1 = a + 1 := wadd64 (by omega) (by omega)
    obtain ⟨⟨a', s', l'⟩, e, k1, k2, k3, k4⟩ := inner code hb c0 hc0 p a hp (p + 1 - (a + 1)).toNat (a + 1) at_ seed l (by omega) (by omega) h1 (by omega) hd (by omega)
    simp only at k1 k2 k3 k4
    rw [loopP_nxt (s' := (a + 1, a', s', l'))]
    · obtain ⟨r, e2, q1, q2, q3, q4⟩ := ih (a + 1) a' s' l' (by omega) (by omega) (by omega) (by omega) k3 (by omega)
      exact ⟨r, e2, by omega, by omega, q3, by omega⟩
    · simp only [m57_1b, sel4, (ltI_iff a p).2 (by omega), br_true, ew, e, bnd_ok, sel3]
theorem dRels (code : List Int) (hb : ∀ y ∈ code, 0 ≤ y ∧ y ≤ 255) : Ans (fun r => 1 ≤ r.1 ∧ r.1 ≤ 4 ∧ 0 ≤ r.2.1 ∧ r.2.1 ≤ 300 ∧ Drawn r.2.2.2) (m57 ⟨code, 0, 0⟩) := by
  unfold m57
  refine ans_bnd (cPick code 0 0 4 (by omega) (by omega) hb) fun r hr => ?_
  obtain ⟨x, a1, s1⟩ := r
  simp only [sel3_ok] at hr ⊢
  have ew : wadd .i64 1 x = 1 + x := wadd64 (by omega) (by omega)
  rw [ew]
  refine ans_bnd (outer code hb ⟨code, 0, 0⟩ rfl (1 + x) (by omega) (by omega) (1 + x).toNat 0 a1 s1 [] (by omega) (by omega) (by omega) (by omega) ⟨by simp, by simp⟩ (by simp; omega)) fun r hr2 => ?_
  obtain ⟨a2, s2, l⟩ := r
  simp only [sel3_ok] at hr2 ⊢
  refine ans_bnd (cOne code a2 s2 30 (by omega) (by omega) hb) fun r hr3 => ?_
  obtain ⟨o, a3, s3⟩ := r
  simp only [sel3_ok] at hr3 ⊢
  have h16 : Ans (fun r => 0 ≤ r.1 ∧ r.1 ≤ 300 ∧ Drawn r.2.2) (m57_16 o ⟨code, 0, 0⟩ a3 s3 l) := by
    unfold m57_16
    rw [ans_br]
    refine ⟨fun _ => ?_, fun _ => (ans_some _ _).2 ⟨by simp only []; omega, by simp only []; omega, hr2.2.2.1⟩⟩
    refine ans_bnd (cPick code a3 s3 3 (by omega) (by omega) hb) fun r hr4 => ?_
    obtain ⟨y, a4, s4⟩ := r
    simp only [sel3_ok] at hr4 ⊢
    refine ans_bnd (cPick code a4 s4 8 (by omega) (by omega) hb) fun r hr5 => ?_
    obtain ⟨z, a5, s5⟩ := r
    simp only [sel3_ok] at hr5 ⊢
    refine ans_bnd (cPick code a5 s5 5 (by omega) (by omega) hb) fun r hr6 => ?_
    obtain ⟨u, a6, s6⟩ := r
    simp only [sel3_ok] at hr6 ⊢
    have hlen : l.length ≤ 100 := by have := hr2.2.2.2; simp at this; omega
    rw [ck_ok (show l.length + 1 ≤ 4294967296 by omega), ans_some]
    exact ⟨by simp only []; omega, by simp only []; omega, hr2.2.2.1.add (by omega) (by simp only []; omega)⟩
  refine ans_bnd h16 fun r hr4 => ?_
  obtain ⟨a4, s4, l'⟩ := r
  simp only [sel3_ok] at hr4 ⊢
  rw [ans_some]
  exact ⟨by simp only []; omega, by simp only []; omega, hr4.1, hr4.2.1, hr4.2.2⟩
theorem dFree (code : List Int) (hb : ∀ y ∈ code, 0 ≤ y ∧ y ≤ 255) : Ans (fun r => Drawn r.2.1 ∧ r.2.2.length ≤ 1000) (m26 code) := by
  unfold m26
  refine ans_bnd (dRels code hb) fun r hr => ?_
  obtain ⟨n, a1, s1, l⟩ := r
  simp only [sel4_ok] at hr ⊢
  obtain ⟨hr1, hr2, hr3, hr4, hd⟩ := hr
  refine ans_bnd (cPick code a1 s1 _ hr3 (by omega) hb) fun r hr => ?_
  obtain ⟨x, a2, s2⟩ := r
  simp only [sel3_ok] at hr ⊢
  refine ans_bnd (cPick code a2 s2 5 (by omega) (by omega) hb) fun r hr5 => ?_
  obtain ⟨m, a3, s3⟩ := r
  simp only [sel3_ok] at hr5 ⊢
  have hloop : ∀ (k : Nat) (at_ seed : Int) (p : List Int), k ≤ 5 → 0 < p.length → p.length + k ≤ 100 → 0 ≤ at_ → at_ ≤ 1000 - 2 * k →
      Ans (fun r => 0 ≤ r.1 ∧ r.1 ≤ 1000 ∧ r.2.2.length ≤ 100) (loopP (m26_1b n code l) ((k : Int), at_, seed, p)) := by
    intro k
    induction k with
    | zero =>
      intro at_ seed p hk h0 hl h1 h2
      exact ⟨_, loopP_out (b := (at_, seed, p)) (by simp only [m26_1b, sel4]; rw [(ltI_not _ _).2 (by omega), br_false]), h1, by simp only []; omega, by simp only []; omega⟩
    | succ k ih =>
      intro at_ seed p hk h0 hl h1 h2
      obtain ⟨⟨y, a', s'⟩, e, hy⟩ := cPick code at_ seed (wadd .i64 n 1) h1 (by omega) hb
      simp only at hy
      have ei : idx p (wsub .i64 (p.length : Int) 1) = some (p[p.length - 1]'(by omega)) := by
        have : wsub .i64 (p.length : Int) 1 = ((p.length - 1 : Nat) : Int) := by rw [wsub64 (by omega) (by omega)]; omega
        rw [this]; exact idx_get (by omega)
      have e4 : Ans (fun _ => True) (m26_4 y l p) := by
        unfold m26_4
        rw [ei, bnd_ok, p45 l _ _ hd.1, bnd_ok, ans_br]
        refine ⟨fun _ => (ans_some _ _).2 trivial, fun _ => ?_⟩
        rw [p47 p y (by omega), bnd_ok]; exact (ans_some _ _).2 trivial
      obtain ⟨v, e4, _⟩ := e4
      have e5 : Ans (fun q => 0 < q.length ∧ q.length ≤ p.length + 1) (m26_5 y v p) := by
        unfold m26_5
        rw [ans_br]
        refine ⟨fun _ => ?_, fun _ => (ans_some _ _).2 (by omega)⟩
        rw [ck_ok (show p.length + 1 ≤ 4294967296 by omega), ans_some]; simp
      obtain ⟨q, e5, hq1, hq2⟩ := e5
      have ek : wsub .i64 ((k + 1 : Nat) : Int) 1 = (k : Int) := by rw [wsub64 (by omega) (by omega)]; omega
      rw [loopP_nxt (s' := ((k : Int), a', s', q))]
      · exact ih a' s' q (by omega) hq1 (by omega) (by omega) (by omega)
      · simp only [m26_1b, sel4, (ltI_iff 0 ((k + 1 : Nat) : Int)).2 (by omega), br_true, e, bnd_ok, sel3_ok, e4, e5, ek]
  obtain ⟨k, rfl⟩ := Int.eq_ofNat_of_zero_le hr5.1
  refine ans_bnd (hloop k a3 s3 [x] (by omega) (by simp) (by simp; omega) (by omega) (by omega)) fun r hr6 => ?_
  obtain ⟨a4, s4, p⟩ := r
  simp only [sel3_ok] at hr6 ⊢
  refine ans_bnd (cOne code a4 s4 20 (by omega) (by omega) hb) fun r hr7 => ?_
  obtain ⟨o, a5, s5⟩ := r
  simp only [sel3_ok] at hr7 ⊢
  have h6 : Ans (fun q => q.length ≤ 101) (m26_6 o code a5 s5 p) := by
    unfold m26_6
    rw [ans_br]
    refine ⟨fun _ => ?_, fun _ => (ans_some _ _).2 (by omega)⟩
    refine ans_bnd (cPick code a5 s5 7 (by omega) (by omega) hb) fun r hr => ?_
    obtain ⟨y, b, t⟩ := r
    simp only [sel3_ok] at hr ⊢
    rw [ck_ok (show p.length + 1 ≤ 4294967296 by omega), ans_some]; simp; omega
  refine ans_bnd h6 fun q hq => ?_
  exact (ans_some _ _).2 ⟨hd, by simp only []; omega⟩
theorem dKind (code : List Int) (hb : ∀ y ∈ code, 0 ≤ y ∧ y ≤ 255) : Ans (fun r => Drawn r.2.1) (m27 code) := by
  unfold m27
  refine ans_bnd (dRels code hb) fun r hr => ?_
  obtain ⟨n, a1, s1, l⟩ := r
  simp only [sel4_ok] at hr ⊢
  refine ans_bnd (cPick code a1 s1 6 (by omega) (by omega) hb) fun r hr2 => ?_
  obtain ⟨x, a2, s2⟩ := r
  simp only [sel3_ok] at hr2 ⊢
  refine ans_bnd (cPick code a2 s2 6 (by omega) (by omega) hb) fun r hr3 => ?_
  obtain ⟨y, a3, s3⟩ := r
  exact (ans_some _ _).2 hr.2.2.2.2
theorem dTell (code : List Int) (hb : ∀ y ∈ code, 0 ≤ y ∧ y ≤ 255) : Ans (fun r => Drawn r.2.1) (m28 code) := by
  unfold m28
  refine ans_bnd (dRels code hb) fun r hr => ?_
  obtain ⟨n, a1, s1, l⟩ := r
  simp only [sel4_ok] at hr ⊢
  refine ans_bnd (cPick code a1 s1 5 (by omega) (by omega) hb) fun r hr2 => ?_
  obtain ⟨x, a2, s2⟩ := r
  simp only [sel3_ok] at hr2 ⊢
  refine ans_bnd (cPick code a2 s2 5 (by omega) (by omega) hb) fun r hr3 => ?_
  obtain ⟨y, a3, s3⟩ := r
  simp only [sel3_ok] at hr3 ⊢
  refine ans_bnd (cPick code a3 s3 5 (by omega) (by omega) hb) fun r hr4 => ?_
  exact (ans_some _ _).2 hr.2.2.2.2
/-! ### The law -/
theorem p17 (n : Int) (l : List Rel) (a b : Int) (hl : l.length ≤ 1000) (hw : ∀ r ∈ l, -9223372036854775807 ≤ r.b ∧ r.b ≤ 9223372036854775807) : m17 n l a b = some (if goodB n l = true then (kd a b l, !eqI (kd a b l) 0) else (0, false)) := by
  simp only [m17, p14 n l hl hw, p46 l _ _ hl, bnd_ok]
  cases goodB n l <;> rfl
theorem p16 (n : Int) (l : List Rel) (a b : Int) (hl : l.length ≤ 1000) : m16 n l a b = some (if goodB n l = true then (kd a b l, !eqI (kd a b l) 0) else (0, false)) := by
  simp only [m16, m16_1, p12 n l hl, p45 l _ _ hl, bnd_ok]
  cases goodB n l with
  | false => rfl
  | true =>
    by_cases c : kd a b l = 0
    · rw [c, eqI_self]; rfl
    · rw [(eqI_not _ _).2 c]; rfl
theorem part2 (n : Int) (l : List Rel) (p : List Int) (hl : l.length ≤ 1000) (hp : p.length ≤ 1000) (hw : ∀ r ∈ l, -9223372036854775807 ≤ r.b ∧ r.b ≤ 9223372036854775807) : m8_2 n (okV n l p && free false (ks l p)) (okV n l p) l p = some (.inl ()) := by
  unfold m8_2
  cases ho : okV n l p with
  | false => rfl
  | true =>
    simp only [okV, Bool.and_eq_true, decide_eq_true_eq] at ho
    have h := loop8 n l p hl hp hw ho.1.1 ho.2 (p.length - 2) 1 true (by omega) (by omega)
    rw [show 1 - 1 = 0 from rfl, List.drop_zero] at h
    have e : loopP (m8_3b n l p) (true, 1) = _ := h
    rw [br_true, e, bnd_ok, selS_inl, pairs_free, Bool.true_and, eqB_self, br_true]
theorem part7 (n : Int) (l : List Rel) (a b : Int) (hl : l.length ≤ 1000) (hw : ∀ r ∈ l, -9223372036854775807 ≤ r.b ∧ r.b ≤ 9223372036854775807) (v : Int × Bool) (hv : v = if goodB n l = true then (kd a b l, !eqI (kd a b l) 0) else (0, false)) : m8_7 n a b v.1 v.2 l = some (.inl ()) := by
  subst hv
  cases hg : goodB n l with
  | false => rfl
  | true =>
    rw [if_pos rfl]
    unfold m8_7
    by_cases c : kd a b l = 0
    · rw [c, eqI_self]; rfl
    · have hs := kd_symm (good_rels hg) a b
      have hr := kd_range (good_rels hg) a b
      rw [(eqI_not _ _).2 c, Bool.not_false, br_true, p17 n l b a hl hw, bnd_ok, hg, if_pos rfl]
      simp only [sel2_ok, (eqI_not (kd b a l) 0).2 (by omega), Bool.not_false, m8_8, br_true]
      have e : wadd .i64 (kd b a l) (kd a b l) = 4 := by rw [wadd64 (by omega) (by omega)]; omega
      rw [e, eqI_self]; rfl
theorem law (a b : List Int) (ha : wfLIntu8 a) (hb : wfLIntu8 b) : m8 a b = some true := by
  unfold m8
  cases hl : ltI 1048576 (wadd .i64 (a.length : Int) (b.length : Int)) with
  | true => rfl
  | false =>
    rw [br_false]
    obtain ⟨⟨n, l, p⟩, e1, ⟨hl1, hw1⟩, hp⟩ := dFree a (fun y hy => ha.2 y hy)
    obtain ⟨e2, e3⟩ := same n l p hl1 hp hw1
    obtain ⟨⟨n2, l2, x, y⟩, e4, hl2, hw2⟩ := dKind b (fun y hy => hb.2 y hy)
    obtain ⟨⟨n3, l3, c, d, f⟩, e5, hl3, hw3⟩ := dTell b (fun y hy => hb.2 y hy)
    simp only at hl1 hw1 hp hl2 hw2 hl3 hw3
    have e6 := p17 n2 l2 x y hl2 hw2
    have e7 := p16 n2 l2 x y hl2
    generalize hv : (if goodB n2 l2 = true then (kd x y l2, !eqI (kd x y l2) 0) else (0, false)) = v at e6 e7
    have h7 := part7 n2 l2 x y hl2 hw2 v hv.symm
    obtain ⟨v1, v2⟩ := v
    simp only [e1, bnd_ok, sel3_ok, e2, e3, sel2_ok, m8_1, eqB_self, br_true, Bool.not_true, br_false, part2 n l p hl1 hp hw1, selS_inl, e4, sel4_ok, e6, e7, m8_6, eqI_self, h7, e5, sel5_ok, p19 n3 l3 c d f hl3 hw3, p18 n3 l3 c d f hl3, m8_9]
end Go.Pi.Ytichbkallidkcaa.Valley
