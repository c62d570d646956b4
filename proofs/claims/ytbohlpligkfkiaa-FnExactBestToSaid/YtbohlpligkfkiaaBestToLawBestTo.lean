/- What functions of the program answer, and that the law answers true at every input; no condition -/
import Derived.Test.YtbohlpligkfkiaaBestToStdBestTo
set_option linter.all false
/- BestTo: the program answers as the reference does. -/
namespace Go.Pi.Ytbohlpligkfkiaa.BestTo
open Go Go.Pi
/-! ### Good algebras -/
theorem p45 (a x y : Int) : m45 a x y = some (decide (x ≤ a ∧ a ≤ y)) := by
  simp only [m45, m45_1, bnd_ok, br_bool]
  rw [Option.some.injEq, Bool.eq_iff_iff, decide_eq_true_eq]
  simp only [Bool.and_eq_true, Bool.or_eq_true, Bool.not_eq_true', leI_iff, ltI_iff, leI_not, and_false, or_false, Bool.false_eq_true]
theorem p48 (a x y : Int) : m48 a x y = some (decide (x ≤ a ∧ a ≤ y)) := p45 a x y
/-- A row of a good algebra. -/
def goodRow (w : Int) (r : List Int) : Prop := (r.length : Int) = w ∧ (∀ x ∈ r, 0 ≤ x ∧ x < w) ∧ r[(w - 1).toNat]? = some (w - 1)
instance (w : Int) (r : List Int) : Decidable (goodRow w r) := by unfold goodRow; infer_instance
theorem idx_w {r : List Int} {w : Int} (h1 : 1 ≤ w) (h2 : w ≤ 12) (hl : (r.length : Int) = w) : ∃ y, r[(w - 1).toNat]? = some y ∧ idx r (w - 1) = some y := by
  obtain ⟨n, rfl⟩ : ∃ n : Nat, w = ((n + 1 : Nat) : Int) := ⟨(w - 1).toNat, by omega⟩
  have e : ((n + 1 : Nat) : Int) - 1 = (n : Int) := by omega
  have hn : n < r.length := by omega
  rw [e]
  exact ⟨r[n], by simp [hn], idx_get hn⟩
theorem p46 (r : List Int) (w : Int) (hr : r.length ≤ 1048576) (h1 : 2 ≤ w) (h2 : w ≤ 12) : m46 r w = some (decide (goodRow w r)) := by
  unfold m46
  have := loop_find (body := m46_1b r w (r.length : Int)) r (fun x => if decide (0 ≤ x ∧ x < w) = true then none else some (.inr ())) (.inl ()) (fun k h => by
    simp only [m46_1b, (ltI_iff (k : Int) (r.length : Int)).2 (by omega), br_true, idx_get h, bnd_ok, m46_3, wsucc h (by omega)]
    by_cases h1 : r[k] < 0
    · rw [(ltI_iff _ _).2 h1, br_true, bnd_ok, br_true, if_neg (by simp; omega)]
    · rw [(ltI_not _ _).2 (by omega), br_false, bnd_ok]
      by_cases h3 : w ≤ r[k]
      · rw [(leI_iff _ _).2 h3, br_true, if_neg (by simp; omega)]
      · rw [(leI_not _ _).2 (by omega), br_false, if_pos (by simp; omega)]) (by simp only [m46_1b, (ltI_not (r.length : Int) (r.length : Int)).2 (by omega), br_false])
  rw [this, bnd_ok]
  have e1 : wsub .i64 w 1 = w - 1 := wsub64 (by omega) (by omega)
  by_cases hall : ∀ x ∈ r, 0 ≤ x ∧ x < w
  · have h3 : r.findSome? (fun x => if decide (0 ≤ x ∧ x < w) = true then none else some (Sum.inr () : Unit ⊕ Unit)) = none := by
      rw [List.findSome?_eq_none_iff]
      intro x hx
      rw [if_pos (by simpa using hall x hx)]
    rw [h3, Option.getD_none, selS_inl]
    simp only [m46_4, e1]
    by_cases hl : (r.length : Int) = w
    · obtain ⟨y, hy1, hy2⟩ := idx_w (by omega) h2 hl
      rw [(eqI_iff _ _).2 hl, br_true, hy2, bnd_ok, bnd_ok]
      by_cases hy : y = w - 1
      · rw [(eqI_iff _ _).2 hy, decide_eq_true (show goodRow w r from ⟨hl, hall, by rw [hy1, hy]⟩)]
      · rw [(eqI_not _ _).2 hy, decide_eq_false (fun h : goodRow w r => by have := h.2.2; rw [hy1] at this; injection this with this; exact hy this)]
    · rw [(eqI_not _ _).2 hl, br_false, bnd_ok, decide_eq_false (fun h : goodRow w r => hl h.1)]
  · obtain ⟨v, hv⟩ : ∃ v, r.findSome? (fun x => if decide (0 ≤ x ∧ x < w) = true then none else some (Sum.inr () : Unit ⊕ Unit)) = some v := by
      cases h3 : r.findSome? (fun x => if decide (0 ≤ x ∧ x < w) = true then none else some (Sum.inr () : Unit ⊕ Unit)) with
      | some v => exact ⟨v, rfl⟩
      | none =>
        rw [List.findSome?_eq_none_iff] at h3
        refine absurd (fun x hx => ?_) hall
        have := h3 x hx
        by_cases h4 : 0 ≤ x ∧ x < w
        · exact h4
        · rw [if_neg (by simpa using h4)] at this; cases this
    obtain ⟨x, _, hx⟩ := List.exists_of_findSome?_eq_some hv
    have hv2 : v = .inr () := by
      split at hx
      · cases hx
      · cases hx; rfl
    rw [hv, hv2, Option.getD_some, selS_inr, decide_eq_false (fun h : goodRow w r => hall h.2.1)]

def good (a : Algebra) : Prop := (2 ≤ a.weights ∧ a.weights ≤ 12) ∧ (1 ≤ (a.apply.length : Int) ∧ (a.apply.length : Int) ≤ 4) ∧ ∀ r ∈ a.apply, goodRow a.weights r
instance (a : Algebra) : Decidable (good a) := by unfold good; infer_instance
theorem any_not {α : Type} (l : List α) (p : α → Prop) [DecidablePred p] : (!(l.any fun x => !(decide (p x)))) = decide (∀ x ∈ l, p x) := by
  rw [Bool.eq_iff_iff, decide_eq_true_eq]
  simp
theorem p13 (a : Algebra) (h : smAlgebra a) : m13 a = some (decide (good a)) := by
  obtain ⟨_, hl, hr⟩ := h
  unfold m13 m13_1
  rw [p45, bnd_ok]
  by_cases hw : 2 ≤ a.weights ∧ a.weights ≤ 12
  · rw [decide_eq_true hw, br_true, p45, bnd_ok, bnd_ok]
    by_cases hn : 1 ≤ (a.apply.length : Int) ∧ (a.apply.length : Int) ≤ 4
    · rw [decide_eq_true hn]
      show br false _ _ = _
      rw [br_false]
      have := loop_find (body := m13_2b a (a.apply.length : Int)) a.apply (fun r => if decide (goodRow a.weights r) = true then none else some (.inr ())) (.inl ()) (fun k h => by
        simp only [m13_2b, (ltI_iff (k : Int) (a.apply.length : Int)).2 (by omega), br_true, idx_get h, bnd_ok, wsucc h (by omega), p46 _ _ (hr _ (List.getElem_mem h)) hw.1 hw.2]
        cases decide (goodRow a.weights a.apply[k]) <;> rfl) (by simp only [m13_2b, (ltI_not (a.apply.length : Int) (a.apply.length : Int)).2 (by omega), br_false])
      rw [this, bnd_ok]
      by_cases hall : ∀ r ∈ a.apply, goodRow a.weights r
      · have h3 : a.apply.findSome? (fun r => if decide (goodRow a.weights r) = true then none else some (Sum.inr () : Unit ⊕ Unit)) = none := by
          rw [List.findSome?_eq_none_iff]
          intro x hx
          rw [if_pos (by simpa using hall x hx)]
        rw [h3, Option.getD_none, selS_inl, decide_eq_true (show good a from ⟨hw, hn, hall⟩)]
      · obtain ⟨v, hv⟩ : ∃ v, a.apply.findSome? (fun r => if decide (goodRow a.weights r) = true then none else some (Sum.inr () : Unit ⊕ Unit)) = some v := by
          cases h3 : a.apply.findSome? (fun r => if decide (goodRow a.weights r) = true then none else some (Sum.inr () : Unit ⊕ Unit)) with
          | some v => exact ⟨v, rfl⟩
          | none =>
            rw [List.findSome?_eq_none_iff] at h3
            refine absurd (fun x hx => ?_) hall
            have := h3 x hx
            by_cases h4 : goodRow a.weights x
            · exact h4
            · rw [if_neg (by simpa using h4)] at this; cases this
        obtain ⟨x, _, hx⟩ := List.exists_of_findSome?_eq_some hv
        have hv2 : v = .inr () := by
          split at hx
          · cases hx
          · cases hx; rfl
        rw [hv, hv2, Option.getD_some, selS_inr, decide_eq_false (fun h : good a => hall h.2.2)]
    · rw [decide_eq_false hn]
      show br true _ _ = _
      rw [br_true, decide_eq_false (fun h : good a => hn h.2.1)]
  · rw [decide_eq_false hw, br_false, bnd_ok, br_true, decide_eq_false (fun h : good a => hw h.1)]
theorem p51 (a : Algebra) (h : 0 ≤ a.weights) (h2 : a.weights ≤ 1000000) : m51 a = some (a.weights - 1) := by
  unfold m51
  rw [wsub64 (by omega) (by omega)]
theorem p50 (a : Algebra) (r : List Int) (hr : r.length ≤ 1048576) (h1 : 2 ≤ a.weights) (h2 : a.weights ≤ 12) : m50 r a = some (!(decide (goodRow a.weights r))) := by
  unfold m50 m50_1
  by_cases hl : (r.length : Int) = a.weights
  · obtain ⟨y, hy1, hy2⟩ := idx_w (by omega) h2 hl
    rw [(eqI_iff _ _).2 hl, br_true, p51 a (by omega) (by omega), bnd_ok, hy2, bnd_ok]
    by_cases hy : y = a.weights - 1
    · rw [(eqI_iff _ _).2 hy, br_true]
      have h53 : ∀ y, m53 y a = some (!(decide (0 ≤ y ∧ y ≤ a.weights - 1))) := fun y => by simp only [m53, p51 a (by omega) (by omega), bnd_ok, p48]
      have h52 : m52 r (fun y0 => m53 y0 a) = some (r.any fun y => !(decide (0 ≤ y ∧ y ≤ a.weights - 1))) := by
        unfold m52 m78
        rw [indexFunc (body := m78_1b r (r.length : Int) fun y0 => m53 y0 a) r (f := fun y0 => m53 y0 a) (fun y => !(decide (0 ≤ y ∧ y ≤ a.weights - 1))) (fun x _ => h53 x) (by omega) (fun s => rfl), bnd_ok, containsFunc]
      rw [h52, bnd_ok, bnd_ok, Option.some.injEq, Bool.eq_iff_iff]
      simp only [List.any_eq_true, Bool.not_eq_true', decide_eq_false_iff_not]
      constructor
      · rintro ⟨x, hx, hn⟩ h
        exact hn (by have := h.2.1 x hx; omega)
      · intro h
        refine Classical.byContradiction fun hn => h ⟨hl, fun x hx => ?_, by rw [hy1, hy]⟩
        refine Classical.byContradiction fun hx2 => hn ⟨x, hx, by omega⟩
    · rw [(eqI_not _ _).2 hy, br_false, bnd_ok, decide_eq_false (fun h : goodRow a.weights r => by have := h.2.2; rw [hy1] at this; injection this with this; exact hy this)]
      rfl
  · rw [(eqI_not _ _).2 hl, br_false, bnd_ok, decide_eq_false (fun h : goodRow a.weights r => hl h.1)]
    rfl
theorem p15 (a : Algebra) (h : smAlgebra a) : m15 a = some (decide (good a)) := by
  obtain ⟨_, hl, hr⟩ := h
  unfold m15 m15_1
  rw [p48, bnd_ok]
  by_cases hw : 2 ≤ a.weights ∧ a.weights ≤ 12
  · rw [decide_eq_true hw, br_true, p48, bnd_ok, bnd_ok]
    by_cases hn : 1 ≤ (a.apply.length : Int) ∧ (a.apply.length : Int) ≤ 4
    · rw [decide_eq_true hn]
      show br false _ _ = _
      rw [br_false]
      have h49 : m49 a.apply (fun y0 => m50 y0 a) = some (a.apply.any fun r => !(decide (goodRow a.weights r))) := by
        unfold m49 m77
        rw [indexFunc (body := m77_1b a.apply (a.apply.length : Int) fun y0 => m50 y0 a) a.apply (f := fun y0 => m50 y0 a) (fun r => !(decide (goodRow a.weights r))) (fun r hm => p50 a r (hr r hm) hw.1 hw.2) (by omega) (fun s => rfl), bnd_ok, containsFunc]
      rw [h49, bnd_ok, any_not]
      by_cases hall : ∀ r ∈ a.apply, goodRow a.weights r
      · rw [decide_eq_true hall, decide_eq_true (show good a from ⟨hw, hn, hall⟩)]
      · rw [decide_eq_false hall, decide_eq_false (fun h : good a => hall h.2.2)]
    · rw [decide_eq_false hn]
      show br true _ _ = _
      rw [br_true, decide_eq_false (fun h : good a => hn h.2.1)]
  · rw [decide_eq_false hw, br_false, bnd_ok, br_true, decide_eq_false (fun h : good a => hw h.1)]

/-! ### Arcs -/
def arcOk (a : Algebra) (x : Arc) : Prop := (0 ≤ x.from_ ∧ x.from_ ≤ 5) ∧ (0 ≤ x.to ∧ x.to ≤ 5) ∧ ¬ x.from_ = x.to ∧ 0 ≤ x.label ∧ x.label < (a.apply.length : Int)
instance (a : Algebra) (x : Arc) : Decidable (arcOk a x) := by unfold arcOk; infer_instance
def arcsOk (a : Algebra) (l : List Arc) : Prop := good a ∧ l.length ≤ 20 ∧ ∀ x ∈ l, arcOk a x
instance (a : Algebra) (l : List Arc) : Decidable (arcsOk a l) := by unfold arcsOk; infer_instance
theorem findSome_unit {α : Type} (l : List α) (p : α → Prop) [DecidablePred p] :
    (l.findSome? (fun x => if decide (p x) = true then none else some (Sum.inr () : Unit ⊕ Unit))).getD (.inl ()) = if decide (∀ x ∈ l, p x) = true then .inl () else .inr () := by
  induction l with
  | nil => simp
  | cons x r ih =>
    rw [List.findSome?_cons]
    by_cases h : p x
    · rw [if_pos (decide_eq_true h)]
      simp only [List.mem_cons, forall_eq_or_imp, h, true_and]
      exact ih
    · rw [if_neg (by simpa using h), if_neg (by simp [h])]; rfl
theorem p59 (a : Algebra) (h : smAlgebra a) (l : List Arc) (hl : l.length ≤ 1048576) : m59 a l = some (decide (arcsOk a l)) := by
  have ha := h.2.1
  unfold m59
  rw [loop_find (body := m59_1b l (l.length : Int) a) l (fun x => if decide (arcOk a x) = true then none else some (.inr ())) (.inl ()) (fun k hk => by
    have e3 : m59_3 a l[k] = some (!decide (arcOk a l[k])) := by
      unfold m59_3
      rw [p45, bnd_ok]
      by_cases c1 : 0 ≤ l[k].from_ ∧ l[k].from_ ≤ 5
      · rw [decide_eq_true c1, br_true, p45, bnd_ok]
        by_cases c2 : 0 ≤ l[k].to ∧ l[k].to ≤ 5
        · rw [decide_eq_true c2, br_true]
          by_cases c3 : l[k].from_ = l[k].to
          · rw [(eqI_iff _ _).2 c3, br_true, decide_eq_false (fun h : arcOk a l[k] => h.2.2.1 c3)]; rfl
          · rw [(eqI_not _ _).2 c3, br_false]
            by_cases c4 : l[k].label < 0
            · rw [(ltI_iff _ _).2 c4, br_true, decide_eq_false (fun h : arcOk a l[k] => by have := h.2.2.2.1; omega)]; rfl
            · rw [(ltI_not _ _).2 (by omega), br_false]
              by_cases c5 : (a.apply.length : Int) ≤ l[k].label
              · rw [(leI_iff _ _).2 c5, decide_eq_false (fun h : arcOk a l[k] => by have := h.2.2.2.2; omega)]; rfl
              · rw [(leI_not _ _).2 (by omega), decide_eq_true (show arcOk a l[k] from ⟨c1, c2, c3, by omega, by omega⟩)]; rfl
        · rw [decide_eq_false c2, br_false, decide_eq_false (fun h : arcOk a l[k] => c2 h.2.1)]; rfl
      · rw [decide_eq_false c1, br_false, decide_eq_false (fun h : arcOk a l[k] => c1 h.1)]; rfl
    simp only [m59_1b, (ltI_iff (k : Int) (l.length : Int)).2 (by omega), br_true, idx_get hk, bnd_ok, e3, wsucc hk (by omega)]
    cases decide (arcOk a l[k]) <;> rfl) (by simp only [m59_1b, (ltI_not (l.length : Int) (l.length : Int)).2 (by omega), br_false]), bnd_ok, findSome_unit]
  by_cases hall : ∀ x ∈ l, arcOk a x
  · rw [if_pos (decide_eq_true hall), selS_inl]
    unfold m59_4
    rw [p13 a h, bnd_ok]
    by_cases hg : good a
    · rw [decide_eq_true hg, br_true, bnd_ok]
      congr 1
      by_cases c : l.length ≤ 20
      · rw [(leI_iff _ _).2 (by omega), decide_eq_true (show arcsOk a l from ⟨hg, c, hall⟩)]
      · rw [(leI_not _ _).2 (by omega), decide_eq_false (fun h : arcsOk a l => c h.2.1)]
    · rw [decide_eq_false hg, br_false, bnd_ok, decide_eq_false (fun h : arcsOk a l => hg h.1)]
  · rw [if_neg (by simpa using hall), selS_inr, decide_eq_false (fun h : arcsOk a l => hall h.2.2)]
theorem p64 (x : Int) : m64 x = some (decide (0 ≤ x ∧ x ≤ 5)) := by unfold m64; rw [p48, bnd_ok]
theorem p63 (a : Algebra) (h : smAlgebra a) (l : List Arc) (hl : l.length ≤ 1048576) : m63 a l = some (decide (arcsOk a l)) := by
  have ha := h.2.1
  unfold m63 m63_1
  rw [p15 a h, bnd_ok]
  by_cases hg : good a
  · rw [decide_eq_true hg, br_true]
    by_cases c : l.length ≤ 20
    · have e80 : m80 l (fun y0 => m81 y0 a) = some (l.any fun x => !decide (arcOk a x)) := by
        unfold m80 m83
        rw [indexFunc (body := m83_1b l (l.length : Int) fun y0 => m81 y0 a) l (f := fun y0 => m81 y0 a) (fun x => !decide (arcOk a x)) (fun x hx => by
          unfold m81 m81_1
          rw [p64, bnd_ok]
          by_cases c1 : 0 ≤ x.from_ ∧ x.from_ ≤ 5
          · rw [decide_eq_true c1, br_true, p64, bnd_ok]
            by_cases c2 : 0 ≤ x.to ∧ x.to ≤ 5
            · rw [decide_eq_true c2, br_true]
              by_cases c3 : x.from_ = x.to
              · rw [(eqI_iff _ _).2 c3, br_true, decide_eq_false (fun h : arcOk a x => h.2.2.1 c3)]; rfl
              · rw [(eqI_not _ _).2 c3, br_false, p48, bnd_ok, bnd_ok, wsub64 (by omega) (by omega)]
                congr 2
                by_cases c5 : 0 ≤ x.label ∧ x.label < (a.apply.length : Int)
                · rw [decide_eq_true (show arcOk a x from ⟨c1, c2, c3, c5.1, c5.2⟩), decide_eq_true (by omega)]
                · rw [decide_eq_false (fun h : arcOk a x => c5 ⟨h.2.2.2.1, h.2.2.2.2⟩), decide_eq_false (by omega)]
            · rw [decide_eq_false c2, br_false, decide_eq_false (fun h : arcOk a x => c2 h.2.1)]; rfl
          · rw [decide_eq_false c1, br_false, decide_eq_false (fun h : arcOk a x => c1 h.1)]; rfl) (by omega) (fun s => rfl), bnd_ok, containsFunc]
      rw [(leI_iff _ _).2 (by omega), br_true, e80, bnd_ok, bnd_ok, any_not]
      congr 1
      by_cases hall : ∀ x ∈ l, arcOk a x
      · rw [decide_eq_true hall, decide_eq_true (show arcsOk a l from ⟨hg, c, hall⟩)]
      · rw [decide_eq_false hall, decide_eq_false (fun h : arcsOk a l => hall h.2.2)]
    · rw [(leI_not _ _).2 (by omega), br_false, bnd_ok, decide_eq_false (fun h : arcsOk a l => c h.2.1)]
  · rw [decide_eq_false hg, br_false, bnd_ok, decide_eq_false (fun h : arcsOk a l => hg h.1)]
/-- Is it an arc from one to another one? -/
def isA (f t : Int) (x : Arc) : Bool := eqI x.from_ f && eqI x.to t
theorem findI_find {α : Type} (p : α → Bool) (l : List α) : (match findI p l with | none => l.find? p = none | some i => ∃ h : i < l.length, l.find? p = some l[i]) := by
  induction l with
  | nil => rfl
  | cons x r ih =>
    simp only [findI, List.find?_cons]
    cases h : p x with
    | true => exact ⟨by simp, rfl⟩
    | false =>
      simp only [Bool.false_eq_true, if_false]
      cases hf : findI p r with
      | none => rw [hf] at ih; exact ih
      | some i => rw [hf] at ih; obtain ⟨h1, h2⟩ := ih; exact ⟨by simp; omega, by simpa using h2⟩
theorem findSome_find {α β : Type} (p : α → Bool) (g : α → β) (l : List α) : l.findSome? (fun x => if p x = true then some (g x) else none) = (l.find? p).map g := by
  induction l with
  | nil => rfl
  | cons x r ih =>
    rw [List.findSome?_cons, List.find?_cons]
    cases p x with
    | true => rfl
    | false => exact ih
theorem p61 (l : List Arc) (hl : l.length ≤ 20) (f t : Int) : m61 l f t = some (match l.find? (isA f t) with | none => -1 | some x => x.label) := by
  unfold m61
  rw [loop_find (body := m61_1b f t l (l.length : Int)) l (fun x => if isA f t x = true then some (.inr x.label) else none) (.inl ()) (fun k hk => by
    have e3 : m61_3 f t l[k] = some (isA f t l[k]) := by unfold m61_3 isA; exact br_and _ _
    simp only [m61_1b, (ltI_iff (k : Int) (l.length : Int)).2 (by omega), br_true, idx_get hk, bnd_ok, e3, wsucc hk (by omega)]
    cases isA f t l[k] <;> rfl) (by simp only [m61_1b, (ltI_not (l.length : Int) (l.length : Int)).2 (by omega), br_false]), bnd_ok, findSome_find]
  cases l.find? (isA f t) <;> rfl
theorem p66 (l : List Arc) (hl : l.length ≤ 20) (f t : Int) : m66 l f t = some (match l.find? (isA f t) with | none => (0, false) | some x => (x.label, true)) := by
  unfold m66 m83
  rw [indexFunc (body := m83_1b l (l.length : Int) fun y0 => m84 y0 f t) l (f := fun y0 => m84 y0 f t) (isA f t) (fun x _ => by unfold m84 m84_1 isA; rw [br_and, bnd_ok]) (by omega) (fun s => rfl), bnd_ok]
  have := findI_find (isA f t) l
  cases h : findI (isA f t) l with
  | none => rw [h] at this; simp only [] at this; rw [this]; rfl
  | some i =>
    rw [h] at this
    obtain ⟨h1, h2⟩ := this
    simp only []
    rw [h2, (ltI_not _ _).2 (by omega), br_false, idx_get h1, bnd_ok]
/-- What a label makes of a weight. -/
def ap (a : Algebra) (k w : Int) : Int := (a.apply.getD k.toNat []).getD w.toNat 0
theorem ap_ok {a : Algebra} (g : good a) {k w : Int} (h1 : 0 ≤ k) (h2 : k < (a.apply.length : Int)) (h3 : 0 ≤ w) (h4 : w < a.weights) :
    ∃ r, idx a.apply k = some r ∧ idx r w = some (ap a k w) ∧ 0 ≤ ap a k w ∧ ap a k w < a.weights := by
  obtain ⟨i, rfl⟩ := Int.eq_ofNat_of_zero_le h1
  obtain ⟨j, rfl⟩ := Int.eq_ofNat_of_zero_le h3
  have hi : i < a.apply.length := by omega
  have gr := g.2.2 _ (List.getElem_mem hi)
  have hj : j < a.apply[i].length := by have := gr.1; omega
  have e : ap a (i : Int) (j : Int) = a.apply[i][j] := by simp [ap, List.getD_eq_getElem?_getD, hi, hj]
  have := gr.2.1 _ (List.getElem_mem hj)
  exact ⟨a.apply[i], idx_get hi, by rw [idx_get hj, e], by rw [e]; exact this.1, by rw [e]; exact this.2⟩
theorem find_lab {a : Algebra} {l : List Arc} (h : arcsOk a l) {f t : Int} {x : Arc} (hx : l.find? (isA f t) = some x) : 0 ≤ x.label ∧ x.label < (a.apply.length : Int) := by
  have := h.2.2 x (List.mem_of_find?_eq_some hx)
  exact ⟨this.2.2.2.1, this.2.2.2.2⟩
/-! ### One weight, repeated -/
theorem rep6 (v : Int) (n : Nat) (h1 : 1 ≤ n) (h6 : n ≤ 6) : m70 [v] (n : Int) = some (List.replicate n v) := by
  have hm : ∀ n : Nat, n ≤ 6 → m85 (wcv .u64 ((1 : Nat) : Int)) (wcv .u64 (n : Int)) = some (0, (n : Int)) := by
    intro n hn
    have : n = 0 ∨ n = 1 ∨ n = 2 ∨ n = 3 ∨ n = 4 ∨ n = 5 ∨ n = 6 := by omega
    rcases this with rfl | rfl | rfl | rfl | rfl | rfl | rfl <;> decide
  have hw : wcv .i64 (n : Int) = (n : Int) := w64 (by omega) (by omega)
  unfold m70
  rw [(ltI_not _ _).2 (by omega), br_false, show [v].length = 1 from rfl, hm n h6, bnd_ok, sel2_ok]
  have e1 : m70_1 0 (n : Int) = some false := by
    unfold m70_1
    rw [(ltI_not _ _).2 (by omega), br_false, (ltI_not _ _).2 (by omega)]
  rw [e1, bnd_ok, br_false, hw, ck_ok ⟨by omega, by omega, by omega⟩, Int.toNat_natCast]
  have : n = 1 ∨ n = 2 ∨ n = 3 ∨ n = 4 ∨ n = 5 ∨ n = 6 := by omega
  have nx : ∀ (a b : Int) (l l' : List Int), m70_2b (a, l) = some (.nxt (b, l')) → loopP m70_2b (a, l) = loopP m70_2b (b, l') := fun a b l l' h => loopP_nxt h
  have ou : ∀ (a : Int) (l : List Int), m70_2b (a, l) = some (.out l) → loopP m70_2b (a, l) = some l := fun a l h => loopP_out h
  rcases this with rfl | rfl | rfl | rfl | rfl | rfl
  · show (bnd (loopP m70_2b (1, [v])) fun v44 => some v44) = _
    rw [ou 1 [v] rfl]; rfl
  · show (bnd (loopP m70_2b (1, [v, 0])) fun v44 => some v44) = _
    rw [nx 1 2 [v, 0] [v, v] rfl, ou 2 [v, v] rfl]; rfl
  · show (bnd (loopP m70_2b (1, [v, 0, 0])) fun v44 => some v44) = _
    rw [nx 1 2 [v, 0, 0] [v, v, 0] rfl, nx 2 3 [v, v, 0] [v, v, v] rfl, ou 3 [v, v, v] rfl]; rfl
  · show (bnd (loopP m70_2b (1, [v, 0, 0, 0])) fun v44 => some v44) = _
    rw [nx 1 2 [v, 0, 0, 0] [v, v, 0, 0] rfl, nx 2 4 [v, v, 0, 0] [v, v, v, v] rfl, ou 4 [v, v, v, v] rfl]; rfl
  · show (bnd (loopP m70_2b (1, [v, 0, 0, 0, 0])) fun v44 => some v44) = _
    rw [nx 1 2 [v, 0, 0, 0, 0] [v, v, 0, 0, 0] rfl, nx 2 4 [v, v, 0, 0, 0] [v, v, v, v, 0] rfl, nx 4 5 [v, v, v, v, 0] [v, v, v, v, v] rfl, ou 5 [v, v, v, v, v] rfl]; rfl
  · show (bnd (loopP m70_2b (1, [v, 0, 0, 0, 0, 0])) fun v44 => some v44) = _
    rw [nx 1 2 [v, 0, 0, 0, 0, 0] [v, v, 0, 0, 0, 0] rfl, nx 2 4 [v, v, 0, 0, 0, 0] [v, v, v, v, 0, 0] rfl, nx 4 6 [v, v, v, v, 0, 0] [v, v, v, v, v, v] rfl, ou 6 [v, v, v, v, v, v] rfl]; rfl
def none6 (a : Algebra) : List Int := List.replicate 6 (a.weights - 1)
theorem p68 (a : Algebra) (h0 : 2 ≤ a.weights) (h1 : a.weights ≤ 12) : m68 a = some (none6 a) := by
  have ew : wsub .i64 a.weights 1 = a.weights - 1 := wsub64 (by omega) (by omega)
  have key : ∀ (m k : Nat), m + k = 6 → loopP (m68_1b a) ((k : Int), List.replicate k (a.weights - 1)) = some (List.replicate 6 (a.weights - 1)) := by
    intro m
    induction m with
    | zero =>
      intro k hk
      obtain rfl : k = 6 := by omega
      exact loopP_out rfl
    | succ m ih =>
      intro k hk
      rw [loopP_nxt (s' := (((k + 1 : Nat) : Int), List.replicate (k + 1) (a.weights - 1))), ih (k + 1) (by omega)]
      unfold m68_1b
      rw [sel2_ok, (ltI_iff _ _).2 (by omega), br_true, ck_ok (by rw [List.length_replicate]; omega), wsucc (show k < 6 by omega) (by omega), List.replicate_succ', ew]
  have := key 6 0 (by omega)
  unfold m68
  rw [show ((0 : Nat) : Int) = 0 from rfl, List.replicate_zero] at this
  rw [this]; rfl
theorem pN (a : Algebra) (h0 : 2 ≤ a.weights) (h1 : a.weights ≤ 12) : (bnd (m51 a) fun r14 => m70 [r14] 6) = some (none6 a) := by
  rw [p51 a (by omega) (by omega), bnd_ok]
  exact rep6 (a.weights - 1) 6 (by omega) (by omega)
theorem none6_len (a : Algebra) : (none6 a).length = 6 := by simp [none6]
def stepsX {σ : Type} (g : Nat → σ → σ) : Nat → Nat → σ → σ
  | 0, _, b => b
  | m + 1, k, b => stepsX g m (k + 1) (g k b)
/-! ### Looking at the least first -/
def stX (b : List Int) (lk : List Bool) (k : Nat) (at_ : Int) : Int :=
  if lk.getD k true = true then at_ else if at_ < 0 then (k : Int) else if b.getD k 0 < b.getD at_.toNat 0 then (k : Int) else at_
def atX (b : List Int) (lk : List Bool) : Int := stepsX (stX b lk) 6 0 (-1)
def relS (a : Algebra) (l : List Arc) (t : Int) (lk : List Bool) (f : Nat) (b : List Int) : List Int :=
  match l.find? (isA (f : Int) t) with
  | some x => if lk.getD f true = true then b else if ap a x.label (b.getD t.toNat 0) < b.getD f 0 then b.set f (ap a x.label (b.getD t.toNat 0)) else b
  | none => b
def dijX (a : Algebra) (l : List Arc) : Nat → List Int → List Bool → List Int
  | 0, b, _ => b
  | n + 1, b, lk => dijX a l n (stepsX (relS a l (atX b lk) (lk.set (atX b lk).toNat true)) 6 0 b) (lk.set (atX b lk).toNat true)
theorem stX_inv (b : List Int) (lk : List Bool) : ∀ (m k : Nat) (t : Int), (t = -1 ∧ (∀ i, i < k → lk.getD i true = true) ∨ 0 ≤ t ∧ t < (k : Int) ∧ lk.getD t.toNat true = false) →
    (stepsX (stX b lk) m k t = -1 ∧ (∀ i, i < k + m → lk.getD i true = true) ∨ 0 ≤ stepsX (stX b lk) m k t ∧ stepsX (stX b lk) m k t < ((k + m : Nat) : Int) ∧ lk.getD (stepsX (stX b lk) m k t).toNat true = false) := by
  intro m
  induction m with
  | zero => intro k t h; exact h
  | succ m ih =>
    intro k t h
    have := ih (k + 1) (stX b lk k t) (by
      unfold stX
      cases hk : lk.getD k true with
      | true =>
        rw [if_pos rfl]
        rcases h with ⟨h1, h2⟩ | ⟨h1, h2, h3⟩
        · exact .inl ⟨h1, fun i hi => by
            by_cases e : i = k
            · subst e; exact hk
            · exact h2 i (by omega)⟩
        · exact .inr ⟨h1, by omega, h3⟩
      | false =>
        rw [if_neg (by simp)]
        have hkk : 0 ≤ (k : Int) ∧ (k : Int) < ((k + 1 : Nat) : Int) ∧ lk.getD ((k : Int)).toNat true = false := ⟨by omega, by omega, by rw [Int.toNat_natCast]; exact hk⟩
        by_cases h0 : t < 0
        · rw [if_pos h0]; exact .inr hkk
        · rw [if_neg h0]
          split
          · exact .inr hkk
          · rcases h with ⟨h1, h2⟩ | ⟨h1, h2, h3⟩
            · omega
            · exact .inr ⟨h1, by omega, h3⟩)
    rw [show k + (m + 1) = k + 1 + m by omega]
    exact this
def frees (lk : List Bool) : Nat := (lk.filter (fun x => !x)).length
theorem frees_set (lk : List Bool) (t : Nat) : frees lk ≤ frees (lk.set t true) + 1 := by
  unfold frees
  induction lk generalizing t with
  | nil => simp
  | cons x r ih =>
    cases t with
    | zero => cases x <;> simp
    | succ t => have := ih t; cases x <;> simp <;> omega
theorem frees_ex {lk : List Bool} (h : 0 < frees lk) : ∃ i, i < lk.length ∧ lk.getD i true = false := by
  unfold frees at h
  obtain ⟨x, hx⟩ := List.exists_mem_of_length_pos h
  obtain ⟨h1, h2⟩ := List.mem_filter.1 hx
  obtain ⟨i, hi, rfl⟩ := List.getElem_of_mem h1
  exact ⟨i, hi, by simp [List.getD_eq_getElem?_getD, hi]; simpa using h2⟩
theorem atX_ok {b : List Int} {lk : List Bool} (hl : lk.length = 6) (h : 0 < frees lk) : 0 ≤ atX b lk ∧ atX b lk < 6 ∧ lk.getD (atX b lk).toNat true = false := by
  rcases stX_inv b lk 6 0 (-1) (.inl ⟨rfl, fun i hi => by omega⟩) with ⟨h1, h2⟩ | ⟨h1, h2, h3⟩
  · obtain ⟨i, h3, h4⟩ := frees_ex h
    rw [h2 i (by omega)] at h4; cases h4
  · exact ⟨h1, by unfold atX; omega, h3⟩
/-- Weights of an algebra. -/
def Ws (a : Algebra) (b : List Int) : Prop := b.length = 6 ∧ ∀ k (h : k < b.length), 0 ≤ b[k] ∧ b[k] < a.weights
theorem Ws.set {a : Algebra} {b : List Int} (h : Ws a b) (k : Nat) {v : Int} (h0 : 0 ≤ v) (h1 : v < a.weights) : Ws a (b.set k v) := by
  refine ⟨by rw [List.length_set]; exact h.1, fun i hi => ?_⟩
  rw [List.length_set] at hi
  by_cases e : k = i
  · subst e; rw [List.getElem_set_self]; exact ⟨h0, h1⟩
  · rw [List.getElem_set_ne e]; exact h.2 i hi
theorem getD_get {α : Type} {l : List α} {k : Nat} {d : α} (h : k < l.length) : l.getD k d = l[k] := by simp [List.getD_eq_getElem?_getD, h]
theorem relS_ws {a : Algebra} {l : List Arc} (ho : arcsOk a l) {t : Int} (h0 : 0 ≤ t) (h5 : t < 6) (lk : List Bool) (f : Nat) {b : List Int} (hb : Ws a b) : Ws a (relS a l t lk f b) := by
  unfold relS
  cases hf : l.find? (isA (f : Int) t) with
  | none => exact hb
  | some x =>
    obtain ⟨i, rfl⟩ := Int.eq_ofNat_of_zero_le h0
    have hi : i < b.length := by rw [hb.1]; omega
    obtain ⟨hl1, hl2⟩ := find_lab ho hf
    have hv := hb.2 i hi
    obtain ⟨r, _, _, r3, r4⟩ := ap_ok ho.1 hl1 hl2 hv.1 hv.2
    simp only [Int.toNat_natCast, getD_get hi]
    split
    · exact hb
    · split
      · exact hb.set f r3 r4
      · exact hb
theorem steps_ws {a : Algebra} {g : Nat → List Int → List Int} (hg : ∀ k b, Ws a b → Ws a (g k b)) : ∀ (m k : Nat) (b : List Int), Ws a b → Ws a (stepsX g m k b) := by
  intro m
  induction m with
  | zero => intro k b h; exact h
  | succ m ih => intro k b h; exact ih _ _ (hg k b h)
theorem dij_ws {a : Algebra} {l : List Arc} (ho : arcsOk a l) : ∀ (n : Nat) (b : List Int) (lk : List Bool), Ws a b → lk.length = 6 → n ≤ frees lk → Ws a (dijX a l n b lk) := by
  intro n
  induction n with
  | zero => intro b lk h _ _; exact h
  | succ n ih =>
    intro b lk hb hl hn
    obtain ⟨t0, t1, t2⟩ := atX_ok (b := b) hl (by omega)
    exact ih _ _ (steps_ws (fun k b h => relS_ws ho t0 t1 _ k h) 6 0 b hb) (by rw [List.length_set]; exact hl) (by have := frees_set lk (atX b lk).toNat; omega)
theorem pickS {b : List Int} {lk : List Bool} (hb : b.length = 6) (hl : lk.length = 6) : ∀ (m k : Nat) (t : Int), m + k = 6 → -1 ≤ t → t < 6 → loopP (m37_13b (b.length : Int) b lk) (t, (k : Int)) = some (stepsX (stX b lk) m k t) := by
  intro m
  induction m with
  | zero =>
    intro k t hk h0 h5
    refine loopP_out ?_
    unfold m37_13b
    rw [sel2_ok, (ltI_not _ _).2 (by omega), br_false]; rfl
  | succ m ih =>
    intro k t hk h0 h5
    have hkb : k < b.length := by omega
    have hkl : k < lk.length := by omega
    have hin : -1 ≤ stX b lk k t ∧ stX b lk k t < 6 := by unfold stX; split; omega; split; omega; split <;> omega
    rw [loopP_nxt (s' := (stX b lk k t, ((k + 1 : Nat) : Int))), ih (k + 1) _ (by omega) hin.1 hin.2]; rfl
    unfold m37_13b m37_16 m37_17 stX
    rw [sel2_ok, (ltI_iff _ _).2 (by omega), br_true, idx_get hkl, bnd_ok, getD_get hkl, getD_get hkb, wsucc hkb (by omega)]
    cases lk[k] with
    | true => rfl
    | false =>
      rw [br_false, if_neg (by simp)]
      by_cases c : t < 0
      · rw [(ltI_iff _ _).2 c, if_pos c]; rfl
      · obtain ⟨i, rfl⟩ := Int.eq_ofNat_of_zero_le (show 0 ≤ t by omega)
        have hi : i < b.length := by omega
        rw [(ltI_not _ _).2 (by omega), br_false, if_neg c, idx_get hkb, bnd_ok, idx_get hi, bnd_ok, Int.toNat_natCast, getD_get hi, bnd_ok]
        by_cases c2 : b[k] < b[i]
        · rw [(ltI_iff _ _).2 c2, if_pos c2]; rfl
        · rw [(ltI_not _ _).2 (by omega), if_neg c2]; rfl
theorem pickI {b : List Int} {lk : List Bool} (hb : b.length = 6) (hl : lk.length = 6) : ∀ (m k : Nat) (t : Int), m + k = 6 → -1 ≤ t → t < 6 → loopP (m38_13b (b.length : Int) b lk) (t, (k : Int)) = some (stepsX (stX b lk) m k t) := by
  intro m
  induction m with
  | zero =>
    intro k t hk h0 h5
    refine loopP_out ?_
    unfold m38_13b
    rw [sel2_ok, (ltI_not _ _).2 (by omega), br_false]; rfl
  | succ m ih =>
    intro k t hk h0 h5
    have hkb : k < b.length := by omega
    have hkl : k < lk.length := by omega
    have hin : -1 ≤ stX b lk k t ∧ stX b lk k t < 6 := by unfold stX; split; omega; split; omega; split <;> omega
    rw [loopP_nxt (s' := (stX b lk k t, ((k + 1 : Nat) : Int))), ih (k + 1) _ (by omega) hin.1 hin.2]; rfl
    unfold m38_13b m38_16 m38_17 stX
    rw [sel2_ok, (ltI_iff _ _).2 (by omega), br_true, idx_get hkb, bnd_ok, idx_get hkl, bnd_ok, getD_get hkl, getD_get hkb, wsucc hkb (by omega)]
    cases lk[k] with
    | true => rfl
    | false =>
      rw [br_false, if_neg (by simp)]
      by_cases c : t < 0
      · rw [(ltI_iff _ _).2 c, if_pos c]; rfl
      · obtain ⟨i, rfl⟩ := Int.eq_ofNat_of_zero_le (show 0 ≤ t by omega)
        have hi : i < b.length := by omega
        rw [(ltI_not _ _).2 (by omega), br_false, if_neg c, idx_get hi, bnd_ok, Int.toNat_natCast, getD_get hi, bnd_ok]
        by_cases c2 : b[k] < b[i]
        · rw [(ltI_iff _ _).2 c2, if_pos c2]; rfl
        · rw [(ltI_not _ _).2 (by omega), if_neg c2]; rfl
theorem relLoopS {a : Algebra} {l : List Arc} (ho : arcsOk a l) {i : Nat} (hi6 : i < 6) {lk : List Bool} (hl : lk.length = 6) : ∀ (m k : Nat) (b : List Int), m + k = 6 → Ws a b → loopP (m37_18b l (i : Int) a lk) ((k : Int), b) = some (stepsX (relS a l (i : Int) lk) m k b) := by
  intro m
  induction m with
  | zero =>
    intro k b hk hb
    obtain rfl : k = 6 := by omega
    exact loopP_out rfl
  | succ m ih =>
    intro k b hk hb
    have hkb : k < b.length := by rw [hb.1]; omega
    have hkl : k < lk.length := by omega
    have hi : i < b.length := by rw [hb.1]; omega
    rw [loopP_nxt (s' := (((k + 1 : Nat) : Int), relS a l (i : Int) lk k b)), ih (k + 1) _ (by omega) (relS_ws ho (by omega) (by omega) lk k hb)]; rfl
    have hlt : ltI (k : Int) 6 = true := (ltI_iff _ _).2 (by omega)
    have hww : wadd .i64 (k : Int) 1 = ((k + 1 : Nat) : Int) := wsucc (show k < 6 by omega) (by omega)
    unfold relS
    cases hf : l.find? (isA (k : Int) (i : Int)) with
    | none => simp only [m37_18b, sel2_ok, hlt, br_true, p61 l ho.2.1, hf, bnd_ok, m37_21, (leI_not 0 (-1)).2 (by omega), br_false, m37_22, hww]
    | some x =>
      obtain ⟨hl1, hl2⟩ := find_lab ho hf
      have hv := hb.2 i hi
      obtain ⟨r, r1, r2, r3, r4⟩ := ap_ok ho.1 hl1 hl2 hv.1 hv.2
      have h61 : m61 l (k : Int) (i : Int) = some x.label := by rw [p61 l ho.2.1, hf]
      simp only [m37_18b, sel2_ok, hlt, br_true, h61, bnd_ok, m37_21, (leI_iff 0 x.label).2 hl1, idx_get hkl, hww, Int.toNat_natCast, getD_get hi, getD_get hkl, getD_get hkb]
      cases lk[k] with
      | true => simp only [br_true, bnd_ok, m37_22, br_false, if_true]
      | false =>
        simp only [br_false, r1, bnd_ok, idx_get hi, r2, idx_get hkb, Bool.false_eq_true, if_false, m37_22]
        by_cases c : ap a x.label b[i] < b[k]
        · simp only [(ltI_iff _ _).2 c, br_true, r1, bnd_ok, idx_get hi, r2, idx_get hkb, if_pos c, Int.toNat_natCast]
        · simp only [(ltI_not _ _).2 (Int.not_lt.1 c), br_false, bnd_ok, if_neg c]
theorem relLoopI {a : Algebra} {l : List Arc} (ho : arcsOk a l) {i : Nat} (hi6 : i < 6) {lk : List Bool} (hl : lk.length = 6) : ∀ (m k : Nat) (b : List Int), m + k = 6 → Ws a b → loopP (m38_18b l (i : Int) a lk) ((k : Int), b) = some (stepsX (relS a l (i : Int) lk) m k b) := by
  intro m
  induction m with
  | zero =>
    intro k b hk hb
    obtain rfl : k = 6 := by omega
    exact loopP_out rfl
  | succ m ih =>
    intro k b hk hb
    have hkb : k < b.length := by rw [hb.1]; omega
    have hkl : k < lk.length := by omega
    have hi : i < b.length := by rw [hb.1]; omega
    rw [loopP_nxt (s' := (((k + 1 : Nat) : Int), relS a l (i : Int) lk k b)), ih (k + 1) _ (by omega) (relS_ws ho (by omega) (by omega) lk k hb)]; rfl
    have hlt : ltI (k : Int) 6 = true := (ltI_iff _ _).2 (by omega)
    have hww : wadd .i64 (k : Int) 1 = ((k + 1 : Nat) : Int) := wsucc (show k < 6 by omega) (by omega)
    unfold relS
    cases hf : l.find? (isA (k : Int) (i : Int)) with
    | none => simp only [m38_18b, sel2_ok, hlt, br_true, p66 l ho.2.1, hf, bnd_ok, m38_21, br_false, m38_22, hww]
    | some x =>
      obtain ⟨hl1, hl2⟩ := find_lab ho hf
      have hv := hb.2 i hi
      obtain ⟨r, r1, r2, r3, r4⟩ := ap_ok ho.1 hl1 hl2 hv.1 hv.2
      have h66 : m66 l (k : Int) (i : Int) = some (x.label, true) := by rw [p66 l ho.2.1, hf]
      simp only [m38_18b, sel2_ok, hlt, br_true, h66, bnd_ok, m38_21, idx_get hkl, hww, Int.toNat_natCast, getD_get hi, getD_get hkl, getD_get hkb]
      cases lk[k] with
      | true => simp only [Bool.not_true, bnd_ok, m38_22, br_false, if_true]
      | false =>
        simp only [Bool.not_false, m38_22, br_true, r1, bnd_ok, idx_get hi, r2, idx_get hkb, Bool.false_eq_true, if_false, wmin, Int.toNat_natCast]
        by_cases c : ap a x.label b[i] < b[k]
        · simp only [if_pos c]
        · simp only [if_neg c, List.set_getElem_self]
theorem rounds {a : Algebra} {l : List Arc} (ho : arcsOk a l) : ∀ (n k : Nat) (b : List Int) (lk : List Bool), n + k = 6 → Ws a b → lk.length = 6 → n ≤ frees lk →
    loopP (m37_2b l a) ((k : Int), b, lk) = some (dijX a l n b lk) ∧ loopP (m38_2b l a) ((k : Int), b, lk) = some (dijX a l n b lk) := by
  intro n
  induction n with
  | zero =>
    intro k b lk hk _ _ _
    obtain rfl : k = 6 := by omega
    exact ⟨loopP_out rfl, loopP_out rfl⟩
  | succ n ih =>
    intro k b lk hk hb hl hn
    obtain ⟨t0, t1, t2⟩ := atX_ok (b := b) hl (by omega)
    have hx : atX b lk = stepsX (stX b lk) 6 0 (-1) := rfl
    have e1 := pickS hb.1 hl 6 0 (-1) (by omega) (by omega) (by omega)
    have e2 := pickI hb.1 hl 6 0 (-1) (by omega) (by omega) (by omega)
    rw [show ((0 : Nat) : Int) = 0 from rfl, ← hx] at e1 e2
    have hsl : (lk.set (atX b lk).toNat true).length = 6 := by rw [List.length_set]; exact hl
    obtain ⟨h1, h2⟩ := ih (k + 1) (stepsX (relS a l (atX b lk) (lk.set (atX b lk).toNat true)) 6 0 b) (lk.set (atX b lk).toNat true) (by omega) (steps_ws (fun k b h => relS_ws ho t0 t1 _ k h) 6 0 b hb) hsl (by have := frees_set lk (atX b lk).toNat; omega)
    generalize ht : atX b lk = t at *
    obtain ⟨i, rfl⟩ := Int.eq_ofNat_of_zero_le t0
    have hi6 : i < 6 := by omega
    have hil : i < lk.length := by omega
    have hlt : ltI (k : Int) 6 = true := (ltI_iff _ _).2 (by omega)
    have hww : wadd .i64 (k : Int) 1 = ((k + 1 : Nat) : Int) := wsucc (show k < 6 by omega) (by omega)
    have r1 := relLoopS ho hi6 hsl 6 0 b (by omega) hb
    have r2 := relLoopI ho hi6 hsl 6 0 b (by omega) hb
    rw [show ((0 : Nat) : Int) = 0 from rfl] at r1 r2
    constructor
    · rw [loopP_nxt (s' := (((k + 1 : Nat) : Int), stepsX (relS a l (i : Int) (lk.set (i : Int).toNat true)) 6 0 b, lk.set (i : Int).toNat true)), h1, dijX, ht]
      simp only [m37_2b, sel3_ok, hlt, br_true, e1, bnd_ok, idx_get hil, r1, hww]
    · rw [loopP_nxt (s' := (((k + 1 : Nat) : Int), stepsX (relS a l (i : Int) (lk.set (i : Int).toNat true)) 6 0 b, lk.set (i : Int).toNat true)), h2, dijX, ht]
      simp only [m38_2b, sel3_ok, hlt, br_true, e2, bnd_ok, idx_get hil, r2, hww]
def dij0 (a : Algebra) (t : Int) : List Int := (none6 a).set t.toNat 0
def bestX (a : Algebra) (l : List Arc) (t : Int) : List Int := dijX a l 6 (dij0 a t) (List.replicate 6 false)
theorem dij0_ws {a : Algebra} (g : good a) (t : Int) : Ws a (dij0 a t) := by
  have := g.1
  refine Ws.set ⟨none6_len a, fun k h => ?_⟩ _ (by omega) (by omega)
  simp only [none6, List.getElem_replicate]; omega
theorem best_ws {a : Algebra} {l : List Arc} (ho : arcsOk a l) (t : Int) : Ws a (bestX a l t) := dij_ws ho 6 _ _ (dij0_ws ho.1 t) (by simp) (by decide)
theorem same {a : Algebra} (ha : smAlgebra a) (l : List Arc) (hl : l.length ≤ 1048576) (t : Int) : ∃ x y, m37 a l t = some (x, y) ∧ m38 a l t = some (x, y) ∧ smLInt x := by
  unfold m37 m37_1 m38 m38_1
  rw [p59 a ha l hl, p63 a ha l hl, bnd_ok, bnd_ok]
  by_cases ho : arcsOk a l
  · rw [decide_eq_true ho, br_true, br_true, p45, p64, bnd_ok, bnd_ok]
    by_cases ht : 0 ≤ t ∧ t ≤ 5
    · have hw := ho.1.1
      have hN := pN a hw.1 hw.2
      have e70 : m70 [a.weights - 1] 6 = some (none6 a) := by rw [p51 a (by omega) (by omega), bnd_ok] at hN; exact hN
      obtain ⟨i, rfl⟩ := Int.eq_ofNat_of_zero_le ht.1
      have hi : i < (none6 a).length := by rw [none6_len]; omega
      obtain ⟨r1, r2⟩ := rounds ho 6 0 (dij0 a (i : Int)) (List.replicate 6 false) (by omega) (dij0_ws ho.1 _) (by simp) (by decide)
      rw [show ((0 : Nat) : Int) = 0 from rfl] at r1 r2
      have hbw := best_ws ho (i : Int)
      have c6 : (0 : Nat) ≤ 6 ∧ (6 : Nat) ≤ 6 ∧ (6 : Nat) ≤ 4294967296 := by omega
      unfold dij0 at r1 r2
      simp only [decide_eq_true ht, Bool.not_true, bnd_ok, br_false, p68 a hw.1 hw.2, p51 a (show 0 ≤ a.weights by omega) (show a.weights ≤ 1000000 by omega), e70, ck_ok c6, idx_get hi, r1, r2]
      exact ⟨_, _, rfl, rfl, by unfold smLInt; have := hbw.1; unfold bestX dij0 at this; rw [this]; omega⟩
    · rw [decide_eq_false ht]
      exact ⟨_, _, rfl, rfl, by simp [smLInt]⟩
  · rw [decide_eq_false ho]
    exact ⟨_, _, rfl, rfl, by simp [smLInt]⟩
theorem k23 (a : Algebra) (k : Int) (h : smAlgebra a) (h0 : 0 ≤ k) (h1 : k ≤ 2305843009213693952) : ∃ k' ys, m23 a k = some (k', ys) ∧ ys.length = a.apply.length ∧ k ≤ k' ∧ k' ≤ k + 1099511627776 := by
  obtain ⟨k', ys, e1, e2, e3, e4, e5⟩ := k57 a.apply k h.2 h0 h1
  exact ⟨k', ys, by unfold m23; rw [e1, bnd_ok, sel2_ok, ck_ok e2], e2, e3, e4⟩
theorem law (a : Algebra) (l : List Arc) (t : Int) (wa : wfAlgebra a) (wl : wfLArc l) (wt : wfInt t) : m9 a l t = some true := by
  unfold m9
  obtain ⟨v, hv, v1, v2, hs⟩ := z12 a 1048576 wa (by omega) (by omega)
  rw [hv, bnd_ok]
  by_cases c0 : v < 0
  · rw [(ltI_iff _ _).2 c0, br_true]
  rw [(ltI_not _ _).2 (by omega), br_false]
  obtain ⟨u, hu, u1, u2, hs2⟩ := z25 l v wl (by omega) (by omega)
  rw [hu, bnd_ok]
  by_cases c1 : u < 0
  · rw [(ltI_iff _ _).2 c1, br_true]
  rw [(ltI_not _ _).2 (by omega), br_false]
  have sa := hs (by omega)
  have sl := hs2 (by omega)
  have sl' : l.length ≤ 1048576 := sl
  obtain ⟨x, y, e1, e2, sx⟩ := same sa l sl' t
  obtain ⟨k1, ya, f1, f2, f3, f4⟩ := k23 a 1 sa (by omega) (by omega)
  obtain ⟨yb, g1, g2⟩ := k34 l k1 sl (by omega) (by omega)
  have hx : x.length ≤ 1048576 := sx
  simp only [t14 a sa, bnd_ok, t27 l sl, e1, e2, sel2_ok, m9_1, m9_2, m9_3, q31 x sx, br_true, eqB_self, Bool.not_true, br_false, q16 a sa, q30 l sl, f1, ck_ok f2, g1, ck_ok g2, (ltI_not (k1 + (3 : Nat) * (l.length : Int)) 0).2 (by omega), k35 x 1 sx (by omega) (by omega), ramp_length, ck_ok, d36 x.length 1 hx (by omega) (by omega), (ltI_not (1 + (x.length : Int)) 0).2 (by omega), eqI_self]
end Go.Pi.Ytbohlpligkfkiaa.BestTo
