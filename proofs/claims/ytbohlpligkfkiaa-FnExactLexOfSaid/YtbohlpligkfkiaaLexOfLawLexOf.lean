/- What functions of the program answer, and that the law answers true at every input; no condition -/
import Derived.Test.YtbohlpligkfkiaaLexOfStdLexOf
set_option linter.all false
/- LexOf: the program answers as the reference does. -/
namespace Go.Pi.Ytbohlpligkfkiaa.LexOf
open Go Go.Pi
set_option linter.all false

/-- A loop that puts one thing behind the other. -/
theorem loop_push {α β : Type} {body : Int × List α → Option (Ctl (Int × List α) β)} (N : Nat) (f : Nat → α) (e : List α → β) (l0 : List α)
    (hs : ∀ k, k < N → ∀ l : List α, l.length = l0.length + k → body ((k : Int), l) = some (.nxt (((k + 1 : Nat) : Int), l ++ [f k]))) (he : ∀ l : List α, l.length = l0.length + N → body ((N : Int), l) = some (.out (e l))) :
    loopP body (0, l0) = some (e (l0 ++ (List.range N).map f)) := by
  have key : ∀ n k, n + k = N → loopP body ((k : Int), l0 ++ (List.range k).map f) = some (e (l0 ++ (List.range N).map f)) := by
    intro n
    induction n with
    | zero =>
      intro k hk
      obtain rfl : k = N := by omega
      exact loopP_out (he _ (by simp))
    | succ n ih =>
      intro k hk
      rw [loopP_nxt (hs k (by omega) _ (by simp)), List.append_assoc]
      have := ih (k + 1) (by omega)
      rw [List.range_succ, List.map_append] at this
      exact this
  have := key N 0 (by omega)
  simpa using this

/-! ### Good algebras -/
theorem p45 (a x y : Int) : m45 a x y = some (decide (x ≤ a ∧ a ≤ y)) := by
  simp only [m45, m45_1, bnd_ok, br_bool]
  rw [Option.some.injEq, Bool.eq_iff_iff, decide_eq_true_eq]
  simp only [Bool.and_eq_true, Bool.or_eq_true, Bool.not_eq_true', leI_iff, ltI_iff, leI_not, and_false, or_false, Bool.false_eq_true]
theorem p48 (a x y : Int) : m48 a x y = some (decide (x ≤ a ∧ a ≤ y)) := p45 a x y
/-- A row of a good algebra. -/
def goodRow (w : Int) (r : List Int) : Prop := (r.length : Int) = w ∧ (∀ x ∈ r, 0 ≤ x ∧ x < w) ∧ r[(w - 1).toNat]? = some (w - 1)
instance (w : Int) (r : List Int) : Decidable (goodRow w r) := by unfold goodRow; infer_instance
theorem idx_w {r : List Int} {w : Int} (h1 : 1 ≤ w) (h2 : w ≤ 12) (hl : (r.length : Int) = w) : ∃ y, r[(w - 1).toNat]? = some y ∧ idx r (w - 1) = some y := by
  obtain ⟨n, rfl⟩ : ∃ n : Nat, w = ((n + 1 : Nat) : Int) := ⟨(w - 1).toNat, by omega⟩
  have e : ((n + 1 : Nat) : Int) - 1 = (n : Int) := by omega
  have hn : n < r.length := by omega
  rw [e]
  exact ⟨r[n], by simp [hn], idx_get hn⟩
theorem p46 (r : List Int) (w : Int) (hr : r.length ≤ 1048576) (h1 : 2 ≤ w) (h2 : w ≤ 12) : m46 r w = some (decide (goodRow w r)) := by
  unfold m46
  have := loop_find (body := m46_1b r w (r.length : Int)) r (fun x => if decide (0 ≤ x ∧ x < w) = true then none else some (.inr ())) (.inl ()) (fun k h => by
    simp only [m46_1b, (ltI_iff (k : Int) (r.length : Int)).2 (by omega), br_true, idx_get h, bnd_ok, m46_3, wsucc h (by omega)]
    by_cases h1 : r[k] < 0
    · rw [(ltI_iff _ _).2 h1, br_true, bnd_ok, br_true, if_neg (by simp; omega)]
    · rw [(ltI_not _ _).2 (by omega), br_false, bnd_ok]
      by_cases h3 : w ≤ r[k]
      · rw [(leI_iff _ _).2 h3, br_true, if_neg (by simp; omega)]
      · rw [(leI_not _ _).2 (by omega), br_false, if_pos (by simp; omega)]) (by simp only [m46_1b, (ltI_not (r.length : Int) (r.length : Int)).2 (by omega), br_false])
  rw [this, bnd_ok]
  have e1 : wsub .i64 w 1 = w - 1 := wsub64 (by omega) (by omega)
  by_cases hall : ∀ x ∈ r, 0 ≤ x ∧ x < w
  · have h3 : r.findSome? (fun x => if decide (0 ≤ x ∧ x < w) = true then none else some (Sum.inr () : Unit ⊕ Unit)) = none := by
      rw [List.findSome?_eq_none_iff]
      intro x hx
      rw [if_pos (by simpa using hall x hx)]
    rw [h3, Option.getD_none, selS_inl]
    simp only [m46_4, e1]
    by_cases hl : (r.length : Int) = w
    · obtain ⟨y, hy1, hy2⟩ := idx_w (by omega) h2 hl
      rw [(eqI_iff _ _).2 hl, br_true, hy2, bnd_ok, bnd_ok]
      by_cases hy : y = w - 1
      · rw [(eqI_iff _ _).2 hy, decide_eq_true (show goodRow w r from ⟨hl, hall, by rw [hy1, hy]⟩)]
      · rw [(eqI_not _ _).2 hy, decide_eq_false (fun h : goodRow w r => by have := h.2.2; rw [hy1] at this; injection this with this; exact hy this)]
    · rw [(eqI_not _ _).2 hl, br_false, bnd_ok, decide_eq_false (fun h : goodRow w r => hl h.1)]
  · obtain ⟨v, hv⟩ : ∃ v, r.findSome? (fun x => if decide (0 ≤ x ∧ x < w) = true then none else some (Sum.inr () : Unit ⊕ Unit)) = some v := by
      cases h3 : r.findSome? (fun x => if decide (0 ≤ x ∧ x < w) = true then none else some (Sum.inr () : Unit ⊕ Unit)) with
      | some v => exact ⟨v, rfl⟩
      | none =>
        rw [List.findSome?_eq_none_iff] at h3
        refine absurd (fun x hx => ?_) hall
        have := h3 x hx
        by_cases h4 : 0 ≤ x ∧ x < w
        · exact h4
        · rw [if_neg (by simpa using h4)] at this; cases this
    obtain ⟨x, _, hx⟩ := List.exists_of_findSome?_eq_some hv
    have hv2 : v = .inr () := by
      split at hx
      · cases hx
      · cases hx; rfl
    rw [hv, hv2, Option.getD_some, selS_inr, decide_eq_false (fun h : goodRow w r => hall h.2.1)]

def good (a : Algebra) : Prop := (2 ≤ a.weights ∧ a.weights ≤ 12) ∧ (1 ≤ (a.apply.length : Int) ∧ (a.apply.length : Int) ≤ 4) ∧ ∀ r ∈ a.apply, goodRow a.weights r
instance (a : Algebra) : Decidable (good a) := by unfold good; infer_instance
theorem any_not {α : Type} (l : List α) (p : α → Prop) [DecidablePred p] : (!(l.any fun x => !(decide (p x)))) = decide (∀ x ∈ l, p x) := by
  rw [Bool.eq_iff_iff, decide_eq_true_eq]
  simp
theorem p13 (a : Algebra) (h : smAlgebra a) : m13 a = some (decide (good a)) := by
  obtain ⟨_, hl, hr⟩ := h
  unfold m13 m13_1
  rw [p45, bnd_ok]
  by_cases hw : 2 ≤ a.weights ∧ a.weights ≤ 12
  · rw [decide_eq_true hw, br_true, p45, bnd_ok, bnd_ok]
    by_cases hn : 1 ≤ (a.apply.length : Int) ∧ (a.apply.length : Int) ≤ 4
    · rw [decide_eq_true hn]
      show br false _ _ = _
      rw [br_false]
      have := loop_find (body := m13_2b a (a.apply.length : Int)) a.apply (fun r => if decide (goodRow a.weights r) = true then none else some (.inr ())) (.inl ()) (fun k h => by
        simp only [m13_2b, (ltI_iff (k : Int) (a.apply.length : Int)).2 (by omega), br_true, idx_get h, bnd_ok, wsucc h (by omega), p46 _ _ (hr _ (List.getElem_mem h)) hw.1 hw.2]
        cases decide (goodRow a.weights a.apply[k]) <;> rfl) (by simp only [m13_2b, (ltI_not (a.apply.length : Int) (a.apply.length : Int)).2 (by omega), br_false])
      rw [this, bnd_ok]
      by_cases hall : ∀ r ∈ a.apply, goodRow a.weights r
      · have h3 : a.apply.findSome? (fun r => if decide (goodRow a.weights r) = true then none else some (Sum.inr () : Unit ⊕ Unit)) = none := by
          rw [List.findSome?_eq_none_iff]
          intro x hx
          rw [if_pos (by simpa using hall x hx)]
        rw [h3, Option.getD_none, selS_inl, decide_eq_true (show good a from ⟨hw, hn, hall⟩)]
      · obtain ⟨v, hv⟩ : ∃ v, a.apply.findSome? (fun r => if decide (goodRow a.weights r) = true then none else some (Sum.inr () : Unit ⊕ Unit)) = some v := by
          cases h3 : a.apply.findSome? (fun r => if decide (goodRow a.weights r) = true then none else some (Sum.inr () : Unit ⊕ Unit)) with
          | some v => exact ⟨v, rfl⟩
          | none =>
            rw [List.findSome?_eq_none_iff] at h3
            refine absurd (fun x hx => ?_) hall
            have := h3 x hx
            by_cases h4 : goodRow a.weights x
            · exact h4
            · rw [if_neg (by simpa using h4)] at this; cases this
        obtain ⟨x, _, hx⟩ := List.exists_of_findSome?_eq_some hv
        have hv2 : v = .inr () := by
          split at hx
          · cases hx
          · cases hx; rfl
        rw [hv, hv2, Option.getD_some, selS_inr, decide_eq_false (fun h : good a => hall h.2.2)]
    · rw [decide_eq_false hn]
      show br true _ _ = _
      rw [br_true, decide_eq_false (fun h : good a => hn h.2.1)]
  · rw [decide_eq_false hw, br_false, bnd_ok, br_true, decide_eq_false (fun h : good a => hw h.1)]
theorem p51 (a : Algebra) (h : 0 ≤ a.weights) (h2 : a.weights ≤ 1000000) : m51 a = some (a.weights - 1) := by
  unfold m51
  rw [wsub64 (by omega) (by omega)]
theorem p50 (a : Algebra) (r : List Int) (hr : r.length ≤ 1048576) (h1 : 2 ≤ a.weights) (h2 : a.weights ≤ 12) : m50 r a = some (!(decide (goodRow a.weights r))) := by
  unfold m50 m50_1
  by_cases hl : (r.length : Int) = a.weights
  · obtain ⟨y, hy1, hy2⟩ := idx_w (by omega) h2 hl
    rw [(eqI_iff _ _).2 hl, br_true, p51 a (by omega) (by omega), bnd_ok, hy2, bnd_ok]
    by_cases hy : y = a.weights - 1
    · rw [(eqI_iff _ _).2 hy, br_true]
      have h53 : ∀ y, m53 y a = some (!(decide (0 ≤ y ∧ y ≤ a.weights - 1))) := fun y => by simp only [m53, p51 a (by omega) (by omega), bnd_ok, p48]
      have h52 : m52 r (fun y0 => m53 y0 a) = some (r.any fun y => !(decide (0 ≤ y ∧ y ≤ a.weights - 1))) := by
        unfold m52 m78
        rw [indexFunc (body := m78_1b r (r.length : Int) fun y0 => m53 y0 a) r (f := fun y0 => m53 y0 a) (fun y => !(decide (0 ≤ y ∧ y ≤ a.weights - 1))) (fun x _ => h53 x) (by omega) (fun s => rfl), bnd_ok, containsFunc]
      rw [h52, bnd_ok, bnd_ok, Option.some.injEq, Bool.eq_iff_iff]
      simp only [List.any_eq_true, Bool.not_eq_true', decide_eq_false_iff_not]
      constructor
      · rintro ⟨x, hx, hn⟩ h
        exact hn (by have := h.2.1 x hx; omega)
      · intro h
        refine Classical.byContradiction fun hn => h ⟨hl, fun x hx => ?_, by rw [hy1, hy]⟩
        refine Classical.byContradiction fun hx2 => hn ⟨x, hx, by omega⟩
    · rw [(eqI_not _ _).2 hy, br_false, bnd_ok, decide_eq_false (fun h : goodRow a.weights r => by have := h.2.2; rw [hy1] at this; injection this with this; exact hy this)]
      rfl
  · rw [(eqI_not _ _).2 hl, br_false, bnd_ok, decide_eq_false (fun h : goodRow a.weights r => hl h.1)]
    rfl
theorem p15 (a : Algebra) (h : smAlgebra a) : m15 a = some (decide (good a)) := by
  obtain ⟨_, hl, hr⟩ := h
  unfold m15 m15_1
  rw [p48, bnd_ok]
  by_cases hw : 2 ≤ a.weights ∧ a.weights ≤ 12
  · rw [decide_eq_true hw, br_true, p48, bnd_ok, bnd_ok]
    by_cases hn : 1 ≤ (a.apply.length : Int) ∧ (a.apply.length : Int) ≤ 4
    · rw [decide_eq_true hn]
      show br false _ _ = _
      rw [br_false]
      have h49 : m49 a.apply (fun y0 => m50 y0 a) = some (a.apply.any fun r => !(decide (goodRow a.weights r))) := by
        unfold m49 m77
        rw [indexFunc (body := m77_1b a.apply (a.apply.length : Int) fun y0 => m50 y0 a) a.apply (f := fun y0 => m50 y0 a) (fun r => !(decide (goodRow a.weights r))) (fun r hm => p50 a r (hr r hm) hw.1 hw.2) (by omega) (fun s => rfl), bnd_ok, containsFunc]
      rw [h49, bnd_ok, any_not]
      by_cases hall : ∀ r ∈ a.apply, goodRow a.weights r
      · rw [decide_eq_true hall, decide_eq_true (show good a from ⟨hw, hn, hall⟩)]
      · rw [decide_eq_false hall, decide_eq_false (fun h : good a => hall h.2.2)]
    · rw [decide_eq_false hn]
      show br true _ _ = _
      rw [br_true, decide_eq_false (fun h : good a => hn h.2.1)]
  · rw [decide_eq_false hw, br_false, bnd_ok, br_true, decide_eq_false (fun h : good a => hw h.1)]

/-! ### Pairs -/
def cell (A B : List Int) (wa wb : Int) (x y : Nat) : Int := if A.getD x 0 = wa ∨ B.getD y 0 = wb then wa * wb else A.getD x 0 * wb + B.getD y 0
def row (A B : List Int) (wa wb : Int) : List Int := (List.range (wa.toNat * wb.toNat)).map (fun s => cell A B wa wb (s / wb.toNat) (s % wb.toNat)) ++ [wa * wb]
def lex (a b : Algebra) : Algebra := ⟨(a.weights - 1) * (b.weights - 1) + 1, (List.range a.apply.length).map fun k => row (a.apply.getD k []) (b.apply.getD k []) (a.weights - 1) (b.weights - 1)⟩
noncomputable def lexV (a b : Algebra) : Algebra × Bool :=
  if good a ∧ good b ∧ (a.apply.length : Int) = b.apply.length then (if 12 < (a.weights - 1) * (b.weights - 1) + 1 then (⟨0, []⟩, false) else (lex a b, true)) else (⟨0, []⟩, false)

theorem first (a b : Algebra) (ha : smAlgebra a) (hb : smAlgebra b) : m21_1 a b = some (!(decide (good a ∧ good b ∧ (a.apply.length : Int) = b.apply.length))) := by
  unfold m21_1
  rw [p13 a ha, bnd_ok]
  by_cases h1 : good a
  · rw [decide_eq_true h1, br_true, p13 b hb, bnd_ok]
    by_cases h2 : good b
    · rw [decide_eq_true h2, br_true]
      by_cases h3 : (a.apply.length : Int) = b.apply.length
      · rw [(eqI_iff _ _).2 h3, decide_eq_true ⟨h1, h2, h3⟩]
      · rw [(eqI_not _ _).2 h3, decide_eq_false (fun h => h3 h.2.2)]
    · rw [decide_eq_false h2, br_false, decide_eq_false (fun h => h2 h.2.1)]; rfl
  · rw [decide_eq_false h1, br_false, decide_eq_false (fun h => h1 h.1)]; rfl
theorem first2 (a b : Algebra) (ha : smAlgebra a) (hb : smAlgebra b) : m22_1 a b = some (!(decide (good a ∧ good b ∧ (a.apply.length : Int) = b.apply.length))) := by
  rw [← first a b ha hb]
  unfold m22_1 m21_1
  rw [p13 a ha, p13 b hb, p15 a ha, p15 b hb]

theorem small_mul {x y : Int} (h1 : 1 ≤ x) (h2 : x ≤ 11) (h3 : 1 ≤ y) (h4 : y ≤ 11) : 1 ≤ x * y ∧ x * y ≤ 121 := by
  have a1 : 1 * 1 ≤ x * y := Int.mul_le_mul h1 h3 (by omega) (by omega)
  have a2 : x * y ≤ 11 * 11 := Int.mul_le_mul h2 h4 (by omega) (by omega)
  omega

section
variable {A B : List Int} {wa wb : Int} (ha1 : 1 ≤ wa) (ha2 : wa ≤ 11) (hb1 : 1 ≤ wb) (hb2 : wb ≤ 11) (hA : goodRow (wa + 1) A) (hB : goodRow (wb + 1) B)
include ha1 ha2 hb1 hb2 hA hB
theorem cell_val {x y : Nat} (hx : x < A.length) (hy : y < B.length) : cell A B wa wb x y = (if A[x] = wa ∨ B[y] = wb then wmul .i64 wa wb else wadd .i64 (wmul .i64 A[x] wb) B[y]) := by
  have h1 := hA.2.1 _ (List.getElem_mem hx)
  have h2 := hB.2.1 _ (List.getElem_mem hy)
  obtain ⟨m1, m2⟩ := small_mul ha1 ha2 hb1 hb2
  have m3 : 0 ≤ A[x] * wb := Int.mul_nonneg (by omega) (by omega)
  have m4 : A[x] * wb ≤ 11 * 11 := Int.mul_le_mul (by omega) (by omega) (by omega) (by omega)
  have e1 : wmul .i64 wa wb = wa * wb := wmul64 (by omega) (by omega)
  have e2 : wmul .i64 A[x] wb = A[x] * wb := wmul64 (by omega) (by omega)
  have e3 : wadd .i64 (A[x] * wb) B[y] = A[x] * wb + B[y] := wadd64 (by omega) (by omega)
  rw [e1, e2, e3]
  unfold cell
  simp [List.getD_eq_getElem?_getD, hx, hy]
theorem lens : A.length = wa.toNat + 1 ∧ B.length = wb.toNat + 1 := ⟨by have := hA.1; omega, by have := hB.1; omega⟩
/-- The reference's row. -/
theorem rowS : bnd (loopP (m21_8b wa wb A B) (0, [])) (fun v => ck (v.length + 1 ≤ 4294967296) <| some (v ++ [wmul .i64 wa wb])) = some (row A B wa wb) := by
  obtain ⟨l1, l2⟩ := lens ha1 ha2 hb1 hb2 hA hB
  obtain ⟨m1, m2⟩ := small_mul ha1 ha2 hb1 hb2
  have e1 : wmul .i64 wa wb = wa * wb := wmul64 (by omega) (by omega)
  have en : ((wa.toNat * wb.toNat : Nat) : Int) = wa * wb := by rw [Int.natCast_mul]; congr 1 <;> omega
  have hN : wa.toNat * wb.toNat ≤ 121 := by omega
  rw [loop_push (body := m21_8b wa wb A B) (wa.toNat * wb.toNat) (fun s => cell A B wa wb (s / wb.toNat) (s % wb.toNat)) id [] (fun s hs l hl => ?_) (fun l hl => ?_), bnd_ok]
  · rw [ck_ok (by simp; omega)]
    simp only [List.nil_append, id, row, e1]
  · have hwb : 0 < wb.toNat := by omega
    have hq : s / wb.toNat < A.length := by have := (Nat.div_lt_iff_lt_mul hwb).2 hs; omega
    have hr : s % wb.toNat < B.length := by have := Nat.mod_lt s hwb; omega
    obtain ⟨n, hn⟩ : ∃ n : Nat, wb.toNat = n := ⟨_, rfl⟩
    have hwn : wb = (n : Int) := by omega
    have eq : wquo .i64 (s : Int) wb = ((s / wb.toNat : Nat) : Int) := by
      have h1 : (s : Int).tdiv wb = ((s / n : Nat) : Int) := by rw [hwn]; rfl
      have hle : s / n ≤ s := Nat.div_le_self _ _
      show IntKind.i64.wrap ((s : Int).tdiv wb) = _
      rw [h1, hn]
      generalize s / n = d at hle
      exact w64 (by omega) (by omega)
    have er : wrem .i64 (s : Int) wb = ((s % wb.toNat : Nat) : Int) := by
      show (s : Int).tmod wb = _
      rw [hn, hwn]; rfl
    have hl' : l.length = s := by simpa using hl
    rw [m21_8b, sel2_ok, e1, (ltI_iff _ _).2 (by omega), br_true, ck_ok (by omega), eq, idx_get hq, bnd_ok, ck_ok (by omega), er, idx_get hr, bnd_ok, cell_val ha1 ha2 hb1 hb2 hA hB hq hr]
    simp only [m21_11, br_some, bnd_ok, m21_12]
    rw [wsucc hs (by omega)]
    by_cases h1 : A[s / wb.toNat] = wa
    · rw [(eqI_iff _ _).2 h1, if_pos rfl, br_true, ck_ok (by omega), bnd_ok, if_pos (.inl h1)]
    · rw [(eqI_not _ _).2 h1, if_neg (by simp)]
      by_cases h2 : B[s % wb.toNat] = wb
      · rw [(eqI_iff _ _).2 h2, br_true, ck_ok (by omega), bnd_ok, if_pos (.inr h2)]
      · rw [(eqI_not _ _).2 h2, br_false, ck_ok (by omega), bnd_ok, if_neg (by rintro (h | h); exact h1 h; exact h2 h)]
  · rw [m21_8b, sel2_ok, e1, (ltI_not _ _).2 (by omega), br_false]; rfl
end

theorem p21 (a b : Algebra) (ha : smAlgebra a) (hb : smAlgebra b) : m21 a b = some (lexV a b) := by
  unfold m21 lexV
  rw [first a b ha hb, bnd_ok]
  by_cases hg : good a ∧ good b ∧ (a.apply.length : Int) = b.apply.length
  · rw [decide_eq_true hg, if_pos hg]
    show br false _ _ = _
    obtain ⟨ga, gb, hl⟩ := hg
    have wa := ga.1
    have wb := gb.1
    rw [br_false]
    have ea : wsub .i64 a.weights 1 = a.weights - 1 := wsub64 (by omega) (by omega)
    have eb : wsub .i64 b.weights 1 = b.weights - 1 := wsub64 (by omega) (by omega)
    obtain ⟨m1, m2⟩ := small_mul (x := a.weights - 1) (y := b.weights - 1) (by omega) (by omega) (by omega) (by omega)
    have e1 : wmul .i64 (a.weights - 1) (b.weights - 1) = (a.weights - 1) * (b.weights - 1) := wmul64 (by omega) (by omega)
    have e2 : wadd .i64 ((a.weights - 1) * (b.weights - 1)) 1 = (a.weights - 1) * (b.weights - 1) + 1 := wadd64 (by omega) (by omega)
    rw [ea, eb, e1, e2]
    by_cases h12 : 12 < (a.weights - 1) * (b.weights - 1) + 1
    · rw [(ltI_iff _ _).2 h12, br_true, if_pos h12]
    · rw [(ltI_not _ _).2 (by omega), br_false, if_neg h12]
      have hla := ga.2.1
      rw [loop_push (body := m21_2b (a.weights - 1) (b.weights - 1) a (a.apply.length : Int) b) a.apply.length (fun k => row (a.apply.getD k []) (b.apply.getD k []) (a.weights - 1) (b.weights - 1)) id [] (fun k hk l hlen => ?_) (fun l hlen => ?_), bnd_ok]
      · rfl
      · have hk2 : k < b.apply.length := by omega
        have gA : goodRow (a.weights - 1 + 1) a.apply[k] := by have := ga.2.2 _ (List.getElem_mem hk); simpa using this
        have gB : goodRow (b.weights - 1 + 1) b.apply[k] := by have := gb.2.2 _ (List.getElem_mem hk2); simpa using this
        have hr := rowS (A := a.apply[k]) (B := b.apply[k]) (wa := a.weights - 1) (wb := b.weights - 1) (by omega) (by omega) (by omega) (by omega) gA gB
        have d1 : a.apply.getD k [] = a.apply[k] := by simp [List.getD_eq_getElem?_getD, hk]
        have d2 : b.apply.getD k [] = b.apply[k] := by simp [List.getD_eq_getElem?_getD, hk2]
        have hlen' : l.length = k := by simpa using hlen
        rw [d1, d2, m21_2b, sel2_ok, (ltI_iff _ _).2 (by omega), br_true, idx_get hk, bnd_ok, idx_get hk2, bnd_ok]
        cases hlp : loopP (m21_8b (a.weights - 1) (b.weights - 1) a.apply[k] b.apply[k]) (0, []) with
        | none => rw [hlp] at hr; cases hr
        | some v =>
          rw [hlp, bnd_ok] at hr
          rw [bnd_ok]
          by_cases hc : v.length + 1 ≤ 4294967296
          · rw [ck_ok hc] at hr ⊢
            injection hr with hr
            rw [ck_ok (by omega), hr, wsucc hk (by omega)]
          · rw [ck, if_neg hc] at hr; cases hr
      · rw [m21_2b, sel2_ok, (ltI_not _ _).2 (by omega), br_false]; rfl
  · rw [decide_eq_false hg, if_neg hg]; rfl

section
variable {A B : List Int} {wa wb : Int} (ha1 : 1 ≤ wa) (ha2 : wa ≤ 11) (hb1 : 1 ≤ wb) (hb2 : wb ≤ 11) (hA : goodRow (wa + 1) A) (hB : goodRow (wb + 1) B)
include ha1 ha2 hb1 hb2 hA hB
/-- The program's row. -/
theorem rowI (a b : Algebra) (k : Nat) (hka : a.weights = wa + 1) (hkb : b.weights = wb + 1) (hB' : idx b.apply (k : Int) = some B) (W : Int) (hW : W = wa * wb + 1) (rs : List (List Int)) :
    loopP (m22_14b (k : Int) A a wa b W rs) (0, []) = some ((List.range (wa.toNat * wb.toNat)).map (fun s => cell A B wa wb (s / wb.toNat) (s % wb.toNat))) := by
  obtain ⟨l1, l2⟩ := lens ha1 ha2 hb1 hb2 hA hB
  obtain ⟨m1, m2⟩ := small_mul ha1 ha2 hb1 hb2
  have e1 : wmul .i64 wa wb = wa * wb := wmul64 (by omega) (by omega)
  have pa : m51 a = some wa := by rw [p51 a (by omega) (by omega), hka]; congr 1; omega
  have pb : m51 b = some wb := by rw [p51 b (by omega) (by omega), hkb]; congr 1; omega
  have pw : m51 (⟨W, rs⟩ : Algebra) = some (wa * wb) := by rw [p51 _ (by show 0 ≤ W; omega) (by show W ≤ 1000000; omega), hW]; congr 1; show wa * wb + 1 - 1 = _; omega
  obtain ⟨n, hn⟩ : ∃ n : Nat, wb.toNat = n := ⟨_, rfl⟩
  obtain ⟨na, hna⟩ : ∃ n : Nat, wa.toNat = n := ⟨_, rfl⟩
  have hwa : wa = (na : Int) := by omega
  have hwb : wb = (n : Int) := by omega
  have hmul : na * n ≤ 121 := by
    have : ((na * n : Nat) : Int) = wa * wb := by rw [Int.natCast_mul, hwa, hwb]
    omega
  rw [hn, hna]
  have inner : ∀ x, x < na → ∀ l0 : List Int, l0.length = x * n → loopP (m22_20b (k : Int) A (x : Int) a wb b W rs) (0, l0) = some (l0 ++ (List.range n).map fun y => cell A B wa wb x y) := by
    intro x hx l0 hl0
    have hxn : x * n + n ≤ 121 := by
      have : (x + 1) * n ≤ na * n := Nat.mul_le_mul_right _ hx
      rw [Nat.add_mul] at this; omega
    refine loop_push (body := m22_20b (k : Int) A (x : Int) a wb b W rs) n (fun y => cell A B wa wb x y) id l0 (fun y hy l hl => ?_) (fun l hl => ?_)
    · have hq : x < A.length := by omega
      have hr : y < B.length := by omega
      rw [m22_20b, sel2_ok, (ltI_iff _ _).2 (by omega), br_true, idx_get hq, bnd_ok, hB', bnd_ok, idx_get hr, bnd_ok, cell_val ha1 ha2 hb1 hb2 hA hB hq hr]
      simp only [m22_23, m22_24, pa, pb, pw, bnd_ok]
      rw [wsucc hy (by omega)]
      by_cases h1 : A[x] = wa
      · rw [(eqI_iff _ _).2 h1, br_true, bnd_ok, br_true, ck_ok (by omega), bnd_ok, if_pos (.inl h1), e1]
      · rw [(eqI_not _ _).2 h1, br_false, bnd_ok]
        by_cases h2 : B[y] = wb
        · rw [(eqI_iff _ _).2 h2, br_true, ck_ok (by omega), bnd_ok, if_pos (.inr h2), e1]
        · rw [(eqI_not _ _).2 h2, br_false, ck_ok (by omega), bnd_ok, if_neg (by rintro (h | h); exact h1 h; exact h2 h)]
    · rw [m22_20b, sel2_ok, (ltI_not _ _).2 (by omega), br_false]; rfl
  have hstep : ∀ x, x < na → (List.range (x * n)).map (fun s => cell A B wa wb (s / n) (s % n)) ++ (List.range n).map (fun y => cell A B wa wb x y) = (List.range ((x + 1) * n)).map (fun s => cell A B wa wb (s / n) (s % n)) := by
    intro x hx
    rw [Nat.add_mul, Nat.one_mul, List.range_add, List.map_append, List.map_map]
    congr 1
    refine List.map_congr_left fun y hy => ?_
    have hy' : y < n := List.mem_range.1 hy
    simp only [Function.comp]
    have h1 : (x * n + y) / n = x := by rw [Nat.mul_comm, Nat.mul_add_div (by omega), Nat.div_eq_of_lt hy']; omega
    have h2 : (x * n + y) % n = y := by rw [Nat.mul_comm, Nat.mul_add_mod, Nat.mod_eq_of_lt hy']
    rw [h1, h2]
  have key : ∀ m x, m + x = na → loopP (m22_14b (k : Int) A a wa b W rs) ((x : Int), (List.range (x * n)).map (fun s => cell A B wa wb (s / n) (s % n))) = some ((List.range (na * n)).map (fun s => cell A B wa wb (s / n) (s % n))) := by
    intro m
    induction m with
    | zero =>
      intro x hx
      obtain rfl : x = na := by omega
      refine loopP_out ?_
      rw [m22_14b, sel2_ok, (ltI_not _ _).2 (by omega), br_false]
    | succ m ih =>
      intro x hx
      rw [loopP_nxt (s' := (((x + 1 : Nat) : Int), (List.range ((x + 1) * n)).map (fun s => cell A B wa wb (s / n) (s % n)))) ?_, ih (x + 1) (by omega)]
      rw [m22_14b, sel2_ok, (ltI_iff _ _).2 (by omega), br_true, pb, bnd_ok, inner x (by omega) _ (by simp), bnd_ok, hstep x (by omega), wsucc (show x < na by omega) (by omega)]
  have := key na 0 (by omega)
  simpa using this
end

theorem p22 (a b : Algebra) (ha : smAlgebra a) (hb : smAlgebra b) : m22 a b = some (lexV a b) := by
  unfold m22 lexV
  rw [first2 a b ha hb, bnd_ok]
  by_cases hg : good a ∧ good b ∧ (a.apply.length : Int) = b.apply.length
  · rw [decide_eq_true hg, if_pos hg]
    show br false _ _ = _
    obtain ⟨ga, gb, hl⟩ := hg
    have wa := ga.1
    have wb := gb.1
    rw [br_false, p51 a (by omega) (by omega), bnd_ok, p51 b (by omega) (by omega), bnd_ok]
    obtain ⟨m1, m2⟩ := small_mul (x := a.weights - 1) (y := b.weights - 1) (by omega) (by omega) (by omega) (by omega)
    have e1 : wmul .i64 (a.weights - 1) (b.weights - 1) = (a.weights - 1) * (b.weights - 1) := wmul64 (by omega) (by omega)
    have e2 : wadd .i64 ((a.weights - 1) * (b.weights - 1)) 1 = (a.weights - 1) * (b.weights - 1) + 1 := wadd64 (by omega) (by omega)
    rw [e1, e2]
    by_cases h12 : 12 < (a.weights - 1) * (b.weights - 1) + 1
    · rw [(ltI_iff _ _).2 h12, br_true, if_pos h12]
    · rw [(ltI_not _ _).2 (by omega), br_false, if_neg h12]
      have hla := ga.2.1
      rw [loop_push (body := m22_2b a (a.apply.length : Int) b ((a.weights - 1) * (b.weights - 1) + 1)) a.apply.length (fun k => row (a.apply.getD k []) (b.apply.getD k []) (a.weights - 1) (b.weights - 1)) id [] (fun k hk l hlen => ?_) (fun l hlen => ?_), bnd_ok]
      · rfl
      · have hk2 : k < b.apply.length := by omega
        have gA : goodRow (a.weights - 1 + 1) a.apply[k] := by have := ga.2.2 _ (List.getElem_mem hk); simpa using this
        have gB : goodRow (b.weights - 1 + 1) b.apply[k] := by have := gb.2.2 _ (List.getElem_mem hk2); simpa using this
        have hlen' : l.length = k := by simpa using hlen
        have hr := rowI (A := a.apply[k]) (B := b.apply[k]) (wa := a.weights - 1) (wb := b.weights - 1) (by omega) (by omega) (by omega) (by omega) gA gB a b k (by omega) (by omega) (idx_get hk2) ((a.weights - 1) * (b.weights - 1) + 1) rfl l
        have d1 : a.apply.getD k [] = a.apply[k] := by simp [List.getD_eq_getElem?_getD, hk]
        have d2 : b.apply.getD k [] = b.apply[k] := by simp [List.getD_eq_getElem?_getD, hk2]
        have hN : ((a.weights - 1).toNat * (b.weights - 1).toNat : Nat) ≤ 121 := by
          have : (((a.weights - 1).toNat * (b.weights - 1).toNat : Nat) : Int) = (a.weights - 1) * (b.weights - 1) := by rw [Int.natCast_mul]; congr 1 <;> omega
          omega
        rw [d1, d2, m22_2b, sel2_ok, (ltI_iff _ _).2 (by omega), br_true, idx_get hk, bnd_ok, p51 a (by omega) (by omega), bnd_ok, hr, bnd_ok,
          p51 _ (by show 0 ≤ (a.weights - 1) * (b.weights - 1) + 1; omega) (by show (a.weights - 1) * (b.weights - 1) + 1 ≤ 1000000; omega), bnd_ok, ck_ok (by simp only [List.length_map, List.length_range]; omega), ck_ok (by omega), wsucc hk (by omega)]
        have e3 : (⟨(a.weights - 1) * (b.weights - 1) + 1, l⟩ : Algebra).weights - 1 = (a.weights - 1) * (b.weights - 1) := by show (a.weights - 1) * (b.weights - 1) + 1 - 1 = _; omega
        rw [e3]; rfl
      · rw [m22_2b, sel2_ok, (ltI_not _ _).2 (by omega), br_false]; rfl
  · rw [decide_eq_false hg, if_neg hg]; rfl

/-- What comes out is small. -/
theorem lexV_sm (a b : Algebra) : smAlgebra (lexV a b).1 := by
  unfold lexV
  split
  · rename_i hg
    obtain ⟨ga, gb, hl⟩ := hg
    split
    · exact ⟨trivial, by simp, by simp⟩
    · rename_i h12
      have hla := ga.2.1
      have wa := ga.1
      have wb := gb.1
      refine ⟨trivial, by simp [lex]; omega, fun r hr => ?_⟩
      simp only [lex, List.mem_map] at hr
      obtain ⟨k, _, rfl⟩ := hr
      have : (((a.weights - 1).toNat * (b.weights - 1).toNat : Nat) : Int) = (a.weights - 1) * (b.weights - 1) := by rw [Int.natCast_mul]; congr 1 <;> omega
      simp only [smLInt, row, List.length_append, List.length_map, List.length_range, List.length_cons, List.length_nil]
      omega
  · exact ⟨trivial, by simp, by simp⟩

theorem k23 (a : Algebra) (k : Int) (h : smAlgebra a) (h0 : 0 ≤ k) (h1 : k ≤ 2305843009213693952) : ∃ k' ys, m23 a k = some (k', ys) ∧ ys.length = a.apply.length ∧ k ≤ k' ∧ k' ≤ k + 1099511627776 ∧ m24 (⟨a.weights, ys⟩ : Algebra) k = some k' := by
  obtain ⟨k', ys, e1, e2, e3, e4, e5⟩ := k57 a.apply k h.2 h0 h1
  refine ⟨k', ys, ?_, e2, e3, e4, ?_⟩
  · unfold m23; rw [e1, bnd_ok, sel2_ok, ck_ok e2]
  · unfold m24
    show bnd (m58 ys k) _ = _
    rw [e5, bnd_ok, (ltI_not _ _).2 (by omega), br_false]

theorem law (a b : Algebra) (wa : wfAlgebra a) (wb : wfAlgebra b) : m6 a b = some true := by
  unfold m6
  obtain ⟨v, hv, v1, v2, hs⟩ := z12 a 1048576 wa (by omega) (by omega)
  rw [hv, bnd_ok]
  by_cases c0 : v < 0
  · rw [(ltI_iff _ _).2 c0, br_true]
  rw [(ltI_not _ _).2 (by omega), br_false]
  obtain ⟨u, hu, u1, u2, hs2⟩ := z12 b v wb (by omega) (by omega)
  rw [hu, bnd_ok]
  by_cases c1 : u < 0
  · rw [(ltI_iff _ _).2 c1, br_true]
  rw [(ltI_not _ _).2 (by omega), br_false]
  have sa := hs (by omega)
  have sb := hs2 (by omega)
  rw [t14 a sa, bnd_ok, t14 b sb, bnd_ok, p21 a b sa sb, bnd_ok]
  have sc := lexV_sm a b
  generalize hr : lexV a b = r at sc
  obtain ⟨g, w⟩ := r
  have e1 : m6_1 w w g g = some false := by simp only [m6_1, q16 g sc, bnd_ok, br_true, eqB_self, Bool.not_true]
  have e3 : m6_3 w w g g = some false := by simp only [m6_3, q16 g sc, bnd_ok, br_true, eqB_self, Bool.not_true]
  obtain ⟨k1, ya, f1, f2, f3, f4, _⟩ := k23 a 1 sa (by omega) (by omega)
  obtain ⟨k2, yb, g1, g2, g3, g4, _⟩ := k23 b k1 sb (by omega) (by omega)
  obtain ⟨k3, yc, h1, h2, h3, h4, h5⟩ := k23 g 1 sc (by omega) (by omega)
  have e2 : m6_2 w w k2 g g = some false := by simp only [m6_2, (ltI_not k2 0).2 (by omega), br_false, q16 g sc, bnd_ok, br_true, eqB_self, Bool.not_true]
  rw [sel2_ok, p22 a b sa sb, hr, bnd_ok, sel2_ok, e1, bnd_ok, br_false, q16 a sa, bnd_ok, br_true, q16 b sb, bnd_ok, br_true, f1, bnd_ok, sel2_ok, ck_ok f2, g1, bnd_ok, sel2_ok, ck_ok g2, e2, bnd_ok, br_false, h1, bnd_ok, sel2_ok, ck_ok h2, h5, bnd_ok,
    (ltI_not k3 0).2 (by omega), br_false, eqI_self, br_true, e3, bnd_ok, br_false]
end Go.Pi.Ytbohlpligkfkiaa.LexOf
