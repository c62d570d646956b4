/- What functions of the program answer, and that the law answers true at every input; no condition -/
import Derived.Test.YtlcanbihlfncoaaCompareOffersStdCompareOffers
set_option linter.all false
/- CompareOffers: the program's answer is the reference's. -/
namespace Go.Pi.Ytlcanbihlfncoaa.CompareOffers
open Go Go.Pi
set_option linter.all false
def inB (x lo hi : Int) : Bool := leI lo x && leI x hi
theorem p48 (x lo hi : Int) : m48 x lo hi = some (inB x lo hi) := by simp [m48, m48_1, inB]
theorem p91 (x lo hi : Int) : m91 x lo hi = some (inB x lo hi) := by simp [m91, m91_1, inB]
def pathB (xs : List Int) : Bool := allN xs.length (atB xs (fun x => inB x 1 65535))
def commsB (xs : List Int) : Bool := allN xs.length (fun k => match xs[k]? with | some x => inB x 0 1000000 && !(ltI 0 k && leI x (xs.getD (k - 1) 0)) | none => false)
theorem loop49_1 (a : Attrs) (h : smLInt a.path) : loopP (m49_1b a (a.path.length : Int)) 0 = some (if pathB a.path = true then .inl () else .inr ()) := by
  unfold smLInt at h
  refine loop_all _ _ _ _ (fun k hk => ?_) ?_
  · simp only [m49_1b, (ltI_iff _ _).2 (Int.ofNat_lt.2 hk), br_true, idx_get hk, bnd_ok, p48, wsucc hk (by omega), atB_get hk, br_some, if_true]
  · simp only [m49_1b, (ltI_not _ _).2 (Int.le_refl _), br_false]
theorem p49_4 (k : Nat) (x : Int) (a : Attrs) (hk : k < a.comms.length) (h : smLInt a.comms) : m49_4 (k : Int) x a = some (!(inB x 0 1000000 && !(ltI 0 k && leI x (a.comms.getD (k - 1) 0)))) := by
  unfold smLInt at h
  simp only [m49_4, p48, bnd_ok]
  cases inB x 0 1000000 with
  | false => rfl
  | true =>
    by_cases h0 : 0 < k
    · have hp : k - 1 < a.comms.length := by omega
      simp [(ltI_iff 0 (k : Int)).2 (by omega), wpred hk h0 (by omega), idx_get hp, List.getElem?_eq_getElem hp]
    · obtain rfl : k = 0 := by omega
      rfl
theorem loop49_2 (a : Attrs) (h : smLInt a.comms) : loopP (m49_2b a (a.comms.length : Int)) 0 = some (if commsB a.comms = true then .inl () else .inr ()) := by
  have h' := h
  unfold smLInt at h
  refine loop_all _ _ _ _ (fun k hk => ?_) ?_
  · simp only [m49_2b, (ltI_iff _ _).2 (Int.ofNat_lt.2 hk), br_true, idx_get hk, bnd_ok, p49_4 k _ a hk h', wsucc hk (by omega), List.getElem?_eq_getElem hk, br_some, if_true, ite_bnot]
  · simp only [m49_2b, (ltI_not _ _).2 (Int.le_refl _), br_false]
def attrsB (a : Attrs) : Bool := inB a.origin 0 2 && leI (a.path.length : Int) 10 && inB a.next 0 4294967295 && inB a.med 0 1000000 && inB a.pref 0 1000000 && leI (a.comms.length : Int) 6 && pathB a.path && commsB a.comms
theorem p49 (a : Attrs) (h : smAttrs a) : m49 a = some (attrsB a) := by
  obtain ⟨_, h1, _, _, _, h5⟩ := h
  simp only [m49, loop49_1 a h1, loop49_2 a h5, bnd_ok, m49_5, m75, p48, attrsB]
  cases pathB a.path with
  | false => simp
  | true =>
    cases commsB a.comms with
    | false => simp
    | true => simp [br_and, Bool.and_assoc]
theorem p101_3 (k : Nat) (x : Int) (xs : List Int) (hk : k < xs.length) (h : smLInt xs) : m101_3 xs (k : Int) x = some (!(inB x 0 1000000 && !(ltI 0 k && leI x (xs.getD (k - 1) 0)))) := by
  unfold smLInt at h
  simp only [m101_3, m100, p91, bnd_ok]
  cases inB x 0 1000000 with
  | false => rfl
  | true =>
    by_cases h0 : 0 < k
    · have hp : k - 1 < xs.length := by omega
      simp [(ltI_iff 0 (k : Int)).2 (by omega), wpred hk h0 (by omega), idx_get hp, List.getElem?_eq_getElem hp]
    · obtain rfl : k = 0 := by omega
      rfl
theorem p101 (xs : List Int) (h : smLInt xs) : m101 xs = some (leI (xs.length : Int) 6 && commsB xs) := by
  have h' := h
  unfold smLInt at h
  have hl : loopP (m101_1b xs (xs.length : Int)) 0 = some (if commsB xs = true then .inl () else .inr ()) := by
    refine loop_all _ _ _ _ (fun k hk => ?_) ?_
    · simp only [m101_1b, (ltI_iff _ _).2 (Int.ofNat_lt.2 hk), br_true, idx_get hk, bnd_ok, p101_3 k _ xs hk h', wsucc hk (by omega), List.getElem?_eq_getElem hk, br_some, if_true, ite_bnot]
    · simp only [m101_1b, (ltI_not _ _).2 (Int.le_refl _), br_false]
  simp only [m101, hl, bnd_ok]
  cases commsB xs <;> simp
theorem p115 (xs : List Int) (h : smLInt xs) (f : Int → Option Bool) (p : Int → Bool) (hf : ∀ x, f x = some (!p x)) : m115 xs f = some (if xs.all p = true then -1 else ((xs.findIdx (fun x => !p x) : Nat) : Int)) := by
  have h' := h
  unfold smLInt at h
  have key : ∀ (n k : Nat), n + k = xs.length → (∀ i, i < k → ∀ x, xs[i]? = some x → p x = true) → loopP (m115_1b xs (xs.length : Int) f) (k : Int) = some (if xs.all p = true then .inl () else .inr ((xs.findIdx (fun x => !p x) : Nat) : Int)) := by
    intro n
    induction n with
    | zero =>
      intro k hk hp
      obtain rfl : k = xs.length := by omega
      have : xs.all p = true := List.all_eq_true.2 fun x hx => by
        obtain ⟨i, hi, rfl⟩ := List.mem_iff_getElem.1 hx
        exact hp i hi _ (List.getElem?_eq_getElem hi)
      rw [loopP_out (b := .inl ()) (by simp only [m115_1b, (ltI_not _ _).2 (Int.le_refl _), br_false]), if_pos this]
    | succ n ih =>
      intro k hk hp
      have hl : k < xs.length := by omega
      cases hq : p xs[k] with
      | true =>
        rw [loopP_nxt (s' := ((k + 1 : Nat) : Int)) (by simp only [m115_1b, (ltI_iff _ _).2 (Int.ofNat_lt.2 hl), br_true, idx_get hl, bnd_ok, hf, hq, Bool.not_true, br_false, wsucc hl (by omega)])]
        refine ih (k + 1) (by omega) fun i hi x hx => ?_
        by_cases hik : i = k
        · subst hik; rw [List.getElem?_eq_getElem hl] at hx; cases hx; exact hq
        · exact hp i (by omega) x hx
      | false =>
        rw [loopP_out (b := .inr (k : Int)) (by simp only [m115_1b, (ltI_iff _ _).2 (Int.ofNat_lt.2 hl), br_true, idx_get hl, bnd_ok, hf, hq, Bool.not_false, br_true])]
        have h1 : ¬ xs.all p = true := fun ha => by have := List.all_eq_true.1 ha _ (List.getElem_mem hl); rw [hq] at this; cases this
        have h2 : xs.findIdx (fun x => !p x) = k := by
          refine (List.findIdx_eq hl).2 ⟨by simp [hq], fun j hj => ?_⟩
          have := hp j hj _ (List.getElem?_eq_getElem (by omega))
          simp [this]
        rw [if_neg h1, h2]
  have := key xs.length 0 (by omega) (fun i hi => by omega)
  simp only [m115, Int.ofNat_zero] at this ⊢
  rw [this, bnd_ok]
  split <;> rfl
theorem p98 (xs : List Int) (h : smLInt xs) : m98 xs = some (leI (xs.length : Int) 10 && pathB xs) := by
  have hp : pathB xs = xs.all (fun x => inB x 1 65535) := allN_list xs (fun x => inB x 1 65535)
  simp only [m98, m98_1, m109, p115 xs h (fun y0 => m110 y0) (fun x => inB x 1 65535) (fun x => by simp only [m110, m66, p91, bnd_ok]), bnd_ok, hp]
  cases xs.all (fun x => inB x 1 65535) with
  | true => simp [leI]
  | false => simp [leI]
theorem p77 (a : Attrs) (h : smAttrs a) : m77 a = some (attrsB a) := by
  obtain ⟨_, h1, _, _, _, h5⟩ := h
  simp only [m77, m77_1, p91, p98 _ h1, p101 _ h5, m99, m100, bnd_ok, attrsB, br_and]
  congr 1
  simp only [Bool.and_assoc]
  ac_rfl
def offerB (a : Offer) : Bool := inB a.peer 0 5 && attrsB a.attrs
theorem p50 (a : Offer) (h : smOffer a) : m50 a = some (offerB a) := by
  simp only [m50, m50_1, m76, p91, p77 _ h.2, bnd_ok, br_and, offerB]
theorem p13 (a : Offer) (h : smOffer a) : m13 [a] = some (offerB a) := by
  have hl : loopP (m13_1b [a] (([a] : List Offer).length : Int)) 0 = some (if allN 1 (fun _ => offerB a) = true then .inl () else .inr ()) := by
    refine loop_all _ _ _ _ (fun k hk => ?_) ?_
    · obtain rfl : k = 0 := by omega
      have e : m13_3 [a] ((0 : Nat) : Int) a = some (!offerB a) := by
        simp only [m13_3, p48, p49 _ h.2, bnd_ok, offerB]
        cases inB a.peer 0 5 <;> cases attrsB a.attrs <;> rfl
      have e0 : idx [a] ((0 : Nat) : Int) = some a := rfl
      have e1 : ltI ((0 : Nat) : Int) (([a] : List Offer).length : Int) = true := rfl
      simp only [m13_1b, e0, e1, bnd_ok, e, br_true, br_some, ite_bnot]
      rfl
    · rfl
  simp only [m13, hl, bnd_ok, allN, Bool.and_true]
  cases offerB a <;> rfl
def cmpI (a b : Int) : Int := if a < b then -1 else if b < a then 1 else 0
theorem p79 (a b : Int) : m79 a b = some (cmpI a b) := by
  unfold m79 cmpI
  by_cases h1 : a < b
  · rw [(ltI_iff _ _).2 h1, if_pos h1]; rfl
  · rw [(ltI_not _ _).2 (by omega), if_neg h1, br_false, br_some]; simp only [ltI_iff]
theorem p82 (a b : Int) : m82 a b = some (cmpI a b) := by
  have := p79 a b
  unfold m79 at this
  simp only [m82, m102, eqI_self, bnd_ok, Bool.not_true, br_false]
  exact this
theorem p52 (a b : Offer) : m52 a b = m54 a b := by
  unfold m52 m54
  cases eqI a.peer b.peer with
  | true => rfl
  | false =>
    simp only [br_false, p79, p82, bnd_ok]
    generalize cmpI b.attrs.pref a.attrs.pref = r0
    generalize cmpI (a.attrs.path.length : Int) (b.attrs.path.length : Int) = r1
    generalize cmpI a.attrs.origin b.attrs.origin = r2
    generalize cmpI a.attrs.med b.attrs.med = r3
    generalize cmpI a.attrs.next b.attrs.next = r4
    generalize cmpI a.peer b.peer = r5
    have l1 : loopP (m52_1b [r0, r1, r2, r3, r4]) 0 = some (([r0, r1, r2, r3, r4].findSome? (fun x => if x = 0 then none else some (.inr x : Unit ⊕ Int))).getD (.inl ())) := by
      refine loop_find _ _ _ (fun k hk => ?_) rfl
      have hk5 : k < 5 := hk
      simp only [m52_1b, (ltI_iff (k : Int) 5).2 (by omega), br_true, idx_get hk, bnd_ok, wsucc hk5 (by omega)]
      by_cases h0 : [r0, r1, r2, r3, r4][k] = 0
      · rw [if_pos h0, h0]; rfl
      · rw [if_neg h0, (eqI_not _ _).2 h0]; rfl
    have l2 : loopP (m81_1b [r0, r1, r2, r3, r4, r5] (([r0, r1, r2, r3, r4, r5] : List Int).length : Int)) 0 = some (([r0, r1, r2, r3, r4, r5].findSome? (fun x => if x = 0 then none else some (.inr x : Unit ⊕ Int))).getD (.inl ())) := by
      refine loop_find _ _ _ (fun k hk => ?_) rfl
      have hk5 : k < 6 := hk
      simp only [m81_1b, (ltI_iff _ _).2 (Int.ofNat_lt.2 hk), br_true, idx_get hk, bnd_ok, wsucc hk5 (by omega)]
      by_cases h0 : [r0, r1, r2, r3, r4, r5][k] = 0
      · rw [if_pos h0, h0]; rfl
      · rw [if_neg h0, (eqI_not _ _).2 h0]; rfl
    rw [l1]
    unfold m81
    rw [l2]
    simp only [List.findSome?_cons, List.findSome?_nil, bnd_ok]
    by_cases h0 : r0 = 0
    · by_cases h1 : r1 = 0
      · by_cases h2 : r2 = 0
        · by_cases h3 : r3 = 0
          · by_cases h4 : r4 = 0
            · by_cases h5 : r5 = 0 <;> simp [h0, h1, h2, h3, h4, h5]
            · simp [h0, h1, h2, h3, h4]
          · simp [h0, h1, h2, h3]
        · simp [h0, h1, h2]
      · simp [h0, h1]
    · simp [h0]
theorem p54 (a b : Offer) : ∃ r, m54 a b = some r := by
  rw [← p52]
  unfold m52
  cases eqI a.peer b.peer with
  | true => exact ⟨_, rfl⟩
  | false =>
    simp only [br_false, p79, bnd_ok]
    generalize cmpI b.attrs.pref a.attrs.pref = r0
    generalize cmpI (a.attrs.path.length : Int) (b.attrs.path.length : Int) = r1
    generalize cmpI a.attrs.origin b.attrs.origin = r2
    generalize cmpI a.attrs.med b.attrs.med = r3
    generalize cmpI a.attrs.next b.attrs.next = r4
    have l1 : loopP (m52_1b [r0, r1, r2, r3, r4]) 0 = some (([r0, r1, r2, r3, r4].findSome? (fun x => if x = 0 then none else some (.inr x : Unit ⊕ Int))).getD (.inl ())) := by
      refine loop_find _ _ _ (fun k hk => ?_) rfl
      have hk5 : k < 5 := hk
      simp only [m52_1b, (ltI_iff (k : Int) 5).2 (by omega), br_true, idx_get hk, bnd_ok, wsucc hk5 (by omega)]
      by_cases h0 : [r0, r1, r2, r3, r4][k] = 0
      · rw [if_pos h0, h0]; rfl
      · rw [if_neg h0, (eqI_not _ _).2 h0]; rfl
    rw [l1, bnd_ok]
    generalize ([r0, r1, r2, r3, r4].findSome? (fun x => if x = 0 then none else some (.inr x : Unit ⊕ Int))).getD (.inl ()) = o
    cases o <;> exact ⟨_, rfl⟩
theorem same (a b : Offer) (ha : smOffer a) (hb : smOffer b) : ∃ r, m18 a b = some r ∧ m20 a b = some r := by
  have e1 : m18_1 a b = some (!offerB a || !offerB b) := by simp only [m18_1, p13 a ha, p13 b hb, bnd_ok]; cases offerB a <;> rfl
  have e2 : m20_1 a b = some (!offerB a || !offerB b) := by simp only [m20_1, p50 a ha, p50 b hb, bnd_ok]; cases offerB a <;> rfl
  simp only [m18, m20, e1, e2, bnd_ok, p52]
  obtain ⟨r, hr⟩ := p54 a b
  rw [hr]
  cases (!offerB a || !offerB b) <;> exact ⟨_, rfl, rfl⟩
theorem law (a b : Offer) (ha : wfOffer a) (hb : wfOffer b) : m4 a b = some true := by
  obtain ⟨v0, e0, l0, u0, s0⟩ := z17 a 1048576 ha (by omega) (by omega)
  unfold m4
  rw [e0, bnd_ok]
  by_cases c0 : v0 < 0
  · rw [(ltI_iff _ _).2 c0]; rfl
  rw [(ltI_not _ _).2 (by omega), br_false]
  obtain ⟨v1, e1, l1, u1, s1⟩ := z17 b v0 hb (by omega) (by omega)
  rw [e1, bnd_ok]
  by_cases c1 : v1 < 0
  · rw [(ltI_iff _ _).2 c1]; rfl
  rw [(ltI_not _ _).2 (by omega), br_false]
  have sa := s0 (by omega)
  have sb := s1 (by omega)
  obtain ⟨⟨x, y⟩, h1, h2⟩ := same a b sa sb
  simp only [t19 a sa, t19 b sb, bnd_ok, h1, h2, sel2_ok, m4_1, eqI_self, eqB_self, br_true, Bool.not_true, br_false, q21 a sa, q21 b sb]
end Go.Pi.Ytlcanbihlfncoaa.CompareOffers
