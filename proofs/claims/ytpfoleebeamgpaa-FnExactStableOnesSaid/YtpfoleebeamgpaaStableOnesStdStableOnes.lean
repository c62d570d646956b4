/- What functions of the program answer, and that the law answers true at every input; no condition -/
import Derived.Test.YtpfoleebeamgpaaStableOnesModStableOnes
import Derived.Test.YtpfoleebeamgpaaPiD
set_option linter.all false
/- What stands in every law: sizes, copies, comparisons. -/
namespace Go.Pi.Ytpfoleebeamgpaa.StableOnes
open Go Go.Pi
set_option linter.all false
def smInt (x : Int) : Prop := True
def smLInt (x : (List Int)) : Prop := x.length ≤ 1048576
def smLLInt (x : (List (List Int))) : Prop := x.length ≤ 1048576 ∧ ∀ y ∈ x, smLInt y
def smLLLInt (x : (List (List (List Int)))) : Prop := x.length ≤ 1048576 ∧ ∀ y ∈ x, smLLInt y
def smSpp (x : Spp) : Prop := smLLLInt x.ranked
def smBool (x : Bool) : Prop := True
theorem z100 (a0 : (List Int)) (a1 : Int) (hw : wfLInt a0) (h0 : 0 ≤ a1) (h1 : a1 ≤ 1048576) : SzOk smLInt a0 a1 (m100 a0 a1) := sz_flat a0 a1 hw.1 h0 h1
theorem z86 (a0 : (List (List Int))) (a1 : Int) (hw : wfLLInt a0) (h0 : 0 ≤ a1) (h1 : a1 ≤ 1048576) : SzOk smLLInt a0 a1 (m86 a0 a1) := sz_slice (sm := smLInt) (W := wfLInt) (m := m100) z100 a0 a1 hw h0 h1 (fun p => rfl)
theorem z46 (a0 : (List (List (List Int)))) (a1 : Int) (hw : wfLLLInt a0) (h0 : 0 ≤ a1) (h1 : a1 ≤ 1048576) : SzOk smLLLInt a0 a1 (m46 a0 a1) := sz_slice (sm := smLLInt) (W := wfLLInt) (m := m86) z86 a0 a1 hw h0 h1 (fun p => rfl)
theorem z13 (a0 : Spp) (a1 : Int) (hw : wfSpp a0) (h0 : 0 ≤ a1) (h1 : a1 ≤ 1048576) : SzOk smSpp a0 a1 (m13 a0 a1) := by
  have w0 := hw
  unfold m13
  have b1 := h1
  obtain ⟨v0, e0, l0, u0, s0⟩ := z46 a0.ranked a1 w0 (by omega) (by omega)
  rw [e0, bnd_ok]
  by_cases c0 : v0 < 0
  · rw [(ltI_iff _ _).2 c0]; exact ⟨-1, rfl, by omega, by omega, by omega⟩
  rw [(ltI_not _ _).2 (by omega), br_false]
  exact ⟨_, rfl, by omega, by omega, fun _ => s0 (by omega)⟩
theorem t19 (a0 : (List Int)) (h : smLInt a0) : m19 a0 = some a0 := to_flat _ a0 h (fun p => rfl)
theorem t88 (a0 : (List (List Int))) (h : smLLInt a0) : m88 a0 = some a0 := to_slice (sm := smLInt) (m := m19) t19 _ a0 h (fun p => rfl)
theorem t50 (a0 : (List (List (List Int)))) (h : smLLLInt a0) : m50 a0 = some a0 := to_slice (sm := smLLInt) (m := m88) t88 _ a0 h (fun p => rfl)
theorem t15 (a0 : Spp) (h : smSpp a0) : m15 a0 = some a0 := by
  have h0 := h
  simp only [m15, bnd_ok, t50 _ h0]
theorem q21 (a0 : (List Int)) (h : smLInt a0) : m21 a0 a0 = some true := eq_flat eqI eqI_self a0 (by unfold smLInt at h; omega) (fun s => rfl)
theorem q33 (a0 : (List (List Int))) (h : smLLInt a0) : m33 a0 a0 = some true := eq_slice (W := smLInt) m21 q21 a0 ⟨by have := h.1; omega, h.2⟩ (fun s => rfl)
theorem q56 (a0 : (List (List (List Int)))) (h : smLLLInt a0) : m56 a0 a0 = some true := eq_slice (W := smLLInt) m33 q33 a0 ⟨by have := h.1; omega, h.2⟩ (fun s => rfl)
theorem q17 (a0 : Spp) (h : smSpp a0) : m17 a0 a0 = some true := by
  have h0 := h
  simp only [m17, bnd_ok, eqI_self, eqB_self, br_true, q56 _ h0]
theorem k29 (a0 : List Int) (a1 : Int) (h : smLInt a0) (h0 : 0 ≤ a1) (h1 : a1 ≤ 4611686018427387904) : m29 a0 a1 = some (a1 + a0.length, ramp a1 a0.length) := by
  unfold m29
  rw [mark_flat (body := m29_1b) (fun p => rfl) a0 a1 h h0 h1]; rfl
theorem d30 (n : Nat) (a1 : Int) (h : n ≤ 1048576) (h0 : 0 ≤ a1) (h1 : a1 ≤ 4611686018427387904) : m30 (ramp a1 n) a1 = some (a1 + n) := by
  unfold m30
  rw [held_flat (body := m30_1b (ramp a1 n)) n a1 (fun p => rfl) h h0 h1]; rfl
theorem k34 (a0 : List (List Int)) (a1 : Int) (h : smLLInt a0) (h0 : 0 ≤ a1) (h1 : a1 ≤ 2305843009213693952) : ∃ k ys, m34 a0 a1 = some (k, ys) ∧ ys.length = a0.length ∧ a1 ≤ k ∧ k ≤ a1 + 1099511627776 ∧ m35 ys a1 = some k := by
  have hl := h.1
  obtain ⟨k, ys, e1, e2, e3, e4, e5⟩ := mark_nest (mk := m29) (hd := m30) (sm := smLInt) (W := 1048576) (B := 4611686018427387904) (by omega)
    (fun x k hx h0 h1 => ⟨k + x.length, ramp k x.length, k29 x k hx h0 (by omega), ramp_length _ _, by omega, by unfold smLInt at hx; omega, d30 x.length k hx h0 (by omega)⟩) (body := m34_1b) (fun p => rfl) (hbody := m35_1b) (fun l p => rfl) a0 a1 hl h.2 h0 (by omega)
  exact ⟨k, ys, by unfold m34; rw [e1, bnd_ok, sel2_ok], e2, e3, by omega, by unfold m35; rw [e5, bnd_ok, selS_inl]⟩
theorem k72 (a0 : List (List (List Int))) (a1 : Int) (h : smLLLInt a0) (h0 : 0 ≤ a1) (h1 : a1 ≤ 1152921504606846976) : ∃ k ys, m72 a0 a1 = some (k, ys) ∧ ys.length = a0.length ∧ a1 ≤ k ∧ k ≤ a1 + 1152921504606846976 ∧ heldN m35 ys a1 = some k := by
  have hl := h.1
  obtain ⟨k, ys, e1, e2, e3, e4, e5⟩ := mark_nest (mk := m34) (hd := m35) (sm := smLLInt) (W := 1099511627776) (B := 2305843009213693952) (by omega)
    (fun x k hx h0 h1 => k34 x k hx h0 (by omega)) (body := m72_1b) (fun p => rfl) (hbody := hN m35) (fun l p => rfl) a0 a1 hl h.2 h0 (by omega)
  exact ⟨k, ys, by unfold m72; rw [e1, bnd_ok, sel2_ok], e2, e3, by omega, by show bnd (loopP (hN m35 ys) (a1, 0)) _ = _; rw [e5, bnd_ok, selS_inl]⟩
end Go.Pi.Ytpfoleebeamgpaa.StableOnes
