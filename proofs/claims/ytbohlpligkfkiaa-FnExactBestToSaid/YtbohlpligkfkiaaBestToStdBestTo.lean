/- What functions of the program answer, and that the law answers true at every input; no condition -/
import Derived.Test.YtbohlpligkfkiaaBestToModBestTo
import Derived.Test.YtbohlpligkfkiaaPiD
set_option linter.all false
/- What stands in every law: sizes, copies, comparisons. -/
namespace Go.Pi.Ytbohlpligkfkiaa.BestTo
open Go Go.Pi
set_option linter.all false
def smInt (x : Int) : Prop := True
def smLInt (x : (List Int)) : Prop := x.length ≤ 1048576
def smLLInt (x : (List (List Int))) : Prop := x.length ≤ 1048576 ∧ ∀ y ∈ x, smLInt y
def smAlgebra (x : Algebra) : Prop := smInt x.weights ∧ smLLInt x.apply
def smArc (x : Arc) : Prop := smInt x.from_ ∧ smInt x.to ∧ smInt x.label
def smLArc (x : (List Arc)) : Prop := x.length ≤ 1048576
def smBool (x : Bool) : Prop := True
def smIntu64 (x : Int) : Prop := True
theorem z76 (a0 : (List Int)) (a1 : Int) (hw : wfLInt a0) (h0 : 0 ≤ a1) (h1 : a1 ≤ 1048576) : SzOk smLInt a0 a1 (m76 a0 a1) := sz_flat a0 a1 hw.1 h0 h1
theorem z44 (a0 : (List (List Int))) (a1 : Int) (hw : wfLLInt a0) (h0 : 0 ≤ a1) (h1 : a1 ≤ 1048576) : SzOk smLLInt a0 a1 (m44 a0 a1) := sz_slice (sm := smLInt) (W := wfLInt) (m := m76) z76 a0 a1 hw h0 h1 (fun p => rfl)
theorem z12 (a0 : Algebra) (a1 : Int) (hw : wfAlgebra a0) (h0 : 0 ≤ a1) (h1 : a1 ≤ 1048576) : SzOk smAlgebra a0 a1 (m12 a0 a1) := by
  obtain ⟨w0, w1⟩ := hw
  unfold m12
  have b1 := h1
  obtain ⟨v1, e1, l1, u1, s1⟩ := z44 a0.apply a1 w1 (by omega) (by omega)
  rw [e1, bnd_ok]
  by_cases c1 : v1 < 0
  · rw [(ltI_iff _ _).2 c1]; exact ⟨-1, rfl, by omega, by omega, by omega⟩
  rw [(ltI_not _ _).2 (by omega), br_false]
  exact ⟨_, rfl, by omega, by omega, fun _ => ⟨trivial, s1 (by omega)⟩⟩
theorem z25 (a0 : (List Arc)) (a1 : Int) (hw : wfLArc a0) (h0 : 0 ≤ a1) (h1 : a1 ≤ 1048576) : SzOk smLArc a0 a1 (m25 a0 a1) := sz_flat a0 a1 hw.1 h0 h1
theorem t28 (a0 : (List Int)) (h : smLInt a0) : m28 a0 = some a0 := to_flat _ a0 h (fun p => rfl)
theorem t47 (a0 : (List (List Int))) (h : smLLInt a0) : m47 a0 = some a0 := to_slice (sm := smLInt) (m := m28) t28 _ a0 h (fun p => rfl)
theorem t14 (a0 : Algebra) (h : smAlgebra a0) : m14 a0 = some a0 := by
  obtain ⟨h0, h1⟩ := h
  simp only [m14, bnd_ok, t47 _ h1]
theorem t62 (a0 : Arc) (h : smArc a0) : m62 a0 = some a0 := by
  obtain ⟨h0, h1, h2⟩ := h
  simp only [m62, bnd_ok]
theorem t27 (a0 : (List Arc)) (h : smLArc a0) : m27 a0 = some a0 := to_slice (sm := smArc) (m := m62) t62 _ a0 ⟨h, fun _ _ => ⟨trivial, trivial, trivial⟩⟩ (fun p => rfl)
theorem q31 (a0 : (List Int)) (h : smLInt a0) : m31 a0 a0 = some true := eq_flat eqI eqI_self a0 (by unfold smLInt at h; omega) (fun s => rfl)
theorem q54 (a0 : (List (List Int))) (h : smLLInt a0) : m54 a0 a0 = some true := eq_slice (W := smLInt) m31 q31 a0 ⟨by have := h.1; omega, h.2⟩ (fun s => rfl)
theorem q16 (a0 : Algebra) (h : smAlgebra a0) : m16 a0 a0 = some true := by
  obtain ⟨h0, h1⟩ := h
  simp only [m16, bnd_ok, eqI_self, eqB_self, br_true, q54 _ h1]
theorem q67 (a0 : Arc) (h : smArc a0) : m67 a0 a0 = some true := by
  obtain ⟨h0, h1, h2⟩ := h
  simp only [m67, bnd_ok, eqI_self, eqB_self, br_true]
theorem q30 (a0 : (List Arc)) (h : smLArc a0) : m30 a0 a0 = some true := eq_slice (W := smArc) m67 q67 a0 ⟨by unfold smLArc at h; omega, fun _ _ => ⟨trivial, trivial, trivial⟩⟩ (fun s => rfl)
theorem k35 (a0 : List Int) (a1 : Int) (h : smLInt a0) (h0 : 0 ≤ a1) (h1 : a1 ≤ 4611686018427387904) : m35 a0 a1 = some (a1 + a0.length, ramp a1 a0.length) := by
  unfold m35
  rw [mark_flat (body := m35_1b) (fun p => rfl) a0 a1 h h0 h1]; rfl
theorem k34 (a0 : (List Arc)) (a1 : Int) (h : smLArc a0) (h0 : 0 ≤ a1) (h1 : a1 ≤ 2305843009213693952) : ∃ ys : (List Arc), m34 a0 a1 = some (a1 + (3 : Nat) * a0.length, ys) ∧ ys.length = a0.length := by
  obtain ⟨ys, e, hy⟩ := mark_any (body := m34_1b) 3 (fun p => rfl) (fun v h0 h1 => by rw [wadd64 (a := v) (b := 1) (by omega) (by omega), wadd64 (a := v + 1) (b := 1) (by omega) (by omega), wadd64 (a := v + 1 + 1) (b := 1) (by omega) (by omega)]; omega) (fun _ _ _ _ => by simp) (by omega) a0 a1 h h0 h1
  exact ⟨ys, by unfold m34; rw [e]; rfl, hy⟩
theorem d36 (n : Nat) (a1 : Int) (h : n ≤ 1048576) (h0 : 0 ≤ a1) (h1 : a1 ≤ 4611686018427387904) : m36 (ramp a1 n) a1 = some (a1 + n) := by
  unfold m36
  rw [held_flat (body := m36_1b (ramp a1 n)) n a1 (fun p => rfl) h h0 h1]; rfl
theorem k57 (a0 : List (List Int)) (a1 : Int) (h : smLLInt a0) (h0 : 0 ≤ a1) (h1 : a1 ≤ 2305843009213693952) : ∃ k ys, m57 a0 a1 = some (k, ys) ∧ ys.length = a0.length ∧ a1 ≤ k ∧ k ≤ a1 + 1099511627776 ∧ heldN heldI ys a1 = some k := by
  have hl := h.1
  obtain ⟨k, ys, e1, e2, e3, e4, e5⟩ := mark_nest (mk := m35) (hd := heldI) (sm := smLInt) (W := 1048576) (B := 4611686018427387904) (by omega)
    (fun x k hx h0 h1 => ⟨k + x.length, ramp k x.length, k35 x k hx h0 (by omega), ramp_length _ _, by omega, by unfold smLInt at hx; omega, heldI_ramp x.length k hx h0 (by omega)⟩) (body := m57_1b) (fun p => rfl) (hbody := hN heldI) (fun l p => rfl) a0 a1 hl h.2 h0 (by omega)
  exact ⟨k, ys, by unfold m57; rw [e1, bnd_ok, sel2_ok], e2, e3, by omega, by unfold heldN; rw [e5, bnd_ok, selS_inl]⟩
end Go.Pi.Ytbohlpligkfkiaa.BestTo
