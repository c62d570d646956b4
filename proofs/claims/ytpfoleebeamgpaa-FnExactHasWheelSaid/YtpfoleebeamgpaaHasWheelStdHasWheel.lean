/- What functions of the program answer, and that the law answers true at every input; no condition -/
import Derived.Test.YtpfoleebeamgpaaHasWheelModHasWheel
import Derived.Test.YtpfoleebeamgpaaPiD
set_option linter.all false
/- What stands in every law: sizes, copies, comparisons. -/
namespace Go.Pi.Ytpfoleebeamgpaa.HasWheel
open Go Go.Pi
set_option linter.all false
def smInt (x : Int) : Prop := True
def smLInt (x : (List Int)) : Prop := x.length ≤ 1048576
def smLLInt (x : (List (List Int))) : Prop := x.length ≤ 1048576 ∧ ∀ y ∈ x, smLInt y
def smLLLInt (x : (List (List (List Int)))) : Prop := x.length ≤ 1048576 ∧ ∀ y ∈ x, smLLInt y
def smSpp (x : Spp) : Prop := smLLLInt x.ranked
def smBool (x : Bool) : Prop := True
def sml10Pair (x : l10Pair) : Prop := smInt x.node ∧ smInt x.path
def smLl10Pair (x : (List l10Pair)) : Prop := x.length ≤ 1048576
def smturn (x : turn) : Prop := smInt x.node ∧ smInt x.way
def smLturn (x : (List turn)) : Prop := x.length ≤ 1048576
theorem z100 (a0 : (List Int)) (a1 : Int) (hw : wfLInt a0) (h0 : 0 ≤ a1) (h1 : a1 ≤ 1048576) : SzOk smLInt a0 a1 (m100 a0 a1) := sz_flat a0 a1 hw.1 h0 h1
theorem z86 (a0 : (List (List Int))) (a1 : Int) (hw : wfLLInt a0) (h0 : 0 ≤ a1) (h1 : a1 ≤ 1048576) : SzOk smLLInt a0 a1 (m86 a0 a1) := sz_slice (sm := smLInt) (W := wfLInt) (m := m100) z100 a0 a1 hw h0 h1 (fun p => rfl)
theorem z46 (a0 : (List (List (List Int)))) (a1 : Int) (hw : wfLLLInt a0) (h0 : 0 ≤ a1) (h1 : a1 ≤ 1048576) : SzOk smLLLInt a0 a1 (m46 a0 a1) := sz_slice (sm := smLLInt) (W := wfLLInt) (m := m86) z86 a0 a1 hw h0 h1 (fun p => rfl)
theorem z13 (a0 : Spp) (a1 : Int) (hw : wfSpp a0) (h0 : 0 ≤ a1) (h1 : a1 ≤ 1048576) : SzOk smSpp a0 a1 (m13 a0 a1) := by
  have w0 := hw
  unfold m13
  have b1 := h1
  obtain ⟨v0, e0, l0, u0, s0⟩ := z46 a0.ranked a1 w0 (by omega) (by omega)
  rw [e0, bnd_ok]
  by_cases c0 : v0 < 0
  · rw [(ltI_iff _ _).2 c0]; exact ⟨-1, rfl, by omega, by omega, by omega⟩
  rw [(ltI_not _ _).2 (by omega), br_false]
  exact ⟨_, rfl, by omega, by omega, fun _ => s0 (by omega)⟩
theorem t19 (a0 : (List Int)) (h : smLInt a0) : m19 a0 = some a0 := to_flat _ a0 h (fun p => rfl)
theorem t88 (a0 : (List (List Int))) (h : smLLInt a0) : m88 a0 = some a0 := to_slice (sm := smLInt) (m := m19) t19 _ a0 h (fun p => rfl)
theorem t50 (a0 : (List (List (List Int)))) (h : smLLLInt a0) : m50 a0 = some a0 := to_slice (sm := smLLInt) (m := m88) t88 _ a0 h (fun p => rfl)
theorem t15 (a0 : Spp) (h : smSpp a0) : m15 a0 = some a0 := by
  have h0 := h
  simp only [m15, bnd_ok, t50 _ h0]
theorem q21 (a0 : (List Int)) (h : smLInt a0) : m21 a0 a0 = some true := eq_flat eqI eqI_self a0 (by unfold smLInt at h; omega) (fun s => rfl)
theorem q33 (a0 : (List (List Int))) (h : smLLInt a0) : m33 a0 a0 = some true := eq_slice (W := smLInt) m21 q21 a0 ⟨by have := h.1; omega, h.2⟩ (fun s => rfl)
theorem q56 (a0 : (List (List (List Int)))) (h : smLLLInt a0) : m56 a0 a0 = some true := eq_slice (W := smLLInt) m33 q33 a0 ⟨by have := h.1; omega, h.2⟩ (fun s => rfl)
theorem q17 (a0 : Spp) (h : smSpp a0) : m17 a0 a0 = some true := by
  have h0 := h
  simp only [m17, bnd_ok, eqI_self, eqB_self, br_true, q56 _ h0]
end Go.Pi.Ytpfoleebeamgpaa.HasWheel
