/- What functions of the program answer, and that the law answers true at every input; no condition -/
import Derived.Test.YtcihklkihglmjaaStepSessionModStepSession
import Derived.Test.YtcihklkihglmjaaPiD
set_option linter.all false
/- What stands in every law: sizes, copies, comparisons. -/
namespace Go.Pi.Ytcihklkihglmjaa.StepSession
open Go Go.Pi
set_option linter.all false
def smInt (x : Int) : Prop := True
def smSession (x : Session) : Prop := smInt x.state ∧ smInt x.hold ∧ smInt x.left ∧ smInt x.quiet ∧ smInt x.ups
def smEvt (x : Evt) : Prop := smInt x.kind ∧ smInt x.n
def smBool (x : Bool) : Prop := True
def smLInt (x : (List Int)) : Prop := x.length ≤ 1048576
theorem t15 (a0 : Session) (h : smSession a0) : m15 a0 = some a0 := by
  obtain ⟨h0, h1, h2, h3, h4⟩ := h
  simp only [m15, bnd_ok]
theorem t20 (a0 : Evt) (h : smEvt a0) : m20 a0 = some a0 := by
  obtain ⟨h0, h1⟩ := h
  simp only [m20, bnd_ok]
theorem q13 (a0 : Session) (h : smSession a0) : m13 a0 a0 = some true := by
  obtain ⟨h0, h1, h2, h3, h4⟩ := h
  simp only [m13, bnd_ok, eqI_self, eqB_self, br_true]
theorem q22 (a0 : (List Int)) (h : smLInt a0) : m22 a0 a0 = some true := eq_flat eqI eqI_self a0 (by unfold smLInt at h; omega) (fun s => rfl)
theorem k23 (a0 : List Int) (a1 : Int) (h : smLInt a0) (h0 : 0 ≤ a1) (h1 : a1 ≤ 1099511627776) : m23 a0 a1 = some (a1 + a0.length, ramp a1 a0.length) := by
  unfold m23
  rw [mark_flat (body := m23_1b) (fun p => rfl) a0 a1 h h0 h1]; rfl
theorem d24 (n : Nat) (a1 : Int) (h : n ≤ 1048576) (h0 : 0 ≤ a1) (h1 : a1 ≤ 1099511627776) : m24 (ramp a1 n) a1 = some (a1 + n) := by
  unfold m24
  rw [held_flat (body := m24_1b (ramp a1 n)) n a1 (fun p => rfl) h h0 h1]; rfl
end Go.Pi.Ytcihklkihglmjaa.StepSession
