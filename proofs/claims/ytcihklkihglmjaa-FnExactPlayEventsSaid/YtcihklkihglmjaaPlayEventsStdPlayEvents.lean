/- What functions of the program answer, and that the law answers true at every input; no condition -/
import Derived.Test.YtcihklkihglmjaaPlayEventsModPlayEvents
import Derived.Test.YtcihklkihglmjaaPiD
set_option linter.all false
/- What stands in every law: sizes, copies, comparisons. -/
namespace Go.Pi.Ytcihklkihglmjaa.PlayEvents
open Go Go.Pi
set_option linter.all false
def smInt (x : Int) : Prop := True
def smEvt (x : Evt) : Prop := smInt x.kind ∧ smInt x.n
def smLEvt (x : (List Evt)) : Prop := x.length ≤ 1048576
def smBool (x : Bool) : Prop := True
def smSession (x : Session) : Prop := smInt x.state ∧ smInt x.hold ∧ smInt x.left ∧ smInt x.quiet ∧ smInt x.ups
def smLInt (x : (List Int)) : Prop := x.length ≤ 1048576
theorem z25 (a0 : (List Evt)) (a1 : Int) (hw : wfLEvt a0) (h0 : 0 ≤ a1) (h1 : a1 ≤ 1048576) : SzOk smLEvt a0 a1 (m25 a0 a1) := sz_flat a0 a1 hw.1 h0 h1
theorem t20 (a0 : Evt) (h : smEvt a0) : m20 a0 = some a0 := by
  obtain ⟨h0, h1⟩ := h
  simp only [m20, bnd_ok]
theorem t27 (a0 : (List Evt)) (h : smLEvt a0) : m27 a0 = some a0 := to_slice (sm := smEvt) (m := m20) t20 _ a0 ⟨h, fun _ _ => ⟨trivial, trivial⟩⟩ (fun p => rfl)
theorem q13 (a0 : Session) (h : smSession a0) : m13 a0 a0 = some true := by
  obtain ⟨h0, h1, h2, h3, h4⟩ := h
  simp only [m13, bnd_ok, eqI_self, eqB_self, br_true]
theorem q22 (a0 : (List Int)) (h : smLInt a0) : m22 a0 a0 = some true := eq_flat eqI eqI_self a0 (by unfold smLInt at h; omega) (fun s => rfl)
theorem q47 (a0 : Evt) (h : smEvt a0) : m47 a0 a0 = some true := by
  obtain ⟨h0, h1⟩ := h
  simp only [m47, bnd_ok, eqI_self, eqB_self, br_true]
theorem q29 (a0 : (List Evt)) (h : smLEvt a0) : m29 a0 a0 = some true := eq_slice (W := smEvt) m47 q47 a0 ⟨by unfold smLEvt at h; omega, fun _ _ => ⟨trivial, trivial⟩⟩ (fun s => rfl)
theorem k30 (a0 : (List Evt)) (a1 : Int) (h : smLEvt a0) (h0 : 0 ≤ a1) (h1 : a1 ≤ 1099511627776) : ∃ ys : (List Evt), m30 a0 a1 = some (a1 + (2 : Nat) * a0.length, ys) ∧ ys.length = a0.length := by
  obtain ⟨ys, e, hy⟩ := mark_any (body := m30_1b) 2 (fun p => rfl) (fun v h0 h1 => by rw [wadd64 (a := v) (b := 1) (by omega) (by omega), wadd64 (a := v + 1) (b := 1) (by omega) (by omega)]; omega) (fun _ _ _ _ => by simp) (by omega) a0 a1 h h0 h1
  exact ⟨ys, by unfold m30; rw [e]; rfl, hy⟩
theorem k23 (a0 : List Int) (a1 : Int) (h : smLInt a0) (h0 : 0 ≤ a1) (h1 : a1 ≤ 1099511627776) : m23 a0 a1 = some (a1 + a0.length, ramp a1 a0.length) := by
  unfold m23
  rw [mark_flat (body := m23_1b) (fun p => rfl) a0 a1 h h0 h1]; rfl
theorem d24 (n : Nat) (a1 : Int) (h : n ≤ 1048576) (h0 : 0 ≤ a1) (h1 : a1 ≤ 1099511627776) : m24 (ramp a1 n) a1 = some (a1 + n) := by
  unfold m24
  rw [held_flat (body := m24_1b (ramp a1 n)) n a1 (fun p => rfl) h h0 h1]; rfl
end Go.Pi.Ytcihklkihglmjaa.PlayEvents
