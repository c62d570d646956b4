/- What functions of the program answer, and that the law answers true at every input; no condition -/
import Derived.Test.YtcihklkihglmjaaPlayPairModPlayPair
import Derived.Test.YtcihklkihglmjaaPiD
set_option linter.all false
/- What stands in every law: sizes, copies, comparisons. -/
namespace Go.Pi.Ytcihklkihglmjaa.PlayPair
open Go Go.Pi
set_option linter.all false
def smInt (x : Int) : Prop := True
def smLInt (x : (List Int)) : Prop := x.length ≤ 1048576
def smBool (x : Bool) : Prop := True
def smSession (x : Session) : Prop := smInt x.state ∧ smInt x.hold ∧ smInt x.left ∧ smInt x.quiet ∧ smInt x.ups
def sml12Side (x : l12Side) : Prop := smSession x.s ∧ smLInt x.in_ ∧ smInt x.asks
def smEvt (x : Evt) : Prop := smInt x.kind ∧ smInt x.n
def smside (x : side) : Prop := smSession x.session ∧ smInt x.began ∧ smLInt x.heard
theorem t32 (a0 : (List Int)) (h : smLInt a0) : m32 a0 = some a0 := to_flat _ a0 h (fun p => rfl)
theorem q13 (a0 : Session) (h : smSession a0) : m13 a0 a0 = some true := by
  obtain ⟨h0, h1, h2, h3, h4⟩ := h
  simp only [m13, bnd_ok, eqI_self, eqB_self, br_true]
theorem q22 (a0 : (List Int)) (h : smLInt a0) : m22 a0 a0 = some true := eq_flat eqI eqI_self a0 (by unfold smLInt at h; omega) (fun s => rfl)
end Go.Pi.Ytcihklkihglmjaa.PlayPair
