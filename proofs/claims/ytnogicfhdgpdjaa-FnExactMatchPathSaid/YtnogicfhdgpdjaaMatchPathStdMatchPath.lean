/- What functions of the program answer, and that the law answers true at every input; no condition -/
import Derived.Test.YtnogicfhdgpdjaaMatchPathModMatchPath
import Derived.Test.YtnogicfhdgpdjaaPiD
set_option linter.all false
/- What stands in every law: sizes, copies, comparisons. -/
namespace Go.Pi.Ytnogicfhdgpdjaa.MatchPath
open Go Go.Pi
set_option linter.all false
def smInt (x : Int) : Prop := True
def smReCell (x : ReCell) : Prop := smInt x.kind ∧ smInt x.n
def smLReCell (x : (List ReCell)) : Prop := x.length ≤ 1048576
def smLInt (x : (List Int)) : Prop := x.length ≤ 1048576
def smBool (x : Bool) : Prop := True
def sml6T (x : l6T) : Prop := True
def smLl6T (x : (List l6T)) : Prop := x.length ≤ 1048576 ∧ ∀ y ∈ x, sml6T y
def smpattern (x : pattern) : Prop := True
def smPpattern (x : pattern) : Prop := True
def smLPpattern (x : (List pattern)) : Prop := x.length ≤ 1048576 ∧ ∀ y ∈ x, smPpattern y
theorem z6 (a0 : (List ReCell)) (a1 : Int) (hw : wfLReCell a0) (h0 : 0 ≤ a1) (h1 : a1 ≤ 1048576) : SzOk smLReCell a0 a1 (m6 a0 a1) := sz_flat a0 a1 hw.1 h0 h1
theorem t32 (a0 : ReCell) (h : smReCell a0) : m32 a0 = some a0 := by
  obtain ⟨h0, h1⟩ := h
  simp only [m32, bnd_ok]
theorem t8 (a0 : (List ReCell)) (h : smLReCell a0) : m8 a0 = some a0 := to_slice (sm := smReCell) (m := m32) t32 _ a0 ⟨h, fun _ _ => ⟨trivial, trivial⟩⟩ (fun p => rfl)
theorem t9 (a0 : (List Int)) (h : smLInt a0) : m9 a0 = some a0 := to_flat _ a0 h (fun p => rfl)
theorem q35 (a0 : ReCell) (h : smReCell a0) : m35 a0 a0 = some true := by
  obtain ⟨h0, h1⟩ := h
  simp only [m35, bnd_ok, eqI_self, eqB_self, br_true]
theorem q11 (a0 : (List ReCell)) (h : smLReCell a0) : m11 a0 a0 = some true := eq_slice (W := smReCell) m35 q35 a0 ⟨by unfold smLReCell at h; omega, fun _ _ => ⟨trivial, trivial⟩⟩ (fun s => rfl)
theorem q12 (a0 : (List Int)) (h : smLInt a0) : m12 a0 a0 = some true := eq_flat eqI eqI_self a0 (by unfold smLInt at h; omega) (fun s => rfl)
end Go.Pi.Ytnogicfhdgpdjaa.MatchPath
