/- What functions of the program answer, and that the law answers true at every input; no condition -/
import Derived.Test.YtichbkallidkcaaNoRingModNoRing
import Derived.Test.YtichbkallidkcaaPiD
set_option linter.all false
/- What stands in every law: sizes, copies, comparisons. -/
namespace Go.Pi.Ytichbkallidkcaa.NoRing
open Go Go.Pi
set_option linter.all false
def smInt (x : Int) : Prop := True
def smRel (x : Rel) : Prop := smInt x.a ∧ smInt x.b ∧ smInt x.kind
def smLRel (x : (List Rel)) : Prop := x.length ≤ 1048576
def smBool (x : Bool) : Prop := True
def smLInt (x : (List Int)) : Prop := x.length ≤ 1048576
theorem z11 (a0 : (List Rel)) (a1 : Int) (hw : wfLRel a0) (h0 : 0 ≤ a1) (h1 : a1 ≤ 1048576) : SzOk smLRel a0 a1 (m11 a0 a1) := sz_flat a0 a1 hw.1 h0 h1
theorem t40 (a0 : Rel) (h : smRel a0) : m40 a0 = some a0 := by
  obtain ⟨h0, h1, h2⟩ := h
  simp only [m40, bnd_ok]
theorem t13 (a0 : (List Rel)) (h : smLRel a0) : m13 a0 = some a0 := to_slice (sm := smRel) (m := m40) t40 _ a0 ⟨h, fun _ _ => ⟨trivial, trivial, trivial⟩⟩ (fun p => rfl)
theorem q44 (a0 : Rel) (h : smRel a0) : m44 a0 a0 = some true := by
  obtain ⟨h0, h1, h2⟩ := h
  simp only [m44, bnd_ok, eqI_self, eqB_self, br_true]
theorem q15 (a0 : (List Rel)) (h : smLRel a0) : m15 a0 a0 = some true := eq_slice (W := smRel) m44 q44 a0 ⟨by unfold smLRel at h; omega, fun _ _ => ⟨trivial, trivial, trivial⟩⟩ (fun s => rfl)
end Go.Pi.Ytichbkallidkcaa.NoRing
