/- What functions of the program answer, and that the law answers true at every input; no condition -/
import Derived.Test.YtnogicfhdgpdjaaDeriveByModDeriveBy
import Derived.Test.YtnogicfhdgpdjaaPiD
set_option linter.all false
/- What stands in every law: sizes, copies, comparisons. -/
namespace Go.Pi.Ytnogicfhdgpdjaa.DeriveBy
open Go Go.Pi
set_option linter.all false
def smInt (x : Int) : Prop := True
def smReCell (x : ReCell) : Prop := smInt x.kind ∧ smInt x.n
def smLReCell (x : (List ReCell)) : Prop := x.length ≤ 1048576
def smBool (x : Bool) : Prop := True
def sml6T (x : l6T) : Prop := True
def smLl6T (x : (List l6T)) : Prop := x.length ≤ 1048576 ∧ ∀ y ∈ x, sml6T y
def smpattern (x : pattern) : Prop := True
def smPpattern (x : pattern) : Prop := True
def smLPpattern (x : (List pattern)) : Prop := x.length ≤ 1048576 ∧ ∀ y ∈ x, smPpattern y
theorem z6 (a0 : (List ReCell)) (a1 : Int) (hw : wfLReCell a0) (h0 : 0 ≤ a1) (h1 : a1 ≤ 1048576) : SzOk smLReCell a0 a1 (m6 a0 a1) := sz_flat a0 a1 hw.1 h0 h1
theorem t32 (a0 : ReCell) (h : smReCell a0) : m32 a0 = some a0 := by
  obtain ⟨h0, h1⟩ := h
  simp only [m32, bnd_ok]
theorem t8 (a0 : (List ReCell)) (h : smLReCell a0) : m8 a0 = some a0 := to_slice (sm := smReCell) (m := m32) t32 _ a0 ⟨h, fun _ _ => ⟨trivial, trivial⟩⟩ (fun p => rfl)
theorem q35 (a0 : ReCell) (h : smReCell a0) : m35 a0 a0 = some true := by
  obtain ⟨h0, h1⟩ := h
  simp only [m35, bnd_ok, eqI_self, eqB_self, br_true]
theorem q11 (a0 : (List ReCell)) (h : smLReCell a0) : m11 a0 a0 = some true := eq_slice (W := smReCell) m35 q35 a0 ⟨by unfold smLReCell at h; omega, fun _ _ => ⟨trivial, trivial⟩⟩ (fun s => rfl)
theorem k15 (a0 : (List ReCell)) (a1 : Int) (h : smLReCell a0) (h0 : 0 ≤ a1) (h1 : a1 ≤ 2305843009213693952) : ∃ ys : (List ReCell), m15 a0 a1 = some (a1 + (2 : Nat) * a0.length, ys) ∧ ys.length = a0.length := by
  obtain ⟨ys, e, hy⟩ := mark_any (body := m15_1b) 2 (fun p => rfl) (fun v h0 h1 => by rw [wadd64 (a := v) (b := 1) (by omega) (by omega), wadd64 (a := v + 1) (b := 1) (by omega) (by omega)]; omega) (fun _ _ _ _ => by simp) (by omega) a0 a1 h h0 h1
  exact ⟨ys, by unfold m15; rw [e]; rfl, hy⟩
end Go.Pi.Ytnogicfhdgpdjaa.DeriveBy
