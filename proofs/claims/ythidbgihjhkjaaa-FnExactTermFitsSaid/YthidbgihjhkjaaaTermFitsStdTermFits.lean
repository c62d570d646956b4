/- no condition -/
import Derived.Test.YthidbgihjhkjaaaTermFitsModTermFits
import Derived.Test.YthidbgihjhkjaaaPiD
set_option linter.all false
namespace Go.Pi.Ythidbgihjhkjaaa.TermFits
open Go Go.Pi
set_option linter.all false
def smInt (x : Int) : Prop := True
def smPrefix (x : Prefix) : Prop := smInt x.addr ∧ smInt x.len
def smRange (x : Range) : Prop := smPrefix x.prefix_ ∧ smInt x.lo ∧ smInt x.hi
def smLRange (x : (List Range)) : Prop := x.length ≤ 1048576
def smReCell (x : ReCell) : Prop := smInt x.kind ∧ smInt x.n
def smLReCell (x : (List ReCell)) : Prop := x.length ≤ 1048576
def smAcn (x : Acn) : Prop := smInt x.kind ∧ smInt x.n
def smLAcn (x : (List Acn)) : Prop := x.length ≤ 1048576
def smTerm (x : Term) : Prop := smLRange x.ranges ∧ smLReCell x.path ∧ smInt x.comm ∧ smLAcn x.acts ∧ smInt x.verdict
def smLInt (x : (List Int)) : Prop := x.length ≤ 1048576
def smAttrs (x : Attrs) : Prop := smInt x.origin ∧ smLInt x.path ∧ smInt x.next ∧ smInt x.med ∧ smInt x.pref ∧ smLInt x.comms
def smRoute (x : Route) : Prop := smPrefix x.prefix_ ∧ smAttrs x.attrs
def smBool (x : Bool) : Prop := True
def sml6T (x : l6T) : Prop := True
def smLl6T (x : (List l6T)) : Prop := x.length ≤ 1048576 ∧ ∀ y ∈ x, sml6T y
def smpattern (x : pattern) : Prop := True
def smPpattern (x : pattern) : Prop := True
def smLPpattern (x : (List pattern)) : Prop := x.length ≤ 1048576 ∧ ∀ y ∈ x, smPpattern y
theorem z59 (a0 : (List Range)) (a1 : Int) (hw : wfLRange a0) (h0 : 0 ≤ a1) (h1 : a1 ≤ 1048576) : SzOk smLRange a0 a1 (m59 a0 a1) := sz_flat a0 a1 hw.1 h0 h1
theorem z60 (a0 : (List ReCell)) (a1 : Int) (hw : wfLReCell a0) (h0 : 0 ≤ a1) (h1 : a1 ≤ 1048576) : SzOk smLReCell a0 a1 (m60 a0 a1) := sz_flat a0 a1 hw.1 h0 h1
theorem z61 (a0 : (List Acn)) (a1 : Int) (hw : wfLAcn a0) (h0 : 0 ≤ a1) (h1 : a1 ≤ 1048576) : SzOk smLAcn a0 a1 (m61 a0 a1) := sz_flat a0 a1 hw.1 h0 h1
theorem z27 (a0 : Term) (a1 : Int) (hw : wfTerm a0) (h0 : 0 ≤ a1) (h1 : a1 ≤ 1048576) : SzOk smTerm a0 a1 (m27 a0 a1) := by
 obtain ⟨w0, w1, w2, w3, w4⟩ := hw
 unfold m27
 have b1 := h1
 obtain ⟨v0, e0, l0, u0, s0⟩ := z59 a0.ranges a1 w0 (by omega) (by omega)
 rw [e0, bnd_ok]
 by_cases c0 : v0 < 0
 · rw [(ltI_iff _ _).2 c0]; exact ⟨-1, rfl, by omega, by omega, by omega⟩
 rw [(ltI_not _ _).2 (by omega), br_false]
 obtain ⟨v1, e1, l1, u1, s1⟩ := z60 a0.path v0 w1 (by omega) (by omega)
 rw [e1, bnd_ok]
 by_cases c1 : v1 < 0
 · rw [(ltI_iff _ _).2 c1]; exact ⟨-1, rfl, by omega, by omega, by omega⟩
 rw [(ltI_not _ _).2 (by omega), br_false]
 obtain ⟨v3, e3, l3, u3, s3⟩ := z61 a0.acts v1 w3 (by omega) (by omega)
 rw [e3, bnd_ok]
 by_cases c3 : v3 < 0
 · rw [(ltI_iff _ _).2 c3]; exact ⟨-1, rfl, by omega, by omega, by omega⟩
 rw [(ltI_not _ _).2 (by omega), br_false]
 exact ⟨_, rfl, by omega, by omega, fun _ => ⟨s0 (by omega), s1 (by omega), trivial, s3 (by omega), trivial⟩⟩
theorem z70 (a0 : (List Int)) (a1 : Int) (hw : wfLInt a0) (h0 : 0 ≤ a1) (h1 : a1 ≤ 1048576) : SzOk smLInt a0 a1 (m70 a0 a1) := sz_flat a0 a1 hw.1 h0 h1
theorem z32 (a0 : Attrs) (a1 : Int) (hw : wfAttrs a0) (h0 : 0 ≤ a1) (h1 : a1 ≤ 1048576) : SzOk smAttrs a0 a1 (m32 a0 a1) := by
 obtain ⟨w0, w1, w2, w3, w4, w5⟩ := hw
 unfold m32
 have b1 := h1
 obtain ⟨v1, e1, l1, u1, s1⟩ := z70 a0.path a1 w1 (by omega) (by omega)
 rw [e1, bnd_ok]
 by_cases c1 : v1 < 0
 · rw [(ltI_iff _ _).2 c1]; exact ⟨-1, rfl, by omega, by omega, by omega⟩
 rw [(ltI_not _ _).2 (by omega), br_false]
 obtain ⟨v5, e5, l5, u5, s5⟩ := z70 a0.comms v1 w5 (by omega) (by omega)
 rw [e5, bnd_ok]
 by_cases c5 : v5 < 0
 · rw [(ltI_iff _ _).2 c5]; exact ⟨-1, rfl, by omega, by omega, by omega⟩
 rw [(ltI_not _ _).2 (by omega), br_false]
 exact ⟨_, rfl, by omega, by omega, fun _ => ⟨trivial, s1 (by omega), trivial, trivial, trivial, s5 (by omega)⟩⟩
theorem z8 (a0 : Route) (a1 : Int) (hw : wfRoute a0) (h0 : 0 ≤ a1) (h1 : a1 ≤ 1048576) : SzOk smRoute a0 a1 (m8 a0 a1) := by
 obtain ⟨w0, w1⟩ := hw
 unfold m8
 have b1 := h1
 obtain ⟨v1, e1, l1, u1, s1⟩ := z32 a0.attrs a1 w1 (by omega) (by omega)
 rw [e1, bnd_ok]
 by_cases c1 : v1 < 0
 · rw [(ltI_iff _ _).2 c1]; exact ⟨-1, rfl, by omega, by omega, by omega⟩
 rw [(ltI_not _ _).2 (by omega), br_false]
 exact ⟨_, rfl, by omega, by omega, fun _ => ⟨⟨trivial, trivial⟩, s1 (by omega)⟩⟩
theorem t35 (a0 : Prefix) (h : smPrefix a0) : m35 a0 = some a0 := by
 obtain ⟨h0, h1⟩ := h
 simp only [m35, bnd_ok]
theorem t111 (a0 : Range) (h : smRange a0) : m111 a0 = some a0 := by
 obtain ⟨h0, h1, h2⟩ := h
 simp only [m111, bnd_ok, t35 _ h0]
theorem t63 (a0 : (List Range)) (h : smLRange a0) : m63 a0 = some a0 := to_slice (sm := smRange) (m := m111) t111 _ a0 ⟨h, fun _ _ => ⟨⟨trivial, trivial⟩, trivial, trivial⟩⟩ (fun p => rfl)
theorem t112 (a0 : ReCell) (h : smReCell a0) : m112 a0 = some a0 := by
 obtain ⟨h0, h1⟩ := h
 simp only [m112, bnd_ok]
theorem t64 (a0 : (List ReCell)) (h : smLReCell a0) : m64 a0 = some a0 := to_slice (sm := smReCell) (m := m112) t112 _ a0 ⟨h, fun _ _ => ⟨trivial, trivial⟩⟩ (fun p => rfl)
theorem t19 (a0 : Acn) (h : smAcn a0) : m19 a0 = some a0 := by
 obtain ⟨h0, h1⟩ := h
 simp only [m19, bnd_ok]
theorem t65 (a0 : (List Acn)) (h : smLAcn a0) : m65 a0 = some a0 := to_slice (sm := smAcn) (m := m19) t19 _ a0 ⟨h, fun _ _ => ⟨trivial, trivial⟩⟩ (fun p => rfl)
theorem t29 (a0 : Term) (h : smTerm a0) : m29 a0 = some a0 := by
 obtain ⟨h0, h1, h2, h3, h4⟩ := h
 simp only [m29, bnd_ok, t63 _ h0, t64 _ h1, t65 _ h3]
theorem t74 (a0 : (List Int)) (h : smLInt a0) : m74 a0 = some a0 := to_flat _ a0 h (fun p => rfl)
theorem t36 (a0 : Attrs) (h : smAttrs a0) : m36 a0 = some a0 := by
 obtain ⟨h0, h1, h2, h3, h4, h5⟩ := h
 simp only [m36, bnd_ok, t74 _ h1, t74 _ h5]
theorem t10 (a0 : Route) (h : smRoute a0) : m10 a0 = some a0 := by
 obtain ⟨h0, h1⟩ := h
 simp only [m10, bnd_ok, t35 _ h0, t36 _ h1]
theorem q39 (a0 : Prefix) (h : smPrefix a0) : m39 a0 a0 = some true := by
 obtain ⟨h0, h1⟩ := h
 simp only [m39, bnd_ok, eqI_self, eqB_self, br_true]
theorem q117 (a0 : Range) (h : smRange a0) : m117 a0 a0 = some true := by
 obtain ⟨h0, h1, h2⟩ := h
 simp only [m117, bnd_ok, eqI_self, eqB_self, br_true, q39 _ h0]
theorem q67 (a0 : (List Range)) (h : smLRange a0) : m67 a0 a0 = some true := eq_slice (W := smRange) m117 q117 a0 ⟨by unfold smLRange at h; omega, fun _ _ => ⟨⟨trivial, trivial⟩, trivial, trivial⟩⟩ (fun s => rfl)
theorem q118 (a0 : ReCell) (h : smReCell a0) : m118 a0 a0 = some true := by
 obtain ⟨h0, h1⟩ := h
 simp only [m118, bnd_ok, eqI_self, eqB_self, br_true]
theorem q68 (a0 : (List ReCell)) (h : smLReCell a0) : m68 a0 a0 = some true := eq_slice (W := smReCell) m118 q118 a0 ⟨by unfold smLReCell at h; omega, fun _ _ => ⟨trivial, trivial⟩⟩ (fun s => rfl)
theorem q119 (a0 : Acn) (h : smAcn a0) : m119 a0 a0 = some true := by
 obtain ⟨h0, h1⟩ := h
 simp only [m119, bnd_ok, eqI_self, eqB_self, br_true]
theorem q69 (a0 : (List Acn)) (h : smLAcn a0) : m69 a0 a0 = some true := eq_slice (W := smAcn) m119 q119 a0 ⟨by unfold smLAcn at h; omega, fun _ _ => ⟨trivial, trivial⟩⟩ (fun s => rfl)
theorem q31 (a0 : Term) (h : smTerm a0) : m31 a0 a0 = some true := by
 obtain ⟨h0, h1, h2, h3, h4⟩ := h
 simp only [m31, bnd_ok, eqI_self, eqB_self, br_true, q67 _ h0, q68 _ h1, q69 _ h3]
theorem q81 (a0 : (List Int)) (h : smLInt a0) : m81 a0 a0 = some true := eq_flat eqI eqI_self a0 (by unfold smLInt at h; omega) (fun s => rfl)
theorem q40 (a0 : Attrs) (h : smAttrs a0) : m40 a0 a0 = some true := by
 obtain ⟨h0, h1, h2, h3, h4, h5⟩ := h
 simp only [m40, bnd_ok, eqI_self, eqB_self, br_true, q81 _ h1, q81 _ h5]
theorem q12 (a0 : Route) (h : smRoute a0) : m12 a0 a0 = some true := by
 obtain ⟨h0, h1⟩ := h
 simp only [m12, bnd_ok, eqI_self, eqB_self, br_true, q39 _ h0, q40 _ h1]
end Go.Pi.Ythidbgihjhkjaaa.TermFits
