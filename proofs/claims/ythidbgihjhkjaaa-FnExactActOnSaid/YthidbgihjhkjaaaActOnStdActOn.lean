/- no condition -/
import Derived.Test.YthidbgihjhkjaaaActOnModActOn
import Derived.Test.YthidbgihjhkjaaaPiD
set_option linter.all false
namespace Go.Pi.Ythidbgihjhkjaaa.ActOn
open Go Go.Pi
set_option linter.all false
def smInt (x : Int) : Prop := True
def smAcn (x : Acn) : Prop := smInt x.kind ∧ smInt x.n
def smPrefix (x : Prefix) : Prop := smInt x.addr ∧ smInt x.len
def smLInt (x : (List Int)) : Prop := x.length ≤ 1048576
def smAttrs (x : Attrs) : Prop := smInt x.origin ∧ smLInt x.path ∧ smInt x.next ∧ smInt x.med ∧ smInt x.pref ∧ smLInt x.comms
def smRoute (x : Route) : Prop := smPrefix x.prefix_ ∧ smAttrs x.attrs
def smBool (x : Bool) : Prop := True
theorem z70 (a0 : (List Int)) (a1 : Int) (hw : wfLInt a0) (h0 : 0 ≤ a1) (h1 : a1 ≤ 1048576) : SzOk smLInt a0 a1 (m70 a0 a1) := sz_flat a0 a1 hw.1 h0 h1
theorem z32 (a0 : Attrs) (a1 : Int) (hw : wfAttrs a0) (h0 : 0 ≤ a1) (h1 : a1 ≤ 1048576) : SzOk smAttrs a0 a1 (m32 a0 a1) := by
 obtain ⟨w0, w1, w2, w3, w4, w5⟩ := hw
 unfold m32
 have b1 := h1
 obtain ⟨v1, e1, l1, u1, s1⟩ := z70 a0.path a1 w1 (by omega) (by omega)
 rw [e1, bnd_ok]
 by_cases c1 : v1 < 0
 · rw [(ltI_iff _ _).2 c1]; exact ⟨-1, rfl, by omega, by omega, by omega⟩
 rw [(ltI_not _ _).2 (by omega), br_false]
 obtain ⟨v5, e5, l5, u5, s5⟩ := z70 a0.comms v1 w5 (by omega) (by omega)
 rw [e5, bnd_ok]
 by_cases c5 : v5 < 0
 · rw [(ltI_iff _ _).2 c5]; exact ⟨-1, rfl, by omega, by omega, by omega⟩
 rw [(ltI_not _ _).2 (by omega), br_false]
 exact ⟨_, rfl, by omega, by omega, fun _ => ⟨trivial, s1 (by omega), trivial, trivial, trivial, s5 (by omega)⟩⟩
theorem z8 (a0 : Route) (a1 : Int) (hw : wfRoute a0) (h0 : 0 ≤ a1) (h1 : a1 ≤ 1048576) : SzOk smRoute a0 a1 (m8 a0 a1) := by
 obtain ⟨w0, w1⟩ := hw
 unfold m8
 have b1 := h1
 obtain ⟨v1, e1, l1, u1, s1⟩ := z32 a0.attrs a1 w1 (by omega) (by omega)
 rw [e1, bnd_ok]
 by_cases c1 : v1 < 0
 · rw [(ltI_iff _ _).2 c1]; exact ⟨-1, rfl, by omega, by omega, by omega⟩
 rw [(ltI_not _ _).2 (by omega), br_false]
 exact ⟨_, rfl, by omega, by omega, fun _ => ⟨⟨trivial, trivial⟩, s1 (by omega)⟩⟩
theorem t19 (a0 : Acn) (h : smAcn a0) : m19 a0 = some a0 := by
 obtain ⟨h0, h1⟩ := h
 simp only [m19, bnd_ok]
theorem t35 (a0 : Prefix) (h : smPrefix a0) : m35 a0 = some a0 := by
 obtain ⟨h0, h1⟩ := h
 simp only [m35, bnd_ok]
theorem t74 (a0 : (List Int)) (h : smLInt a0) : m74 a0 = some a0 := to_flat _ a0 h (fun p => rfl)
theorem t36 (a0 : Attrs) (h : smAttrs a0) : m36 a0 = some a0 := by
 obtain ⟨h0, h1, h2, h3, h4, h5⟩ := h
 simp only [m36, bnd_ok, t74 _ h1, t74 _ h5]
theorem t10 (a0 : Route) (h : smRoute a0) : m10 a0 = some a0 := by
 obtain ⟨h0, h1⟩ := h
 simp only [m10, bnd_ok, t35 _ h0, t36 _ h1]
theorem q39 (a0 : Prefix) (h : smPrefix a0) : m39 a0 a0 = some true := by
 obtain ⟨h0, h1⟩ := h
 simp only [m39, bnd_ok, eqI_self, eqB_self, br_true]
theorem q81 (a0 : (List Int)) (h : smLInt a0) : m81 a0 a0 = some true := eq_flat eqI eqI_self a0 (by unfold smLInt at h; omega) (fun s => rfl)
theorem q40 (a0 : Attrs) (h : smAttrs a0) : m40 a0 a0 = some true := by
 obtain ⟨h0, h1, h2, h3, h4, h5⟩ := h
 simp only [m40, bnd_ok, eqI_self, eqB_self, br_true, q81 _ h1, q81 _ h5]
theorem q12 (a0 : Route) (h : smRoute a0) : m12 a0 a0 = some true := by
 obtain ⟨h0, h1⟩ := h
 simp only [m12, bnd_ok, eqI_self, eqB_self, br_true, q39 _ h0, q40 _ h1]
theorem k97 (a0 : List Int) (a1 : Int) (h : smLInt a0) (h0 : 0 ≤ a1) (h1 : a1 ≤ 4611686018427387904) : m97 a0 a1 = some (a1 + a0.length, ramp a1 a0.length) := by
 unfold m97
 rw [mark_flat (body := m97_1b) (fun p => rfl) a0 a1 h h0 h1]; rfl
theorem d98 (n : Nat) (a1 : Int) (h : n ≤ 1048576) (h0 : 0 ≤ a1) (h1 : a1 ≤ 4611686018427387904) : m98 (ramp a1 n) a1 = some (a1 + n) := by
 unfold m98
 rw [held_flat (body := m98_1b (ramp a1 n)) n a1 (fun p => rfl) h h0 h1]; rfl
end Go.Pi.Ythidbgihjhkjaaa.ActOn
