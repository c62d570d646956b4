/- What functions of the program answer, and that the law answers true at every input; no condition -/
import Derived.Test.YtichbkallidkcaaValleyModValley
import Derived.Test.YtichbkallidkcaaPiD
set_option linter.all false
/- What stands in every law: sizes, copies, comparisons. -/
namespace Go.Pi.Ytichbkallidkcaa.Valley
open Go Go.Pi
set_option linter.all false
def smIntu8 (x : Int) : Prop := True
def smLIntu8 (x : (List Int)) : Prop := x.length ≤ 1048576
def smBool (x : Bool) : Prop := True
def smInt (x : Int) : Prop := True
def smRel (x : Rel) : Prop := smInt x.a ∧ smInt x.b ∧ smInt x.kind
def smLRel (x : (List Rel)) : Prop := x.length ≤ 1048576
def smLInt (x : (List Int)) : Prop := x.length ≤ 1048576
def smIntu64 (x : Int) : Prop := True
def sml1Cur (x : l1Cur) : Prop := smLIntu8 x.code ∧ smInt x.at_ ∧ smIntu64 x.seed
theorem and255 (x : Int) : 0 ≤ intBits .and .u64 x 255 ∧ intBits .and .u64 x 255 ≤ 255 := by
  have h : (BitVec.ofInt 64 x &&& BitVec.ofInt 64 255).toNat ≤ 255 := by
    rw [BitVec.toNat_and]
    exact Nat.le_trans Nat.and_le_right (by decide)
  have w : ∀ n : Nat, n ≤ 255 → IntKind.u64.wrap (n : Int) = n := by
    intro n hn
    simp [IntKind.wrap, IntKind.bits, IntKind.signed]; omega
  show 0 ≤ IntKind.u64.wrap ((BitVec.ofInt 64 x &&& BitVec.ofInt 64 255).toNat : Int) ∧ IntKind.u64.wrap ((BitVec.ofInt 64 x &&& BitVec.ofInt 64 255).toNat : Int) ≤ 255
  rw [w _ h]
  omega
theorem cv255 (x : Int) : 0 ≤ wcv .i64 (intBits .and .u64 x 255) ∧ wcv .i64 (intBits .and .u64 x 255) ≤ 255 := by
  have h := and255 x
  rw [show wcv .i64 (intBits .and .u64 x 255) = _ from w64 (by omega) (by omega)]
  exact h
theorem cNext (code : List Int) (a s : Int) (h0 : 0 ≤ a) (h1 : a ≤ 4611686018427387904) (hb : ∀ y ∈ code, 0 ≤ y ∧ y ≤ 255) :
    Ans (fun r => 0 ≤ r.1 ∧ r.1 ≤ 255 ∧ r.2.1 = a + 1) (m73 ⟨code, a, s⟩) := by
  have ew : wadd .i64 a 1 = a + 1 := wadd64 (by omega) (by omega)
  have h : Ans (fun v => 0 ≤ v ∧ v ≤ 255) (m73_1 (ltI a (code.length : Int)) ⟨code, a, s⟩) := by
    unfold m73_1
    rw [ans_br]
    refine ⟨fun h => ?_, fun _ => (ans_some _ _).2 (by omega)⟩
    have hl := (ltI_iff _ _).1 h
    obtain ⟨k, rfl⟩ := Int.eq_ofNat_of_zero_le h0
    have hk : k < code.length := by omega
    have hm := hb _ (List.getElem_mem hk)
    have e : wcv .i64 code[k] = code[k] := w64 (by omega) (by omega)
    show Ans _ (bnd (idx code (k : Int)) _)
    rw [idx_get hk, bnd_ok, e]
    exact (ans_some _ _).2 hm
  unfold m73
  refine ans_bnd h fun v hv => ?_
  rw [ans_br]
  refine ⟨fun _ => (ans_some _ _).2 ⟨hv.1, hv.2, ew⟩, fun _ => (ans_some _ _).2 ?_⟩
  exact ⟨(cv255 _).1, (cv255 _).2, ew⟩
theorem cPick (code : List Int) (a s n : Int) (h0 : 0 ≤ a) (h1 : a ≤ 4611686018427387903) (hb : ∀ y ∈ code, 0 ≤ y ∧ y ≤ 255) :
    Ans (fun r => 0 ≤ r.1 ∧ (n ≤ 1 → r.1 = 0) ∧ (1 ≤ n → r.1 < n) ∧ a ≤ r.2.1 ∧ r.2.1 ≤ a + 2) (m58 ⟨code, a, s⟩ n) := by
  unfold m58
  rw [ans_br]
  refine ⟨fun h => (ans_some _ _).2 ⟨by omega, fun _ => rfl, fun h => by simp only []; omega, by simp only []; omega, by simp only []; omega⟩, fun h => ?_⟩
  have hn := (leI_not _ _).1 h
  refine ans_bnd (cNext code a s h0 (by omega) hb) fun r hr => ?_
  obtain ⟨x, b, t⟩ := r
  simp only [sel3_ok] at hr ⊢
  have h2 : Ans (fun r => 0 ≤ r.1 ∧ r.1 ≤ 65535 ∧ a ≤ r.2.1 ∧ r.2.1 ≤ a + 2) (m58_1 x (ltI 200 n) ⟨code, a, s⟩ b t) := by
    unfold m58_1
    rw [ans_br]
    refine ⟨fun _ => ?_, fun _ => (ans_some _ _).2 (by simp only []; omega)⟩
    refine ans_bnd (cNext code b t (by omega) (by omega) hb) fun r hr' => ?_
    obtain ⟨y, c, u⟩ := r
    simp only [sel3_ok] at hr' ⊢
    rw [ans_some]
    have e1 : wmul .i64 x 256 = x * 256 := w64 (by omega) (by omega)
    have e2 : wadd .i64 (x * 256) y = x * 256 + y := wadd64 (by omega) (by omega)
    simp only [e1, e2]
    omega
  refine ans_bnd h2 fun r hr2 => ?_
  obtain ⟨y, c, u⟩ := r
  simp only [sel3_ok] at hr2 ⊢
  rw [ck_ok (show ¬ n = 0 by omega), ans_some]
  have e : wrem .i64 y n = y % n := Int.tmod_eq_emod_of_nonneg (by omega)
  have e1 := Int.emod_nonneg y (show n ≠ 0 by omega)
  have e2 := Int.emod_lt_of_pos y (show 0 < n by omega)
  simp only [e]
  omega
theorem cOne (code : List Int) (a s n : Int) (h0 : 0 ≤ a) (h1 : a ≤ 4611686018427387903) (hb : ∀ y ∈ code, 0 ≤ y ∧ y ≤ 255) :
    Ans (fun r => a ≤ r.2.1 ∧ r.2.1 ≤ a + 2) (m59 ⟨code, a, s⟩ n) := by
  unfold m59
  refine ans_bnd (cPick code a s n h0 h1 hb) fun r hr => ?_
  obtain ⟨x, b, t⟩ := r
  simp only [sel3_ok] at hr ⊢
  rw [ans_some]; exact hr.2.2.2
end Go.Pi.Ytichbkallidkcaa.Valley
