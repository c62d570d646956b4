/- no condition -/
import Derived.Test.YthidbgihjhkjaaaTermFitsFuaTermFits
set_option linter.all false
namespace Go.Pi.Ythidbgihjhkjaaa.TermFits
open Go Go.Proofs Go.Pi
set_option maxRecDepth 100000
set_option linter.all false
theorem call75 (args : List AV) (S : St) : evCall T (evFL T) 75 args S = lendC (evFL T 75) S (lendAll S [[0], [0], [0]] args) := evCall0 fn75 rfl rfl rfl args S
theorem callz75 (args : List AV) (S : St) : evCallFz T (evFL T) 75 args S = lendZ (evFL T 75) S [[0]] (lendAll S [[0], [0], [0]] args) := evCallFz0 fn75 rfl rfl rfl args S
attribute [go_sem] call75 callz75
noncomputable def X75_1 (a0 : Int) (a1 : Int) (a2 : Int) (o : Bool) : Ex × Fr × St :=
 (.normal, frOf 15 (upd anyF 6 (.bool o)), [])
theorem e75_1 (a0 : Int) (a1 : Int) (a2 : Int) (o : Bool) (h : m75_1 a0 a1 a2 = some o) : evCL T 0 k75_1 (frOf 15 (upd (upd (upd anyF 0 (.int .i64 a0)) 1 (.int .i64 a1)) 2 (.int .i64 a2))) [] = some (X75_1 a0 a1 a2 o) := by
 unfold m75_1 at h
 try simp -implicitDefEqProofs only [go_sem, X75_1, k75_1]
 cases b1 : (leI a1 a0 : Bool)
 · replace h := br_f b1 h
   cases h
   simp -implicitDefEqProofs only [go_sem, X75_1, k75_1, b1]
 · replace h := br_t b1 h
   cases h
   simp -implicitDefEqProofs only [go_sem, X75_1, k75_1, b1]
theorem e75 (a0 : Int) (a1 : Int) (a2 : Int) (r : Bool) (h : m75 a0 a1 a2 = some r) : evFL T 75 [.int .i64 a0, .int .i64 a1, .int .i64 a2] [] = some (.bool r, []) := by
 unfold m75 at h
 rw [evFL_at fn75 (Nat.le_of_ble_eq_true rfl) rfl (.inr rfl) ⟨rfl, rfl⟩]
 obtain ⟨v4, q2, h⟩ := bnd_some h
 have w3 := e75_1 a0 a1 a2 v4 q2
 simp only [X75_1] at w3
 try simp -implicitDefEqProofs only [go_sem] at w3
 cases h
 simp -implicitDefEqProofs only [go_sem, i75, c75, w3]
theorem call144 (args : List AV) (S : St) : evCall T (evFL T) 144 args S = lendC (evFL T 144) S (lendAll S [[0]] args) := evCall0 fn144 rfl rfl rfl args S
theorem callz144 (args : List AV) (S : St) : evCallFz T (evFL T) 144 args S = lendZ (evFL T 144) S [[0]] (lendAll S [[0]] args) := evCallFz0 fn144 rfl rfl rfl args S
attribute [go_sem] call144 callz144
noncomputable def X144_3 (a0 : Int) (p5 : Bool) (o : Bool) : Ex × Fr × St :=
 (.normal, frOf 14 (upd (upd anyF 3 (.int .i64 a0)) 4 (.bool o)), [])
theorem e144_3 (a0 : Int) (p5 : Bool) (o : Bool) (h : m144_3 a0 p5 = some o) : evCL T 0 k144_3 (frOf 14 (upd (upd anyF 3 (.int .i64 a0)) 4 (.bool p5))) [] = some (X144_3 a0 p5 o) := by
 unfold m144_3 at h
 try simp -implicitDefEqProofs only [go_sem, X144_3, k144_3]
 cases b6 : (p5 : Bool)
 · replace h := br_f b6 h
   cases h
   simp -implicitDefEqProofs only [go_sem, X144_3, k144_3, b6]
 · replace h := br_t b6 h
   cases h
   simp -implicitDefEqProofs only [go_sem, X144_3, k144_3, b6]
noncomputable def X144_2 (a0 : Int) (p3 : Bool) (o : Bool) : Ex × Fr × St :=
 (.normal, frOf 14 (upd (upd anyF 3 (.int .i64 a0)) 4 (.bool o)), [])
theorem e144_2 (a0 : Int) (p3 : Bool) (o : Bool) (h : m144_2 a0 p3 = some o) : evCL T 0 k144_2 (frOf 14 (upd (upd anyF 3 (.int .i64 a0)) 4 (.bool p3))) [] = some (X144_2 a0 p3 o) := by
 unfold m144_2 at h
 try simp -implicitDefEqProofs only [go_sem, X144_2, k144_2]
 cases b4 : (p3 : Bool)
 · replace h := br_f b4 h
   obtain ⟨v9, q7, h⟩ := bnd_some h
   have w8 := e144_3 a0 (eqI a0 3) v9 q7
   simp only [X144_3] at w8
   try simp -implicitDefEqProofs only [go_sem] at w8
   cases h
   simp -implicitDefEqProofs only [go_sem, X144_2, k144_2, b4, w8]
 · replace h := br_t b4 h
   cases h
   simp -implicitDefEqProofs only [go_sem, X144_2, k144_2, b4]
noncomputable def X144_1 (a0 : Int) (p1 : Bool) (o : Bool) : Ex × Fr × St :=
 (.normal, frOf 14 (upd (upd anyF 3 (.int .i64 a0)) 4 (.bool o)), [])
theorem e144_1 (a0 : Int) (p1 : Bool) (o : Bool) (h : m144_1 a0 p1 = some o) : evCL T 0 k144_1 (frOf 14 (upd (upd anyF 3 (.int .i64 a0)) 4 (.bool p1))) [] = some (X144_1 a0 p1 o) := by
 unfold m144_1 at h
 try simp -implicitDefEqProofs only [go_sem, X144_1, k144_1]
 cases b2 : (p1 : Bool)
 · replace h := br_f b2 h
   obtain ⟨v12, q10, h⟩ := bnd_some h
   have w11 := e144_2 a0 (eqI a0 2) v12 q10
   simp only [X144_2] at w11
   try simp -implicitDefEqProofs only [go_sem] at w11
   cases h
   simp -implicitDefEqProofs only [go_sem, X144_1, k144_1, b2, w11]
 · replace h := br_t b2 h
   cases h
   simp -implicitDefEqProofs only [go_sem, X144_1, k144_1, b2]
noncomputable def X144_4 (a0 : Int) (p18 : Bool) (o : Bool) : Ex × Fr × St :=
 (.normal, frOf 14 (upd anyF 11 (.bool o)), [])
theorem e144_4 (a0 : Int) (p18 : Bool) (o : Bool) (h : m144_4 a0 p18 = some o) : evCL T 0 k144_4 (frOf 14 (upd (upd anyF 3 (.int .i64 a0)) 11 (.bool p18))) [] = some (X144_4 a0 p18 o) := by
 unfold m144_4 at h
 try simp -implicitDefEqProofs only [go_sem, X144_4, k144_4]
 cases b19 : (p18 : Bool)
 · replace h := br_f b19 h
   cases h
   simp -implicitDefEqProofs only [go_sem, X144_4, k144_4, b19]
 · replace h := br_t b19 h
   cases h
   simp -implicitDefEqProofs only [go_sem, X144_4, k144_4, b19]
theorem e144 (a0 : Int) (r : Int) (h : m144 a0 = some r) : evFL T 144 [.int .i64 a0] [] = some (.int .i64 r, []) := by
 unfold m144 at h
 rw [evFL_at fn144 (Nat.le_of_ble_eq_true rfl) rfl (.inr rfl) ⟨rfl, rfl⟩]
 obtain ⟨v15, q13, h⟩ := bnd_some h
 have w14 := e144_1 a0 (eqI a0 1) v15 q13
 simp only [X144_1] at w14
 try simp -implicitDefEqProofs only [go_sem] at w14
 try simp -implicitDefEqProofs only [go_sem, i144, c144, w14]
 cases b16 : (v15 : Bool)
 · replace h := br_f b16 h
   try simp -implicitDefEqProofs only [go_sem, i144, c144, w14, b16]
   cases b17 : (eqI a0 7 : Bool)
   · replace h := br_f b17 h
     obtain ⟨v22, q20, h⟩ := bnd_some h
     have w21 := e144_4 a0 (eqI a0 5) v22 q20
     simp only [X144_4] at w21
     try simp -implicitDefEqProofs only [go_sem] at w21
     try simp -implicitDefEqProofs only [go_sem, i144, c144, w14, b16, b17, w21]
     cases b23 : (v22 : Bool)
     · replace h := br_f b23 h
       cases h
       simp -implicitDefEqProofs only [go_sem, i144, c144, w14, b16, b17, w21, b23]
     · replace h := br_t b23 h
       cases h
       simp -implicitDefEqProofs only [go_sem, i144, c144, w14, b16, b17, w21, b23]
   · replace h := br_t b17 h
     cases h
     simp -implicitDefEqProofs only [go_sem, i144, c144, w14, b16, b17]
 · replace h := br_t b16 h
   cases h
   simp -implicitDefEqProofs only [go_sem, i144, c144, w14, b16]
theorem call123 (args : List AV) (S : St) : evCall T (evFL T) 123 args S = lendC (evFL T 123) S (lendAll S [[2], [0]] args) := evCall0 fn123 rfl rfl rfl args S
theorem callz123 (args : List AV) (S : St) : evCallFz T (evFL T) 123 args S = lendZ (evFL T 123) S [[0]] (lendAll S [[2], [0]] args) := evCallFz0 fn123 rfl rfl rfl args S
attribute [go_sem] call123 callz123
noncomputable def X123_1 (a0 : (List ReCell)) (a1 : Int) (o : (Unit ⊕ Int)) : Ex × Fr × St :=
 match o with
 | .inl o => (.exit 0, frOf 33 (anyF), [])
 | .inr o => (.ret, frOf 33 (upd anyF 4 (.int .i64 o)), [])
noncomputable def E123_1 (a0 : (List ReCell)) (a1 : Int) (s : (Int × Int)) : Fr × St := (frOf 33 (upd (upd (upd (upd anyF 0 (.ts .imm 2 (a0.map encReCell))) 1 (.int .i64 a1)) 5 (.int .i64 s.1)) 6 (.int .i64 s.2)), [])
theorem b123_1 (a0 : (List ReCell)) (a1 : Int) (s : (Int × Int)) (o : Ctl (Int × Int) (Unit ⊕ Int)) (h : m123_1b a0 a1 s = some o) : evCL T 0 k123_1b (E123_1 a0 a1 s).1 (E123_1 a0 a1 s).2 = some (ctlX (E123_1 a0 a1) (X123_1 a0 a1) o) := by
 unfold m123_1b at h
 obtain ⟨s12, s13⟩ := s
 replace h := sel2_some h
 try simp -implicitDefEqProofs only [go_sem, E123_1, X123_1, k123_1b]
 cases b14 : (ltI s13 (↑a0.length : Int) : Bool)
 · replace h := br_f b14 h
   cases h
   simp -implicitDefEqProofs only [go_sem, E123_1, X123_1, k123_1b, b14]
 · replace h := br_t b14 h
   obtain ⟨x15, q16, h⟩ := bnd_some h
   obtain ⟨g17, g18, g19⟩ := idx_row encReCell q16
   try simp -implicitDefEqProofs only [go_sem] at g18
   try simp -implicitDefEqProofs only [go_sem] at g19
   obtain ⟨r22, q20, h⟩ := bnd_some h
   have w21 := e144 x15.kind r22 q20
   try simp -implicitDefEqProofs only [go_sem] at w21
   try simp -implicitDefEqProofs only [go_sem, E123_1, X123_1, k123_1b, b14, g17, g18, g19, w21]
   cases b23 : (ltI r22 0 : Bool)
   · replace h := br_f b23 h
     try simp -implicitDefEqProofs only [go_sem, E123_1, X123_1, k123_1b, b14, g17, g18, g19, w21, b23]
     cases b24 : (eqI (wadd .i64 s12 (wsub .i64 r22 1)) 0 : Bool)
     · replace h := br_f b24 h
       cases h
       simp -implicitDefEqProofs only [go_sem, E123_1, X123_1, k123_1b, b14, g17, g18, g19, w21, b23, b24]
     · replace h := br_t b24 h
       cases h
       simp -implicitDefEqProofs only [go_sem, E123_1, X123_1, k123_1b, b14, g17, g18, g19, w21, b23, b24]
   · replace h := br_t b23 h
     cases h
     simp -implicitDefEqProofs only [go_sem, E123_1, X123_1, k123_1b, b14, g17, g18, g19, w21, b23]
theorem e123_1 (a0 : (List ReCell)) (a1 : Int) (s : (Int × Int)) (o : (Unit ⊕ Int)) (h : loopP (m123_1b a0 a1) s = some o) : evCL T 0 (.loop k123_1b) (E123_1 a0 a1 s).1 (E123_1 a0 a1 s).2 = some (X123_1 a0 a1 o) :=
 loop_walk (E := E123_1 a0 a1) (X := X123_1 a0 a1) (by intro b; rcases b with b | b <;> (simp only [X123_1]; nofun)) (b123_1 a0 a1) s o h
theorem e123 (a0 : (List ReCell)) (a1 : Int) (r : Int) (h : m123 a0 a1 = some r) : evFL T 123 [.ts .imm 2 (a0.map encReCell), .int .i64 a1] [] = some (.int .i64 r, []) := by
 unfold m123 at h
 rw [evFL_at fn123 (Nat.le_of_ble_eq_true rfl) rfl (.inr rfl) ⟨rfl, rfl⟩]
 try simp -implicitDefEqProofs only [go_sem, i123, c123]
 obtain ⟨o, q25, h⟩ := bnd_some h
 rcases o with ⟨⟩ | v27
 · replace h := selS_l h
   have w26 := e123_1 a0 a1 (1, a1) (.inl ()) q25
   simp only [E123_1, X123_1] at w26
   try simp -implicitDefEqProofs only [go_sem] at w26
   cases h
   simp -implicitDefEqProofs only [go_sem, i123, c123, w26]
 · replace h := selS_r h
   have w26 := e123_1 a0 a1 (1, a1) (.inr v27) q25
   simp only [E123_1, X123_1] at w26
   try simp -implicitDefEqProofs only [go_sem] at w26
   cases h
   simp -implicitDefEqProofs only [go_sem, i123, c123, w26]
theorem call145 (args : List AV) (S : St) : evCall T (evFL T) 145 args S = lendC (evFL T 145) S (lendAll S [[2], [0]] args) := evCall0 fn145 rfl rfl rfl args S
theorem callz145 (args : List AV) (S : St) : evCallFz T (evFL T) 145 args S = lendZ (evFL T 145) S [[0]] (lendAll S [[2], [0]] args) := evCallFz0 fn145 rfl rfl rfl args S
attribute [go_sem] call145 callz145
noncomputable def X145_1 (a1_f : Nat) (a1_c : List AV) (a0 : (List ReCell)) (p1 : Int) (a1 : (ReCell → Option Bool)) (o : (Unit ⊕ Int)) : Ex × Fr × St :=
 match o with
 | .inl o => (.exit 0, frOf 19 (anyF), [])
 | .inr o => (.ret, frOf 19 (upd anyF 4 (.int .i64 o)), [])
noncomputable def E145_1 (a1_f : Nat) (a1_c : List AV) (a0 : (List ReCell)) (p1 : Int) (a1 : (ReCell → Option Bool)) (s : Int) : Fr × St := (frOf 19 (upd (upd (upd (upd anyF 0 (.ts .imm 2 (a0.map encReCell))) 1 (.fn a1_f a1_c)) 7 (.int .i64 p1)) 8 (.int .i64 s)), [])
theorem b145_1 (a0 : (List ReCell)) (p1 : Int) (a1 : (ReCell → Option Bool)) (a1_f : Nat) (a1_c : List AV) (a1_h : ((∀ S, mapO (lendPtr S) a1_c = some a1_c) ∧ (∀ n0 src R tm t c, tdL n0 src R tm t c a1_c = some a1_c)) ∧ ∀ y0 r, a1 y0 = some r → (∀ S, evCall T (evFL T) a1_f ([.agg [.int .i64 y0.kind, .int .i64 y0.n]] ++ a1_c) S = some (.bool r, S)) ∧ (∀ S, evCallFz T (evFL T) a1_f ([.agg [.int .i64 y0.kind, .int .i64 y0.n]] ++ a1_c) S = some (.bool r, S))) (s : Int) (o : Ctl Int (Unit ⊕ Int)) (h : m145_1b a0 p1 a1 s = some o) : evCL T 0 k145_1b (E145_1 a1_f a1_c a0 p1 a1 s).1 (E145_1 a1_f a1_c a0 p1 a1 s).2 = some (ctlX (E145_1 a1_f a1_c a0 p1 a1) (X145_1 a1_f a1_c a0 p1 a1) o) := by
 unfold m145_1b at h
 revert h
 generalize s = s12
 intro h
 try simp -implicitDefEqProofs only [go_sem, E145_1, X145_1, k145_1b, a1_h.1]
 cases b13 : (ltI s12 p1 : Bool)
 · replace h := br_f b13 h
   cases h
   simp -implicitDefEqProofs only [go_sem, E145_1, X145_1, k145_1b, a1_h.1, b13]
 · replace h := br_t b13 h
   obtain ⟨x14, q15, h⟩ := bnd_some h
   obtain ⟨g16, g17, g18⟩ := idx_row encReCell q15
   try simp -implicitDefEqProofs only [go_sem] at g17
   try simp -implicitDefEqProofs only [go_sem] at g18
   obtain ⟨r19, q20, h⟩ := bnd_some h
   have w21 := a1_h.2 x14 r19 q20
   try simp -implicitDefEqProofs only [go_sem] at w21
   try simp -implicitDefEqProofs only [go_sem, E145_1, X145_1, k145_1b, a1_h.1, b13, g16, g17, g18, w21.1, w21.2]
   cases b22 : (r19 : Bool)
   · replace h := br_f b22 h
     cases h
     simp -implicitDefEqProofs only [go_sem, E145_1, X145_1, k145_1b, a1_h.1, b13, g16, g17, g18, w21.1, w21.2, b22]
   · replace h := br_t b22 h
     cases h
     simp -implicitDefEqProofs only [go_sem, E145_1, X145_1, k145_1b, a1_h.1, b13, g16, g17, g18, w21.1, w21.2, b22]
theorem e145_1 (a0 : (List ReCell)) (p1 : Int) (a1 : (ReCell → Option Bool)) (a1_f : Nat) (a1_c : List AV) (a1_h : ((∀ S, mapO (lendPtr S) a1_c = some a1_c) ∧ (∀ n0 src R tm t c, tdL n0 src R tm t c a1_c = some a1_c)) ∧ ∀ y0 r, a1 y0 = some r → (∀ S, evCall T (evFL T) a1_f ([.agg [.int .i64 y0.kind, .int .i64 y0.n]] ++ a1_c) S = some (.bool r, S)) ∧ (∀ S, evCallFz T (evFL T) a1_f ([.agg [.int .i64 y0.kind, .int .i64 y0.n]] ++ a1_c) S = some (.bool r, S))) (s : Int) (o : (Unit ⊕ Int)) (h : loopP (m145_1b a0 p1 a1) s = some o) : evCL T 0 (.loop k145_1b) (E145_1 a1_f a1_c a0 p1 a1 s).1 (E145_1 a1_f a1_c a0 p1 a1 s).2 = some (X145_1 a1_f a1_c a0 p1 a1 o) :=
 loop_walk (E := E145_1 a1_f a1_c a0 p1 a1) (X := X145_1 a1_f a1_c a0 p1 a1) (by intro b; rcases b with b | b <;> (simp only [X145_1]; nofun)) (b145_1 a0 p1 a1 a1_f a1_c a1_h) s o h
theorem e145 (a0 : (List ReCell)) (a1 : (ReCell → Option Bool)) (a1_f : Nat) (a1_c : List AV) (a1_h : ((∀ S, mapO (lendPtr S) a1_c = some a1_c) ∧ (∀ n0 src R tm t c, tdL n0 src R tm t c a1_c = some a1_c)) ∧ ∀ y0 r, a1 y0 = some r → (∀ S, evCall T (evFL T) a1_f ([.agg [.int .i64 y0.kind, .int .i64 y0.n]] ++ a1_c) S = some (.bool r, S)) ∧ (∀ S, evCallFz T (evFL T) a1_f ([.agg [.int .i64 y0.kind, .int .i64 y0.n]] ++ a1_c) S = some (.bool r, S))) (r : Int) (h : m145 a0 a1 = some r) : evFL T 145 [.ts .imm 2 (a0.map encReCell), .fn a1_f a1_c] [] = some (.int .i64 r, []) := by
 unfold m145 at h
 rw [evFL_at fn145 (Nat.le_of_ble_eq_true rfl) rfl (.inr rfl) ⟨rfl, rfl⟩]
 try simp -implicitDefEqProofs only [go_sem, i145, c145, a1_h.1]
 obtain ⟨o, q23, h⟩ := bnd_some h
 rcases o with ⟨⟩ | v25
 · replace h := selS_l h
   have w24 := e145_1 a0 (↑a0.length : Int) a1 a1_f a1_c a1_h 0 (.inl ()) q23
   simp only [E145_1, X145_1] at w24
   try simp -implicitDefEqProofs only [go_sem] at w24
   cases h
   simp -implicitDefEqProofs only [go_sem, i145, c145, a1_h.1, w24]
 · replace h := selS_r h
   have w24 := e145_1 a0 (↑a0.length : Int) a1 a1_f a1_c a1_h 0 (.inr v25) q23
   simp only [E145_1, X145_1] at w24
   try simp -implicitDefEqProofs only [go_sem] at w24
   cases h
   simp -implicitDefEqProofs only [go_sem, i145, c145, a1_h.1, w24]
theorem call124 (args : List AV) (S : St) : evCall T (evFL T) 124 args S = lendC (evFL T 124) S (lendAll S [[2], [0]] args) := evCall0 fn124 rfl rfl rfl args S
theorem callz124 (args : List AV) (S : St) : evCallFz T (evFL T) 124 args S = lendZ (evFL T 124) S [[0]] (lendAll S [[2], [0]] args) := evCallFz0 fn124 rfl rfl rfl args S
attribute [go_sem] call124 callz124
theorem e124 (a0 : (List ReCell)) (a1 : (ReCell → Option Bool)) (a1_f : Nat) (a1_c : List AV) (a1_h : ((∀ S, mapO (lendPtr S) a1_c = some a1_c) ∧ (∀ n0 src R tm t c, tdL n0 src R tm t c a1_c = some a1_c)) ∧ ∀ y0 r, a1 y0 = some r → (∀ S, evCall T (evFL T) a1_f ([.agg [.int .i64 y0.kind, .int .i64 y0.n]] ++ a1_c) S = some (.bool r, S)) ∧ (∀ S, evCallFz T (evFL T) a1_f ([.agg [.int .i64 y0.kind, .int .i64 y0.n]] ++ a1_c) S = some (.bool r, S))) (r : Bool) (h : m124 a0 a1 = some r) : evFL T 124 [.ts .imm 2 (a0.map encReCell), .fn a1_f a1_c] [] = some (.bool r, []) := by
 unfold m124 at h
 rw [evFL_at fn124 (Nat.le_of_ble_eq_true rfl) rfl (.inr rfl) ⟨rfl, rfl⟩]
 obtain ⟨r3, q1, h⟩ := bnd_some h
 have w2 := e145 a0 a1 a1_f a1_c a1_h r3 q1
 try simp -implicitDefEqProofs only [go_sem] at w2
 cases h
 simp -implicitDefEqProofs only [go_sem, i124, c124, a1_h.1, w2]
theorem call91 (args : List AV) (S : St) : evCall T (evFL T) 91 args S = lendC (evFL T 91) S (lendAll S [[0]] args) := evCall0 fn91 rfl rfl rfl args S
theorem callz91 (args : List AV) (S : St) : evCallFz T (evFL T) 91 args S = lendZ (evFL T 91) S [[0]] (lendAll S [[0]] args) := evCallFz0 fn91 rfl rfl rfl args S
attribute [go_sem] call91 callz91
theorem e91 (a0 : Int) (r : Bool) (h : m91 a0 = some r) : evFL T 91 [.int .i64 a0] [] = some (.bool r, []) := by
 unfold m91 at h
 rw [evFL_at fn91 (Nat.le_of_ble_eq_true rfl) rfl (.inr rfl) ⟨rfl, rfl⟩]
 obtain ⟨r3, q1, h⟩ := bnd_some h
 have w2 := e75 a0 1 65535 r3 q1
 try simp -implicitDefEqProofs only [go_sem] at w2
 cases h
 simp -implicitDefEqProofs only [go_sem, i91, c91, w2]
theorem call125 (args : List AV) (S : St) : evCall T (evFL T) 125 args S = lendC (evFL T 125) S (lendAll S [[0, 0]] args) := evCall0 fn125 rfl rfl rfl args S
theorem callz125 (args : List AV) (S : St) : evCallFz T (evFL T) 125 args S = lendZ (evFL T 125) S [[0]] (lendAll S [[0, 0]] args) := evCallFz0 fn125 rfl rfl rfl args S
attribute [go_sem] call125 callz125
noncomputable def X125_1 (a0 : ReCell) (o : Bool) : Ex × Fr × St :=
 (.normal, frOf 22 (upd anyF 2 (.bool o)), [])
theorem e125_1 (a0 : ReCell) (o : Bool) (h : m125_1 a0 = some o) : evCL T 0 k125_1 (frOf 22 (upd anyF 1 (.ptr 0 0 0))) [some ⟨.box, 2, [[.int .i64 a0.kind, .int .i64 a0.n]]⟩] = some (X125_1 a0 o) := by
 unfold m125_1 at h
 try simp -implicitDefEqProofs only [go_sem, X125_1, k125_1]
 cases b1 : (eqI a0.kind 3 : Bool)
 · replace h := br_f b1 h
   cases h
   simp -implicitDefEqProofs only [go_sem, X125_1, k125_1, b1]
 · replace h := br_t b1 h
   obtain ⟨r4, q2, h⟩ := bnd_some h
   have w3 := e91 a0.n r4 q2
   try simp -implicitDefEqProofs only [go_sem] at w3
   try simp -implicitDefEqProofs only [go_sem, X125_1, k125_1, b1, w3]
   cases b5 : (r4 : Bool)
   · replace h := br_f b5 h
     cases h
     simp -implicitDefEqProofs only [go_sem, X125_1, k125_1, b1, w3, b5]
   · replace h := br_t b5 h
     cases h
     simp -implicitDefEqProofs only [go_sem, X125_1, k125_1, b1, w3, b5]
theorem e125 (a0 : ReCell) (r : Bool) (h : m125 a0 = some r) : evFL T 125 [.agg [.int .i64 a0.kind, .int .i64 a0.n]] [] = some (.bool r, []) := by
 unfold m125 at h
 rw [evFL_at fn125 (Nat.le_of_ble_eq_true rfl) rfl (.inr rfl) ⟨rfl, rfl⟩]
 obtain ⟨v8, q6, h⟩ := bnd_some h
 have w7 := e125_1 a0 v8 q6
 simp only [X125_1] at w7
 try simp -implicitDefEqProofs only [go_sem] at w7
 cases h
 simp -implicitDefEqProofs only [go_sem, i125, c125, w7]
theorem call84 (args : List AV) (S : St) : evCall T (evFL T) 84 args S = lendC (evFL T 84) S (lendAll S [[2]] args) := evCall0 fn84 rfl rfl rfl args S
theorem callz84 (args : List AV) (S : St) : evCallFz T (evFL T) 84 args S = lendZ (evFL T 84) S [[0]] (lendAll S [[2]] args) := evCallFz0 fn84 rfl rfl rfl args S
attribute [go_sem] call84 callz84
noncomputable def X84_1 (a0 : (List ReCell)) (o : Bool) : Ex × Fr × St :=
 (.normal, frOf 17 (upd (upd anyF 0 (.ts .imm 2 (a0.map encReCell))) 13 (.bool o)), [])
theorem e84_1 (a0 : (List ReCell)) (o : Bool) (h : m84_1 a0 = some o) : evCL T 0 k84_1 (frOf 17 (upd anyF 0 (.ts .imm 2 (a0.map encReCell)))) [] = some (X84_1 a0 o) := by
 unfold m84_1 at h
 obtain ⟨r3, q1, h⟩ := bnd_some h
 have w2 := e75 (↑a0.length : Int) 1 30 r3 q1
 try simp -implicitDefEqProofs only [go_sem] at w2
 try simp -implicitDefEqProofs only [go_sem, X84_1, k84_1, w2]
 cases b4 : (r3 : Bool)
 · replace h := br_f b4 h
   cases h
   simp -implicitDefEqProofs only [go_sem, X84_1, k84_1, w2, b4]
 · replace h := br_t b4 h
   obtain ⟨r7, q5, h⟩ := bnd_some h
   have w6 := e123 a0 0 r7 q5
   try simp -implicitDefEqProofs only [go_sem] at w6
   cases h
   simp -implicitDefEqProofs only [go_sem, X84_1, k84_1, w2, b4, w6]
theorem e84 (a0 : (List ReCell)) (r : Bool) (h : m84 a0 = some r) : evFL T 84 [.ts .imm 2 (a0.map encReCell)] [] = some (.bool r, []) := by
 unfold m84 at h
 rw [evFL_at fn84 (Nat.le_of_ble_eq_true rfl) rfl (.inr rfl) ⟨rfl, rfl⟩]
 obtain ⟨v10, q8, h⟩ := bnd_some h
 have w9 := e84_1 a0 v10 q8
 simp only [X84_1] at w9
 try simp -implicitDefEqProofs only [go_sem] at w9
 try simp -implicitDefEqProofs only [go_sem, i84, c84, w9]
 cases b11 : (v10 : Bool)
 · replace h := br_f b11 h
   obtain ⟨r14, q12, h⟩ := bnd_some h
   have w13 := e124 a0 (fun y0 => m125 y0) 125 [] ⟨⟨fun S => by simp -implicitDefEqProofs only [go_sem], fun _ _ _ _ _ _ => by simp -implicitDefEqProofs only [go_sem]⟩, fun y0 r h => ⟨fun S => by simp -implicitDefEqProofs only [go_sem, e125 y0 r h], fun S => by simp -implicitDefEqProofs only [go_sem, e125 y0 r h]⟩⟩ r14 q12
   try simp -implicitDefEqProofs only [go_sem] at w13
   cases h
   simp -implicitDefEqProofs only [go_sem, i84, c84, w9, b11, w13]
 · replace h := br_t b11 h
   cases h
   simp -implicitDefEqProofs only [go_sem, i84, c84, w9, b11]
theorem call79 (args : List AV) (S : St) : evCall T (evFL T) 79 args S = lendC (evFL T 79) S (lendAll S [[0]] args) := evCall0 fn79 rfl rfl rfl args S
theorem callz79 (args : List AV) (S : St) : evCallFz T (evFL T) 79 args S = lendZ (evFL T 79) S [[0]] (lendAll S [[0]] args) := evCallFz0 fn79 rfl rfl rfl args S
attribute [go_sem] call79 callz79
theorem e79 (a0 : Int) (r : Bool) (h : m79 a0 = some r) : evFL T 79 [.int .i64 a0] [] = some (.bool r, []) := by
 unfold m79 at h
 rw [evFL_at fn79 (Nat.le_of_ble_eq_true rfl) rfl (.inr rfl) ⟨rfl, rfl⟩]
 obtain ⟨r3, q1, h⟩ := bnd_some h
 have w2 := e75 a0 0 1000000 r3 q1
 try simp -implicitDefEqProofs only [go_sem] at w2
 cases h
 simp -implicitDefEqProofs only [go_sem, i79, c79, w2]
theorem call126 (args : List AV) (S : St) : evCall T (evFL T) 126 args S = lendC (evFL T 126) S (lendAll S [[4], [0]] args) := evCall0 fn126 rfl rfl rfl args S
theorem callz126 (args : List AV) (S : St) : evCallFz T (evFL T) 126 args S = lendZ (evFL T 126) S [[0]] (lendAll S [[4], [0]] args) := evCallFz0 fn126 rfl rfl rfl args S
attribute [go_sem] call126 callz126
noncomputable def X126_1 (a1_f : Nat) (a1_c : List AV) (a0 : (List Range)) (p1 : Int) (a1 : (Range → Option Bool)) (o : (Unit ⊕ Int)) : Ex × Fr × St :=
 match o with
 | .inl o => (.exit 0, frOf 19 (anyF), [])
 | .inr o => (.ret, frOf 19 (upd anyF 4 (.int .i64 o)), [])
noncomputable def E126_1 (a1_f : Nat) (a1_c : List AV) (a0 : (List Range)) (p1 : Int) (a1 : (Range → Option Bool)) (s : Int) : Fr × St := (frOf 19 (upd (upd (upd (upd anyF 0 (.ts .imm 4 (a0.map encRange))) 1 (.fn a1_f a1_c)) 7 (.int .i64 p1)) 8 (.int .i64 s)), [])
theorem b126_1 (a0 : (List Range)) (p1 : Int) (a1 : (Range → Option Bool)) (a1_f : Nat) (a1_c : List AV) (a1_h : ((∀ S, mapO (lendPtr S) a1_c = some a1_c) ∧ (∀ n0 src R tm t c, tdL n0 src R tm t c a1_c = some a1_c)) ∧ ∀ y0 r, a1 y0 = some r → (∀ S, evCall T (evFL T) a1_f ([.agg [.int .i64 y0.prefix_.addr, .int .i64 y0.prefix_.len, .int .i64 y0.lo, .int .i64 y0.hi]] ++ a1_c) S = some (.bool r, S)) ∧ (∀ S, evCallFz T (evFL T) a1_f ([.agg [.int .i64 y0.prefix_.addr, .int .i64 y0.prefix_.len, .int .i64 y0.lo, .int .i64 y0.hi]] ++ a1_c) S = some (.bool r, S))) (s : Int) (o : Ctl Int (Unit ⊕ Int)) (h : m126_1b a0 p1 a1 s = some o) : evCL T 0 k126_1b (E126_1 a1_f a1_c a0 p1 a1 s).1 (E126_1 a1_f a1_c a0 p1 a1 s).2 = some (ctlX (E126_1 a1_f a1_c a0 p1 a1) (X126_1 a1_f a1_c a0 p1 a1) o) := by
 unfold m126_1b at h
 revert h
 generalize s = s12
 intro h
 try simp -implicitDefEqProofs only [go_sem, E126_1, X126_1, k126_1b, a1_h.1]
 cases b13 : (ltI s12 p1 : Bool)
 · replace h := br_f b13 h
   cases h
   simp -implicitDefEqProofs only [go_sem, E126_1, X126_1, k126_1b, a1_h.1, b13]
 · replace h := br_t b13 h
   obtain ⟨x14, q15, h⟩ := bnd_some h
   obtain ⟨g16, g17, g18⟩ := idx_row encRange q15
   try simp -implicitDefEqProofs only [go_sem] at g17
   try simp -implicitDefEqProofs only [go_sem] at g18
   obtain ⟨r19, q20, h⟩ := bnd_some h
   have w21 := a1_h.2 x14 r19 q20
   try simp -implicitDefEqProofs only [go_sem] at w21
   try simp -implicitDefEqProofs only [go_sem, E126_1, X126_1, k126_1b, a1_h.1, b13, g16, g17, g18, w21.1, w21.2]
   cases b22 : (r19 : Bool)
   · replace h := br_f b22 h
     cases h
     simp -implicitDefEqProofs only [go_sem, E126_1, X126_1, k126_1b, a1_h.1, b13, g16, g17, g18, w21.1, w21.2, b22]
   · replace h := br_t b22 h
     cases h
     simp -implicitDefEqProofs only [go_sem, E126_1, X126_1, k126_1b, a1_h.1, b13, g16, g17, g18, w21.1, w21.2, b22]
theorem e126_1 (a0 : (List Range)) (p1 : Int) (a1 : (Range → Option Bool)) (a1_f : Nat) (a1_c : List AV) (a1_h : ((∀ S, mapO (lendPtr S) a1_c = some a1_c) ∧ (∀ n0 src R tm t c, tdL n0 src R tm t c a1_c = some a1_c)) ∧ ∀ y0 r, a1 y0 = some r → (∀ S, evCall T (evFL T) a1_f ([.agg [.int .i64 y0.prefix_.addr, .int .i64 y0.prefix_.len, .int .i64 y0.lo, .int .i64 y0.hi]] ++ a1_c) S = some (.bool r, S)) ∧ (∀ S, evCallFz T (evFL T) a1_f ([.agg [.int .i64 y0.prefix_.addr, .int .i64 y0.prefix_.len, .int .i64 y0.lo, .int .i64 y0.hi]] ++ a1_c) S = some (.bool r, S))) (s : Int) (o : (Unit ⊕ Int)) (h : loopP (m126_1b a0 p1 a1) s = some o) : evCL T 0 (.loop k126_1b) (E126_1 a1_f a1_c a0 p1 a1 s).1 (E126_1 a1_f a1_c a0 p1 a1 s).2 = some (X126_1 a1_f a1_c a0 p1 a1 o) :=
 loop_walk (E := E126_1 a1_f a1_c a0 p1 a1) (X := X126_1 a1_f a1_c a0 p1 a1) (by intro b; rcases b with b | b <;> (simp only [X126_1]; nofun)) (b126_1 a0 p1 a1 a1_f a1_c a1_h) s o h
theorem e126 (a0 : (List Range)) (a1 : (Range → Option Bool)) (a1_f : Nat) (a1_c : List AV) (a1_h : ((∀ S, mapO (lendPtr S) a1_c = some a1_c) ∧ (∀ n0 src R tm t c, tdL n0 src R tm t c a1_c = some a1_c)) ∧ ∀ y0 r, a1 y0 = some r → (∀ S, evCall T (evFL T) a1_f ([.agg [.int .i64 y0.prefix_.addr, .int .i64 y0.prefix_.len, .int .i64 y0.lo, .int .i64 y0.hi]] ++ a1_c) S = some (.bool r, S)) ∧ (∀ S, evCallFz T (evFL T) a1_f ([.agg [.int .i64 y0.prefix_.addr, .int .i64 y0.prefix_.len, .int .i64 y0.lo, .int .i64 y0.hi]] ++ a1_c) S = some (.bool r, S))) (r : Int) (h : m126 a0 a1 = some r) : evFL T 126 [.ts .imm 4 (a0.map encRange), .fn a1_f a1_c] [] = some (.int .i64 r, []) := by
 unfold m126 at h
 rw [evFL_at fn126 (Nat.le_of_ble_eq_true rfl) rfl (.inr rfl) ⟨rfl, rfl⟩]
 try simp -implicitDefEqProofs only [go_sem, i126, c126, a1_h.1]
 obtain ⟨o, q23, h⟩ := bnd_some h
 rcases o with ⟨⟩ | v25
 · replace h := selS_l h
   have w24 := e126_1 a0 (↑a0.length : Int) a1 a1_f a1_c a1_h 0 (.inl ()) q23
   simp only [E126_1, X126_1] at w24
   try simp -implicitDefEqProofs only [go_sem] at w24
   cases h
   simp -implicitDefEqProofs only [go_sem, i126, c126, a1_h.1, w24]
 · replace h := selS_r h
   have w24 := e126_1 a0 (↑a0.length : Int) a1 a1_f a1_c a1_h 0 (.inr v25) q23
   simp only [E126_1, X126_1] at w24
   try simp -implicitDefEqProofs only [go_sem] at w24
   cases h
   simp -implicitDefEqProofs only [go_sem, i126, c126, a1_h.1, w24]
theorem call85 (args : List AV) (S : St) : evCall T (evFL T) 85 args S = lendC (evFL T 85) S (lendAll S [[4], [0]] args) := evCall0 fn85 rfl rfl rfl args S
theorem callz85 (args : List AV) (S : St) : evCallFz T (evFL T) 85 args S = lendZ (evFL T 85) S [[0]] (lendAll S [[4], [0]] args) := evCallFz0 fn85 rfl rfl rfl args S
attribute [go_sem] call85 callz85
theorem e85 (a0 : (List Range)) (a1 : (Range → Option Bool)) (a1_f : Nat) (a1_c : List AV) (a1_h : ((∀ S, mapO (lendPtr S) a1_c = some a1_c) ∧ (∀ n0 src R tm t c, tdL n0 src R tm t c a1_c = some a1_c)) ∧ ∀ y0 r, a1 y0 = some r → (∀ S, evCall T (evFL T) a1_f ([.agg [.int .i64 y0.prefix_.addr, .int .i64 y0.prefix_.len, .int .i64 y0.lo, .int .i64 y0.hi]] ++ a1_c) S = some (.bool r, S)) ∧ (∀ S, evCallFz T (evFL T) a1_f ([.agg [.int .i64 y0.prefix_.addr, .int .i64 y0.prefix_.len, .int .i64 y0.lo, .int .i64 y0.hi]] ++ a1_c) S = some (.bool r, S))) (r : Bool) (h : m85 a0 a1 = some r) : evFL T 85 [.ts .imm 4 (a0.map encRange), .fn a1_f a1_c] [] = some (.bool r, []) := by
 unfold m85 at h
 rw [evFL_at fn85 (Nat.le_of_ble_eq_true rfl) rfl (.inr rfl) ⟨rfl, rfl⟩]
 obtain ⟨r3, q1, h⟩ := bnd_some h
 have w2 := e126 a0 a1 a1_f a1_c a1_h r3 q1
 try simp -implicitDefEqProofs only [go_sem] at w2
 cases h
 simp -implicitDefEqProofs only [go_sem, i85, c85, a1_h.1, w2]
theorem call76 (args : List AV) (S : St) : evCall T (evFL T) 76 args S = lendC (evFL T 76) S (lendAll S [[0]] args) := evCall0 fn76 rfl rfl rfl args S
theorem callz76 (args : List AV) (S : St) : evCallFz T (evFL T) 76 args S = lendZ (evFL T 76) S [[0]] (lendAll S [[0]] args) := evCallFz0 fn76 rfl rfl rfl args S
attribute [go_sem] call76 callz76
theorem e76 (a0 : Int) (r : Bool) (h : m76 a0 = some r) : evFL T 76 [.int .i64 a0] [] = some (.bool r, []) := by
 unfold m76 at h
 rw [evFL_at fn76 (Nat.le_of_ble_eq_true rfl) rfl (.inr rfl) ⟨rfl, rfl⟩]
 obtain ⟨r3, q1, h⟩ := bnd_some h
 have w2 := e75 a0 0 4294967295 r3 q1
 try simp -implicitDefEqProofs only [go_sem] at w2
 cases h
 simp -implicitDefEqProofs only [go_sem, i76, c76, w2]
theorem call77 (args : List AV) (S : St) : evCall T (evFL T) 77 args S = lendC (evFL T 77) S (lendAll S [[0]] args) := evCall0 fn77 rfl rfl rfl args S
theorem callz77 (args : List AV) (S : St) : evCallFz T (evFL T) 77 args S = lendZ (evFL T 77) S [[0]] (lendAll S [[0]] args) := evCallFz0 fn77 rfl rfl rfl args S
attribute [go_sem] call77 callz77
theorem e77 (a0 : Int) (r : Int) (h : m77 a0 = some r) : evFL T 77 [.int .i64 a0] [] = some (.int .i64 r, []) := by
 unfold m77 at h
 rw [evFL_at fn77 (Nat.le_of_ble_eq_true rfl) rfl (.inr rfl) ⟨rfl, rfl⟩]
 obtain ⟨g1, h⟩ := ck_some h
 try simp -implicitDefEqProofs only [go_sem] at g1
 cases h
 simp -implicitDefEqProofs only [go_sem, i77, c77, g1]
theorem call37 (args : List AV) (S : St) : evCall T (evFL T) 37 args S = lendC (evFL T 37) S (lendAll S [[0, 0]] args) := evCall0 fn37 rfl rfl rfl args S
theorem callz37 (args : List AV) (S : St) : evCallFz T (evFL T) 37 args S = lendZ (evFL T 37) S [[0]] (lendAll S [[0, 0]] args) := evCallFz0 fn37 rfl rfl rfl args S
attribute [go_sem] call37 callz37
noncomputable def X37_1 (a0 : Prefix) (o : Bool) : Ex × Fr × St :=
 (.normal, frOf 20 (upd anyF 2 (.bool o)), [])
theorem e37_1 (a0 : Prefix) (o : Bool) (h : m37_1 a0 = some o) : evCL T 0 k37_1 (frOf 20 (upd anyF 1 (.ptr 0 0 0))) [some ⟨.box, 2, [[.int .i64 a0.addr, .int .i64 a0.len]]⟩] = some (X37_1 a0 o) := by
 unfold m37_1 at h
 obtain ⟨r3, q1, h⟩ := bnd_some h
 have w2 := e75 a0.len 0 32 r3 q1
 try simp -implicitDefEqProofs only [go_sem] at w2
 try simp -implicitDefEqProofs only [go_sem, X37_1, k37_1, w2]
 cases b4 : (r3 : Bool)
 · replace h := br_f b4 h
   cases h
   simp -implicitDefEqProofs only [go_sem, X37_1, k37_1, w2, b4]
 · replace h := br_t b4 h
   obtain ⟨r7, q5, h⟩ := bnd_some h
   have w6 := e76 a0.addr r7 q5
   try simp -implicitDefEqProofs only [go_sem] at w6
   try simp -implicitDefEqProofs only [go_sem, X37_1, k37_1, w2, b4, w6]
   cases b8 : (r7 : Bool)
   · replace h := br_f b8 h
     cases h
     simp -implicitDefEqProofs only [go_sem, X37_1, k37_1, w2, b4, w6, b8]
   · replace h := br_t b8 h
     obtain ⟨r11, q9, h⟩ := bnd_some h
     have w10 := e77 a0.len r11 q9
     try simp -implicitDefEqProofs only [go_sem] at w10
     obtain ⟨g12, h⟩ := ck_some h
     try simp -implicitDefEqProofs only [go_sem] at g12
     cases h
     simp -implicitDefEqProofs only [go_sem, X37_1, k37_1, w2, b4, w6, b8, w10, g12]
theorem e37 (a0 : Prefix) (r : Bool) (h : m37 a0 = some r) : evFL T 37 [.agg [.int .i64 a0.addr, .int .i64 a0.len]] [] = some (.bool r, []) := by
 unfold m37 at h
 rw [evFL_at fn37 (Nat.le_of_ble_eq_true rfl) rfl (.inr rfl) ⟨rfl, rfl⟩]
 obtain ⟨v15, q13, h⟩ := bnd_some h
 have w14 := e37_1 a0 v15 q13
 simp only [X37_1] at w14
 try simp -implicitDefEqProofs only [go_sem] at w14
 cases h
 simp -implicitDefEqProofs only [go_sem, i37, c37, w14]
theorem call86 (args : List AV) (S : St) : evCall T (evFL T) 86 args S = lendC (evFL T 86) S (lendAll S [[0, 0, 0, 0]] args) := evCall0 fn86 rfl rfl rfl args S
theorem callz86 (args : List AV) (S : St) : evCallFz T (evFL T) 86 args S = lendZ (evFL T 86) S [[0]] (lendAll S [[0, 0, 0, 0]] args) := evCallFz0 fn86 rfl rfl rfl args S
attribute [go_sem] call86 callz86
noncomputable def X86_1 (a0 : Range) (o : Bool) : Ex × Fr × St :=
 (.normal, frOf 27 (upd anyF 2 (.bool o)), [])
theorem e86_1 (a0 : Range) (o : Bool) (h : m86_1 a0 = some o) : evCL T 0 k86_1 (frOf 27 (upd anyF 1 (.ptr 0 0 0))) [some ⟨.box, 4, [[.int .i64 a0.prefix_.addr, .int .i64 a0.prefix_.len, .int .i64 a0.lo, .int .i64 a0.hi]]⟩] = some (X86_1 a0 o) := by
 unfold m86_1 at h
 obtain ⟨r3, q1, h⟩ := bnd_some h
 have w2 := e37 a0.prefix_ r3 q1
 try simp -implicitDefEqProofs only [go_sem] at w2
 try simp -implicitDefEqProofs only [go_sem, X86_1, k86_1, w2]
 cases b4 : (r3 : Bool)
 · replace h := br_f b4 h
   cases h
   simp -implicitDefEqProofs only [go_sem, X86_1, k86_1, w2, b4]
 · replace h := br_t b4 h
   try simp -implicitDefEqProofs only [go_sem, X86_1, k86_1, w2, b4]
   cases b5 : (ltI a0.lo a0.prefix_.len : Bool)
   · replace h := br_f b5 h
     try simp -implicitDefEqProofs only [go_sem, X86_1, k86_1, w2, b4, b5]
     cases b6 : (ltI a0.hi a0.lo : Bool)
     · replace h := br_f b6 h
       cases h
       simp -implicitDefEqProofs only [go_sem, X86_1, k86_1, w2, b4, b5, b6]
     · replace h := br_t b6 h
       cases h
       simp -implicitDefEqProofs only [go_sem, X86_1, k86_1, w2, b4, b5, b6]
   · replace h := br_t b5 h
     cases h
     simp -implicitDefEqProofs only [go_sem, X86_1, k86_1, w2, b4, b5]
theorem e86 (a0 : Range) (r : Bool) (h : m86 a0 = some r) : evFL T 86 [.agg [.int .i64 a0.prefix_.addr, .int .i64 a0.prefix_.len, .int .i64 a0.lo, .int .i64 a0.hi]] [] = some (.bool r, []) := by
 unfold m86 at h
 rw [evFL_at fn86 (Nat.le_of_ble_eq_true rfl) rfl (.inr rfl) ⟨rfl, rfl⟩]
 obtain ⟨v9, q7, h⟩ := bnd_some h
 have w8 := e86_1 a0 v9 q7
 simp only [X86_1] at w8
 try simp -implicitDefEqProofs only [go_sem] at w8
 cases h
 simp -implicitDefEqProofs only [go_sem, i86, c86, w8]
theorem call127 (args : List AV) (S : St) : evCall T (evFL T) 127 args S = lendC (evFL T 127) S (lendAll S [[2], [0]] args) := evCall0 fn127 rfl rfl rfl args S
theorem callz127 (args : List AV) (S : St) : evCallFz T (evFL T) 127 args S = lendZ (evFL T 127) S [[0]] (lendAll S [[2], [0]] args) := evCallFz0 fn127 rfl rfl rfl args S
attribute [go_sem] call127 callz127
noncomputable def X127_1 (a1_f : Nat) (a1_c : List AV) (a0 : (List Acn)) (p1 : Int) (a1 : (Acn → Option Bool)) (o : (Unit ⊕ Int)) : Ex × Fr × St :=
 match o with
 | .inl o => (.exit 0, frOf 19 (anyF), [])
 | .inr o => (.ret, frOf 19 (upd anyF 4 (.int .i64 o)), [])
noncomputable def E127_1 (a1_f : Nat) (a1_c : List AV) (a0 : (List Acn)) (p1 : Int) (a1 : (Acn → Option Bool)) (s : Int) : Fr × St := (frOf 19 (upd (upd (upd (upd anyF 0 (.ts .imm 2 (a0.map encAcn))) 1 (.fn a1_f a1_c)) 7 (.int .i64 p1)) 8 (.int .i64 s)), [])
theorem b127_1 (a0 : (List Acn)) (p1 : Int) (a1 : (Acn → Option Bool)) (a1_f : Nat) (a1_c : List AV) (a1_h : ((∀ S, mapO (lendPtr S) a1_c = some a1_c) ∧ (∀ n0 src R tm t c, tdL n0 src R tm t c a1_c = some a1_c)) ∧ ∀ y0 r, a1 y0 = some r → (∀ S, evCall T (evFL T) a1_f ([.agg [.int .i64 y0.kind, .int .i64 y0.n]] ++ a1_c) S = some (.bool r, S)) ∧ (∀ S, evCallFz T (evFL T) a1_f ([.agg [.int .i64 y0.kind, .int .i64 y0.n]] ++ a1_c) S = some (.bool r, S))) (s : Int) (o : Ctl Int (Unit ⊕ Int)) (h : m127_1b a0 p1 a1 s = some o) : evCL T 0 k127_1b (E127_1 a1_f a1_c a0 p1 a1 s).1 (E127_1 a1_f a1_c a0 p1 a1 s).2 = some (ctlX (E127_1 a1_f a1_c a0 p1 a1) (X127_1 a1_f a1_c a0 p1 a1) o) := by
 unfold m127_1b at h
 revert h
 generalize s = s12
 intro h
 try simp -implicitDefEqProofs only [go_sem, E127_1, X127_1, k127_1b, a1_h.1]
 cases b13 : (ltI s12 p1 : Bool)
 · replace h := br_f b13 h
   cases h
   simp -implicitDefEqProofs only [go_sem, E127_1, X127_1, k127_1b, a1_h.1, b13]
 · replace h := br_t b13 h
   obtain ⟨x14, q15, h⟩ := bnd_some h
   obtain ⟨g16, g17, g18⟩ := idx_row encAcn q15
   try simp -implicitDefEqProofs only [go_sem] at g17
   try simp -implicitDefEqProofs only [go_sem] at g18
   obtain ⟨r19, q20, h⟩ := bnd_some h
   have w21 := a1_h.2 x14 r19 q20
   try simp -implicitDefEqProofs only [go_sem] at w21
   try simp -implicitDefEqProofs only [go_sem, E127_1, X127_1, k127_1b, a1_h.1, b13, g16, g17, g18, w21.1, w21.2]
   cases b22 : (r19 : Bool)
   · replace h := br_f b22 h
     cases h
     simp -implicitDefEqProofs only [go_sem, E127_1, X127_1, k127_1b, a1_h.1, b13, g16, g17, g18, w21.1, w21.2, b22]
   · replace h := br_t b22 h
     cases h
     simp -implicitDefEqProofs only [go_sem, E127_1, X127_1, k127_1b, a1_h.1, b13, g16, g17, g18, w21.1, w21.2, b22]
theorem e127_1 (a0 : (List Acn)) (p1 : Int) (a1 : (Acn → Option Bool)) (a1_f : Nat) (a1_c : List AV) (a1_h : ((∀ S, mapO (lendPtr S) a1_c = some a1_c) ∧ (∀ n0 src R tm t c, tdL n0 src R tm t c a1_c = some a1_c)) ∧ ∀ y0 r, a1 y0 = some r → (∀ S, evCall T (evFL T) a1_f ([.agg [.int .i64 y0.kind, .int .i64 y0.n]] ++ a1_c) S = some (.bool r, S)) ∧ (∀ S, evCallFz T (evFL T) a1_f ([.agg [.int .i64 y0.kind, .int .i64 y0.n]] ++ a1_c) S = some (.bool r, S))) (s : Int) (o : (Unit ⊕ Int)) (h : loopP (m127_1b a0 p1 a1) s = some o) : evCL T 0 (.loop k127_1b) (E127_1 a1_f a1_c a0 p1 a1 s).1 (E127_1 a1_f a1_c a0 p1 a1 s).2 = some (X127_1 a1_f a1_c a0 p1 a1 o) :=
 loop_walk (E := E127_1 a1_f a1_c a0 p1 a1) (X := X127_1 a1_f a1_c a0 p1 a1) (by intro b; rcases b with b | b <;> (simp only [X127_1]; nofun)) (b127_1 a0 p1 a1 a1_f a1_c a1_h) s o h
theorem e127 (a0 : (List Acn)) (a1 : (Acn → Option Bool)) (a1_f : Nat) (a1_c : List AV) (a1_h : ((∀ S, mapO (lendPtr S) a1_c = some a1_c) ∧ (∀ n0 src R tm t c, tdL n0 src R tm t c a1_c = some a1_c)) ∧ ∀ y0 r, a1 y0 = some r → (∀ S, evCall T (evFL T) a1_f ([.agg [.int .i64 y0.kind, .int .i64 y0.n]] ++ a1_c) S = some (.bool r, S)) ∧ (∀ S, evCallFz T (evFL T) a1_f ([.agg [.int .i64 y0.kind, .int .i64 y0.n]] ++ a1_c) S = some (.bool r, S))) (r : Int) (h : m127 a0 a1 = some r) : evFL T 127 [.ts .imm 2 (a0.map encAcn), .fn a1_f a1_c] [] = some (.int .i64 r, []) := by
 unfold m127 at h
 rw [evFL_at fn127 (Nat.le_of_ble_eq_true rfl) rfl (.inr rfl) ⟨rfl, rfl⟩]
 try simp -implicitDefEqProofs only [go_sem, i127, c127, a1_h.1]
 obtain ⟨o, q23, h⟩ := bnd_some h
 rcases o with ⟨⟩ | v25
 · replace h := selS_l h
   have w24 := e127_1 a0 (↑a0.length : Int) a1 a1_f a1_c a1_h 0 (.inl ()) q23
   simp only [E127_1, X127_1] at w24
   try simp -implicitDefEqProofs only [go_sem] at w24
   cases h
   simp -implicitDefEqProofs only [go_sem, i127, c127, a1_h.1, w24]
 · replace h := selS_r h
   have w24 := e127_1 a0 (↑a0.length : Int) a1 a1_f a1_c a1_h 0 (.inr v25) q23
   simp only [E127_1, X127_1] at w24
   try simp -implicitDefEqProofs only [go_sem] at w24
   cases h
   simp -implicitDefEqProofs only [go_sem, i127, c127, a1_h.1, w24]
theorem call87 (args : List AV) (S : St) : evCall T (evFL T) 87 args S = lendC (evFL T 87) S (lendAll S [[2], [0]] args) := evCall0 fn87 rfl rfl rfl args S
theorem callz87 (args : List AV) (S : St) : evCallFz T (evFL T) 87 args S = lendZ (evFL T 87) S [[0]] (lendAll S [[2], [0]] args) := evCallFz0 fn87 rfl rfl rfl args S
attribute [go_sem] call87 callz87
theorem e87 (a0 : (List Acn)) (a1 : (Acn → Option Bool)) (a1_f : Nat) (a1_c : List AV) (a1_h : ((∀ S, mapO (lendPtr S) a1_c = some a1_c) ∧ (∀ n0 src R tm t c, tdL n0 src R tm t c a1_c = some a1_c)) ∧ ∀ y0 r, a1 y0 = some r → (∀ S, evCall T (evFL T) a1_f ([.agg [.int .i64 y0.kind, .int .i64 y0.n]] ++ a1_c) S = some (.bool r, S)) ∧ (∀ S, evCallFz T (evFL T) a1_f ([.agg [.int .i64 y0.kind, .int .i64 y0.n]] ++ a1_c) S = some (.bool r, S))) (r : Bool) (h : m87 a0 a1 = some r) : evFL T 87 [.ts .imm 2 (a0.map encAcn), .fn a1_f a1_c] [] = some (.bool r, []) := by
 unfold m87 at h
 rw [evFL_at fn87 (Nat.le_of_ble_eq_true rfl) rfl (.inr rfl) ⟨rfl, rfl⟩]
 obtain ⟨r3, q1, h⟩ := bnd_some h
 have w2 := e127 a0 a1 a1_f a1_c a1_h r3 q1
 try simp -implicitDefEqProofs only [go_sem] at w2
 cases h
 simp -implicitDefEqProofs only [go_sem, i87, c87, a1_h.1, w2]
theorem call50 (args : List AV) (S : St) : evCall T (evFL T) 50 args S = lendC (evFL T 50) S (lendAll S [[0, 0]] args) := evCall0 fn50 rfl rfl rfl args S
theorem callz50 (args : List AV) (S : St) : evCallFz T (evFL T) 50 args S = lendZ (evFL T 50) S [[0]] (lendAll S [[0, 0]] args) := evCallFz0 fn50 rfl rfl rfl args S
attribute [go_sem] call50 callz50
noncomputable def X50_3 (a0 : Acn) (p5 : Bool) (o : Bool) : Ex × Fr × St :=
 (.normal, frOf 18 (upd (upd (upd anyF 1 (.ptr 0 0 0)) 4 (.int .i64 a0.kind)) 5 (.bool o)), [some ⟨.box, 2, [[.int .i64 a0.kind, .int .i64 a0.n]]⟩])
theorem e50_3 (a0 : Acn) (p5 : Bool) (o : Bool) (h : m50_3 a0 p5 = some o) : evCL T 0 k50_3 (frOf 18 (upd (upd (upd anyF 1 (.ptr 0 0 0)) 4 (.int .i64 a0.kind)) 5 (.bool p5))) [some ⟨.box, 2, [[.int .i64 a0.kind, .int .i64 a0.n]]⟩] = some (X50_3 a0 p5 o) := by
 unfold m50_3 at h
 try simp -implicitDefEqProofs only [go_sem, X50_3, k50_3]
 cases b6 : (p5 : Bool)
 · replace h := br_f b6 h
   cases h
   simp -implicitDefEqProofs only [go_sem, X50_3, k50_3, b6]
 · replace h := br_t b6 h
   cases h
   simp -implicitDefEqProofs only [go_sem, X50_3, k50_3, b6]
noncomputable def X50_2 (a0 : Acn) (p3 : Bool) (o : Bool) : Ex × Fr × St :=
 (.normal, frOf 18 (upd (upd (upd anyF 1 (.ptr 0 0 0)) 4 (.int .i64 a0.kind)) 5 (.bool o)), [some ⟨.box, 2, [[.int .i64 a0.kind, .int .i64 a0.n]]⟩])
theorem e50_2 (a0 : Acn) (p3 : Bool) (o : Bool) (h : m50_2 a0 p3 = some o) : evCL T 0 k50_2 (frOf 18 (upd (upd (upd anyF 1 (.ptr 0 0 0)) 4 (.int .i64 a0.kind)) 5 (.bool p3))) [some ⟨.box, 2, [[.int .i64 a0.kind, .int .i64 a0.n]]⟩] = some (X50_2 a0 p3 o) := by
 unfold m50_2 at h
 try simp -implicitDefEqProofs only [go_sem, X50_2, k50_2]
 cases b4 : (p3 : Bool)
 · replace h := br_f b4 h
   obtain ⟨v9, q7, h⟩ := bnd_some h
   have w8 := e50_3 a0 (eqI a0.kind 3) v9 q7
   simp only [X50_3] at w8
   try simp -implicitDefEqProofs only [go_sem] at w8
   cases h
   simp -implicitDefEqProofs only [go_sem, X50_2, k50_2, b4, w8]
 · replace h := br_t b4 h
   cases h
   simp -implicitDefEqProofs only [go_sem, X50_2, k50_2, b4]
noncomputable def X50_1 (a0 : Acn) (p1 : Bool) (o : Bool) : Ex × Fr × St :=
 (.normal, frOf 18 (upd (upd (upd anyF 1 (.ptr 0 0 0)) 4 (.int .i64 a0.kind)) 5 (.bool o)), [some ⟨.box, 2, [[.int .i64 a0.kind, .int .i64 a0.n]]⟩])
theorem e50_1 (a0 : Acn) (p1 : Bool) (o : Bool) (h : m50_1 a0 p1 = some o) : evCL T 0 k50_1 (frOf 18 (upd (upd (upd anyF 1 (.ptr 0 0 0)) 4 (.int .i64 a0.kind)) 5 (.bool p1))) [some ⟨.box, 2, [[.int .i64 a0.kind, .int .i64 a0.n]]⟩] = some (X50_1 a0 p1 o) := by
 unfold m50_1 at h
 try simp -implicitDefEqProofs only [go_sem, X50_1, k50_1]
 cases b2 : (p1 : Bool)
 · replace h := br_f b2 h
   obtain ⟨v12, q10, h⟩ := bnd_some h
   have w11 := e50_2 a0 (eqI a0.kind 2) v12 q10
   simp only [X50_2] at w11
   try simp -implicitDefEqProofs only [go_sem] at w11
   cases h
   simp -implicitDefEqProofs only [go_sem, X50_1, k50_1, b2, w11]
 · replace h := br_t b2 h
   cases h
   simp -implicitDefEqProofs only [go_sem, X50_1, k50_1, b2]
theorem e50 (a0 : Acn) (r : Bool) (h : m50 a0 = some r) : evFL T 50 [.agg [.int .i64 a0.kind, .int .i64 a0.n]] [] = some (.bool r, []) := by
 unfold m50 at h
 rw [evFL_at fn50 (Nat.le_of_ble_eq_true rfl) rfl (.inr rfl) ⟨rfl, rfl⟩]
 obtain ⟨v15, q13, h⟩ := bnd_some h
 have w14 := e50_1 a0 (eqI a0.kind 1) v15 q13
 simp only [X50_1] at w14
 try simp -implicitDefEqProofs only [go_sem] at w14
 try simp -implicitDefEqProofs only [go_sem, i50, c50, w14]
 cases b16 : (v15 : Bool)
 · replace h := br_f b16 h
   try simp -implicitDefEqProofs only [go_sem, i50, c50, w14, b16]
   cases b20 : (eqI a0.kind 5 : Bool)
   · replace h := br_f b20 h
     cases h
     simp -implicitDefEqProofs only [go_sem, i50, c50, w14, b16, b20]
   · replace h := br_t b20 h
     obtain ⟨r23, q21, h⟩ := bnd_some h
     have w22 := e91 a0.n r23 q21
     try simp -implicitDefEqProofs only [go_sem] at w22
     cases h
     simp -implicitDefEqProofs only [go_sem, i50, c50, w14, b16, b20, w22]
 · replace h := br_t b16 h
   obtain ⟨r19, q17, h⟩ := bnd_some h
   have w18 := e79 a0.n r19 q17
   try simp -implicitDefEqProofs only [go_sem] at w18
   cases h
   simp -implicitDefEqProofs only [go_sem, i50, c50, w14, b16, w18]
theorem call88 (args : List AV) (S : St) : evCall T (evFL T) 88 args S = lendC (evFL T 88) S (lendAll S [[0, 0]] args) := evCall0 fn88 rfl rfl rfl args S
theorem callz88 (args : List AV) (S : St) : evCallFz T (evFL T) 88 args S = lendZ (evFL T 88) S [[0]] (lendAll S [[0, 0]] args) := evCallFz0 fn88 rfl rfl rfl args S
attribute [go_sem] call88 callz88
theorem e88 (a0 : Acn) (r : Bool) (h : m88 a0 = some r) : evFL T 88 [.agg [.int .i64 a0.kind, .int .i64 a0.n]] [] = some (.bool r, []) := by
 unfold m88 at h
 rw [evFL_at fn88 (Nat.le_of_ble_eq_true rfl) rfl (.inr rfl) ⟨rfl, rfl⟩]
 obtain ⟨r3, q1, h⟩ := bnd_some h
 have w2 := e50 a0 r3 q1
 try simp -implicitDefEqProofs only [go_sem] at w2
 cases h
 simp -implicitDefEqProofs only [go_sem, i88, c88, w2]
theorem call46 (args : List AV) (S : St) : evCall T (evFL T) 46 args S = lendC (evFL T 46) S (lendAll S [[4, 2, 0, 2, 0]] args) := evCall0 fn46 rfl rfl rfl args S
theorem callz46 (args : List AV) (S : St) : evCallFz T (evFL T) 46 args S = lendZ (evFL T 46) S [[0]] (lendAll S [[4, 2, 0, 2, 0]] args) := evCallFz0 fn46 rfl rfl rfl args S
attribute [go_sem] call46 callz46
noncomputable def X46_1 (a0 : Term) (o : Bool) : Ex × Fr × St :=
 (.normal, frOf 52 (upd (upd anyF 1 (.ptr 0 0 0)) 41 (.bool o)), [some ⟨.box, 5, [[.ts .imm 4 (a0.ranges.map encRange), .ts .imm 2 (a0.path.map encReCell), .int .i64 a0.comm, .ts .imm 2 (a0.acts.map encAcn), .int .i64 a0.verdict]]⟩])
theorem e46_1 (a0 : Term) (o : Bool) (h : m46_1 a0 = some o) : evCL T 0 k46_1 (frOf 52 (upd anyF 1 (.ptr 0 0 0))) [some ⟨.box, 5, [[.ts .imm 4 (a0.ranges.map encRange), .ts .imm 2 (a0.path.map encReCell), .int .i64 a0.comm, .ts .imm 2 (a0.acts.map encAcn), .int .i64 a0.verdict]]⟩] = some (X46_1 a0 o) := by
 unfold m46_1 at h
 try simp -implicitDefEqProofs only [go_sem, X46_1, k46_1]
 cases b1 : (ltI 6 (↑a0.ranges.length : Int) : Bool)
 · replace h := br_f b1 h
   try simp -implicitDefEqProofs only [go_sem, X46_1, k46_1, b1]
   cases b2 : (ltI 0 (↑a0.path.length : Int) : Bool)
   · replace h := br_f b2 h
     try simp -implicitDefEqProofs only [go_sem, X46_1, k46_1, b1, b2]
     cases b20 : (eqI a0.comm (-1) : Bool)
     · replace h := br_f b20 h
       obtain ⟨r27, q25, h⟩ := bnd_some h
       have w26 := e79 a0.comm r27 q25
       try simp -implicitDefEqProofs only [go_sem] at w26
       try simp -implicitDefEqProofs only [go_sem, X46_1, k46_1, b1, b2, b20, w26]
       cases b28 : (r27 : Bool)
       · replace h := br_f b28 h
         cases h
         simp -implicitDefEqProofs only [go_sem, X46_1, k46_1, b1, b2, b20, w26, b28]
       · replace h := br_t b28 h
         try simp -implicitDefEqProofs only [go_sem, X46_1, k46_1, b1, b2, b20, w26, b28]
         cases b29 : (ltI 5 (↑a0.acts.length : Int) : Bool)
         · replace h := br_f b29 h
           obtain ⟨r32, q30, h⟩ := bnd_some h
           have w31 := e75 a0.verdict 0 2 r32 q30
           try simp -implicitDefEqProofs only [go_sem] at w31
           cases h
           simp -implicitDefEqProofs only [go_sem, X46_1, k46_1, b1, b2, b20, w26, b28, b29, w31]
         · replace h := br_t b29 h
           cases h
           simp -implicitDefEqProofs only [go_sem, X46_1, k46_1, b1, b2, b20, w26, b28, b29]
     · replace h := br_t b20 h
       try simp -implicitDefEqProofs only [go_sem, X46_1, k46_1, b1, b2, b20]
       cases b21 : (ltI 5 (↑a0.acts.length : Int) : Bool)
       · replace h := br_f b21 h
         obtain ⟨r24, q22, h⟩ := bnd_some h
         have w23 := e75 a0.verdict 0 2 r24 q22
         try simp -implicitDefEqProofs only [go_sem] at w23
         cases h
         simp -implicitDefEqProofs only [go_sem, X46_1, k46_1, b1, b2, b20, b21, w23]
       · replace h := br_t b21 h
         cases h
         simp -implicitDefEqProofs only [go_sem, X46_1, k46_1, b1, b2, b20, b21]
   · replace h := br_t b2 h
     obtain ⟨r5, q3, h⟩ := bnd_some h
     have w4 := e84 a0.path r5 q3
     try simp -implicitDefEqProofs only [go_sem] at w4
     try simp -implicitDefEqProofs only [go_sem, X46_1, k46_1, b1, b2, w4]
     cases b6 : (r5 : Bool)
     · replace h := br_f b6 h
       cases h
       simp -implicitDefEqProofs only [go_sem, X46_1, k46_1, b1, b2, w4, b6]
     · replace h := br_t b6 h
       try simp -implicitDefEqProofs only [go_sem, X46_1, k46_1, b1, b2, w4, b6]
       cases b7 : (eqI a0.comm (-1) : Bool)
       · replace h := br_f b7 h
         obtain ⟨r14, q12, h⟩ := bnd_some h
         have w13 := e79 a0.comm r14 q12
         try simp -implicitDefEqProofs only [go_sem] at w13
         try simp -implicitDefEqProofs only [go_sem, X46_1, k46_1, b1, b2, w4, b6, b7, w13]
         cases b15 : (r14 : Bool)
         · replace h := br_f b15 h
           cases h
           simp -implicitDefEqProofs only [go_sem, X46_1, k46_1, b1, b2, w4, b6, b7, w13, b15]
         · replace h := br_t b15 h
           try simp -implicitDefEqProofs only [go_sem, X46_1, k46_1, b1, b2, w4, b6, b7, w13, b15]
           cases b16 : (ltI 5 (↑a0.acts.length : Int) : Bool)
           · replace h := br_f b16 h
             obtain ⟨r19, q17, h⟩ := bnd_some h
             have w18 := e75 a0.verdict 0 2 r19 q17
             try simp -implicitDefEqProofs only [go_sem] at w18
             cases h
             simp -implicitDefEqProofs only [go_sem, X46_1, k46_1, b1, b2, w4, b6, b7, w13, b15, b16, w18]
           · replace h := br_t b16 h
             cases h
             simp -implicitDefEqProofs only [go_sem, X46_1, k46_1, b1, b2, w4, b6, b7, w13, b15, b16]
       · replace h := br_t b7 h
         try simp -implicitDefEqProofs only [go_sem, X46_1, k46_1, b1, b2, w4, b6, b7]
         cases b8 : (ltI 5 (↑a0.acts.length : Int) : Bool)
         · replace h := br_f b8 h
           obtain ⟨r11, q9, h⟩ := bnd_some h
           have w10 := e75 a0.verdict 0 2 r11 q9
           try simp -implicitDefEqProofs only [go_sem] at w10
           cases h
           simp -implicitDefEqProofs only [go_sem, X46_1, k46_1, b1, b2, w4, b6, b7, b8, w10]
         · replace h := br_t b8 h
           cases h
           simp -implicitDefEqProofs only [go_sem, X46_1, k46_1, b1, b2, w4, b6, b7, b8]
 · replace h := br_t b1 h
   cases h
   simp -implicitDefEqProofs only [go_sem, X46_1, k46_1, b1]
noncomputable def X46_2 (a0 : Term) (o : Bool) : Ex × Fr × St :=
 (.normal, frOf 52 (upd anyF 2 (.bool o)), [])
theorem e46_2 (a0 : Term) (o : Bool) (h : m46_2 a0 = some o) : evCL T 0 k46_2 (frOf 52 (upd anyF 1 (.ptr 0 0 0))) [some ⟨.box, 5, [[.ts .imm 4 (a0.ranges.map encRange), .ts .imm 2 (a0.path.map encReCell), .int .i64 a0.comm, .ts .imm 2 (a0.acts.map encAcn), .int .i64 a0.verdict]]⟩] = some (X46_2 a0 o) := by
 unfold m46_2 at h
 obtain ⟨r39, q37, h⟩ := bnd_some h
 have w38 := e85 a0.ranges (fun y0 => m86 y0) 86 [] ⟨⟨fun S => by simp -implicitDefEqProofs only [go_sem], fun _ _ _ _ _ _ => by simp -implicitDefEqProofs only [go_sem]⟩, fun y0 r h => ⟨fun S => by simp -implicitDefEqProofs only [go_sem, e86 y0 r h], fun S => by simp -implicitDefEqProofs only [go_sem, e86 y0 r h]⟩⟩ r39 q37
 try simp -implicitDefEqProofs only [go_sem] at w38
 try simp -implicitDefEqProofs only [go_sem, X46_2, k46_2, w38]
 cases b40 : (r39 : Bool)
 · replace h := br_f b40 h
   obtain ⟨r43, q41, h⟩ := bnd_some h
   have w42 := e87 a0.acts (fun y0 => m88 y0) 88 [] ⟨⟨fun S => by simp -implicitDefEqProofs only [go_sem], fun _ _ _ _ _ _ => by simp -implicitDefEqProofs only [go_sem]⟩, fun y0 r h => ⟨fun S => by simp -implicitDefEqProofs only [go_sem, e88 y0 r h], fun S => by simp -implicitDefEqProofs only [go_sem, e88 y0 r h]⟩⟩ r43 q41
   try simp -implicitDefEqProofs only [go_sem] at w42
   cases h
   simp -implicitDefEqProofs only [go_sem, X46_2, k46_2, w38, b40, w42]
 · replace h := br_t b40 h
   cases h
   simp -implicitDefEqProofs only [go_sem, X46_2, k46_2, w38, b40]
theorem e46 (a0 : Term) (r : Bool) (h : m46 a0 = some r) : evFL T 46 [.agg [.ts .imm 4 (a0.ranges.map encRange), .ts .imm 2 (a0.path.map encReCell), .int .i64 a0.comm, .ts .imm 2 (a0.acts.map encAcn), .int .i64 a0.verdict]] [] = some (.bool r, []) := by
 unfold m46 at h
 rw [evFL_at fn46 (Nat.le_of_ble_eq_true rfl) rfl (.inr rfl) ⟨rfl, rfl⟩]
 obtain ⟨v35, q33, h⟩ := bnd_some h
 have w34 := e46_1 a0 v35 q33
 simp only [X46_1] at w34
 try simp -implicitDefEqProofs only [go_sem] at w34
 try simp -implicitDefEqProofs only [go_sem, i46, c46, w34]
 cases b36 : (v35 : Bool)
 · replace h := br_f b36 h
   obtain ⟨v46, q44, h⟩ := bnd_some h
   have w45 := e46_2 a0 v46 q44
   simp only [X46_2] at w45
   try simp -implicitDefEqProofs only [go_sem] at w45
   cases h
   simp -implicitDefEqProofs only [go_sem, i46, c46, w34, b36, w45]
 · replace h := br_t b36 h
   cases h
   simp -implicitDefEqProofs only [go_sem, i46, c46, w34, b36]
theorem call133 (args : List AV) (S : St) : evCall T (evFL T) 133 args S = lendC (evFL T 133) S (lendAll S [[1], [0]] args) := evCall0 fn133 rfl rfl rfl args S
theorem callz133 (args : List AV) (S : St) : evCallFz T (evFL T) 133 args S = lendZ (evFL T 133) S [[0]] (lendAll S [[1], [0]] args) := evCallFz0 fn133 rfl rfl rfl args S
attribute [go_sem] call133 callz133
noncomputable def X133_1 (a1_f : Nat) (a1_c : List AV) (a0 : (List Int)) (p1 : Int) (a1 : (Int → Option Bool)) (o : (Unit ⊕ Int)) : Ex × Fr × St :=
 match o with
 | .inl o => (.exit 0, frOf 19 (anyF), [])
 | .inr o => (.ret, frOf 19 (upd anyF 4 (.int .i64 o)), [])
noncomputable def E133_1 (a1_f : Nat) (a1_c : List AV) (a0 : (List Int)) (p1 : Int) (a1 : (Int → Option Bool)) (s : Int) : Fr × St := (frOf 19 (upd (upd (upd (upd anyF 0 (.ts .imm 1 (a0.map encInt))) 1 (.fn a1_f a1_c)) 7 (.int .i64 p1)) 8 (.int .i64 s)), [])
theorem b133_1 (a0 : (List Int)) (p1 : Int) (a1 : (Int → Option Bool)) (a1_f : Nat) (a1_c : List AV) (a1_h : ((∀ S, mapO (lendPtr S) a1_c = some a1_c) ∧ (∀ n0 src R tm t c, tdL n0 src R tm t c a1_c = some a1_c)) ∧ ∀ y0 r, a1 y0 = some r → (∀ S, evCall T (evFL T) a1_f ([.int .i64 y0] ++ a1_c) S = some (.bool r, S)) ∧ (∀ S, evCallFz T (evFL T) a1_f ([.int .i64 y0] ++ a1_c) S = some (.bool r, S))) (s : Int) (o : Ctl Int (Unit ⊕ Int)) (h : m133_1b a0 p1 a1 s = some o) : evCL T 0 k133_1b (E133_1 a1_f a1_c a0 p1 a1 s).1 (E133_1 a1_f a1_c a0 p1 a1 s).2 = some (ctlX (E133_1 a1_f a1_c a0 p1 a1) (X133_1 a1_f a1_c a0 p1 a1) o) := by
 unfold m133_1b at h
 revert h
 generalize s = s12
 intro h
 try simp -implicitDefEqProofs only [go_sem, E133_1, X133_1, k133_1b, a1_h.1]
 cases b13 : (ltI s12 p1 : Bool)
 · replace h := br_f b13 h
   cases h
   simp -implicitDefEqProofs only [go_sem, E133_1, X133_1, k133_1b, a1_h.1, b13]
 · replace h := br_t b13 h
   obtain ⟨x14, q15, h⟩ := bnd_some h
   obtain ⟨g16, g17, g18⟩ := idx_row encInt q15
   try simp -implicitDefEqProofs only [go_sem] at g17
   try simp -implicitDefEqProofs only [go_sem] at g18
   obtain ⟨r19, q20, h⟩ := bnd_some h
   have w21 := a1_h.2 x14 r19 q20
   try simp -implicitDefEqProofs only [go_sem] at w21
   try simp -implicitDefEqProofs only [go_sem, E133_1, X133_1, k133_1b, a1_h.1, b13, g16, g17, g18, w21.1, w21.2]
   cases b22 : (r19 : Bool)
   · replace h := br_f b22 h
     cases h
     simp -implicitDefEqProofs only [go_sem, E133_1, X133_1, k133_1b, a1_h.1, b13, g16, g17, g18, w21.1, w21.2, b22]
   · replace h := br_t b22 h
     cases h
     simp -implicitDefEqProofs only [go_sem, E133_1, X133_1, k133_1b, a1_h.1, b13, g16, g17, g18, w21.1, w21.2, b22]
theorem e133_1 (a0 : (List Int)) (p1 : Int) (a1 : (Int → Option Bool)) (a1_f : Nat) (a1_c : List AV) (a1_h : ((∀ S, mapO (lendPtr S) a1_c = some a1_c) ∧ (∀ n0 src R tm t c, tdL n0 src R tm t c a1_c = some a1_c)) ∧ ∀ y0 r, a1 y0 = some r → (∀ S, evCall T (evFL T) a1_f ([.int .i64 y0] ++ a1_c) S = some (.bool r, S)) ∧ (∀ S, evCallFz T (evFL T) a1_f ([.int .i64 y0] ++ a1_c) S = some (.bool r, S))) (s : Int) (o : (Unit ⊕ Int)) (h : loopP (m133_1b a0 p1 a1) s = some o) : evCL T 0 (.loop k133_1b) (E133_1 a1_f a1_c a0 p1 a1 s).1 (E133_1 a1_f a1_c a0 p1 a1 s).2 = some (X133_1 a1_f a1_c a0 p1 a1 o) :=
 loop_walk (E := E133_1 a1_f a1_c a0 p1 a1) (X := X133_1 a1_f a1_c a0 p1 a1) (by intro b; rcases b with b | b <;> (simp only [X133_1]; nofun)) (b133_1 a0 p1 a1 a1_f a1_c a1_h) s o h
theorem e133 (a0 : (List Int)) (a1 : (Int → Option Bool)) (a1_f : Nat) (a1_c : List AV) (a1_h : ((∀ S, mapO (lendPtr S) a1_c = some a1_c) ∧ (∀ n0 src R tm t c, tdL n0 src R tm t c a1_c = some a1_c)) ∧ ∀ y0 r, a1 y0 = some r → (∀ S, evCall T (evFL T) a1_f ([.int .i64 y0] ++ a1_c) S = some (.bool r, S)) ∧ (∀ S, evCallFz T (evFL T) a1_f ([.int .i64 y0] ++ a1_c) S = some (.bool r, S))) (r : Int) (h : m133 a0 a1 = some r) : evFL T 133 [.ts .imm 1 (a0.map encInt), .fn a1_f a1_c] [] = some (.int .i64 r, []) := by
 unfold m133 at h
 rw [evFL_at fn133 (Nat.le_of_ble_eq_true rfl) rfl (.inr rfl) ⟨rfl, rfl⟩]
 try simp -implicitDefEqProofs only [go_sem, i133, c133, a1_h.1]
 obtain ⟨o, q23, h⟩ := bnd_some h
 rcases o with ⟨⟩ | v25
 · replace h := selS_l h
   have w24 := e133_1 a0 (↑a0.length : Int) a1 a1_f a1_c a1_h 0 (.inl ()) q23
   simp only [E133_1, X133_1] at w24
   try simp -implicitDefEqProofs only [go_sem] at w24
   cases h
   simp -implicitDefEqProofs only [go_sem, i133, c133, a1_h.1, w24]
 · replace h := selS_r h
   have w24 := e133_1 a0 (↑a0.length : Int) a1 a1_f a1_c a1_h 0 (.inr v25) q23
   simp only [E133_1, X133_1] at w24
   try simp -implicitDefEqProofs only [go_sem] at w24
   cases h
   simp -implicitDefEqProofs only [go_sem, i133, c133, a1_h.1, w24]
theorem call120 (args : List AV) (S : St) : evCall T (evFL T) 120 args S = lendC (evFL T 120) S (lendAll S [[1], [0]] args) := evCall0 fn120 rfl rfl rfl args S
theorem callz120 (args : List AV) (S : St) : evCallFz T (evFL T) 120 args S = lendZ (evFL T 120) S [[0]] (lendAll S [[1], [0]] args) := evCallFz0 fn120 rfl rfl rfl args S
attribute [go_sem] call120 callz120
theorem e120 (a0 : (List Int)) (a1 : (Int → Option Bool)) (a1_f : Nat) (a1_c : List AV) (a1_h : ((∀ S, mapO (lendPtr S) a1_c = some a1_c) ∧ (∀ n0 src R tm t c, tdL n0 src R tm t c a1_c = some a1_c)) ∧ ∀ y0 r, a1 y0 = some r → (∀ S, evCall T (evFL T) a1_f ([.int .i64 y0] ++ a1_c) S = some (.bool r, S)) ∧ (∀ S, evCallFz T (evFL T) a1_f ([.int .i64 y0] ++ a1_c) S = some (.bool r, S))) (r : Bool) (h : m120 a0 a1 = some r) : evFL T 120 [.ts .imm 1 (a0.map encInt), .fn a1_f a1_c] [] = some (.bool r, []) := by
 unfold m120 at h
 rw [evFL_at fn120 (Nat.le_of_ble_eq_true rfl) rfl (.inr rfl) ⟨rfl, rfl⟩]
 obtain ⟨r3, q1, h⟩ := bnd_some h
 have w2 := e133 a0 a1 a1_f a1_c a1_h r3 q1
 try simp -implicitDefEqProofs only [go_sem] at w2
 cases h
 simp -implicitDefEqProofs only [go_sem, i120, c120, a1_h.1, w2]
theorem call121 (args : List AV) (S : St) : evCall T (evFL T) 121 args S = lendC (evFL T 121) S (lendAll S [[0]] args) := evCall0 fn121 rfl rfl rfl args S
theorem callz121 (args : List AV) (S : St) : evCallFz T (evFL T) 121 args S = lendZ (evFL T 121) S [[0]] (lendAll S [[0]] args) := evCallFz0 fn121 rfl rfl rfl args S
attribute [go_sem] call121 callz121
theorem e121 (a0 : Int) (r : Bool) (h : m121 a0 = some r) : evFL T 121 [.int .i64 a0] [] = some (.bool r, []) := by
 unfold m121 at h
 rw [evFL_at fn121 (Nat.le_of_ble_eq_true rfl) rfl (.inr rfl) ⟨rfl, rfl⟩]
 obtain ⟨r3, q1, h⟩ := bnd_some h
 have w2 := e91 a0 r3 q1
 try simp -implicitDefEqProofs only [go_sem] at w2
 cases h
 simp -implicitDefEqProofs only [go_sem, i121, c121, w2]
theorem call78 (args : List AV) (S : St) : evCall T (evFL T) 78 args S = lendC (evFL T 78) S (lendAll S [[1]] args) := evCall0 fn78 rfl rfl rfl args S
theorem callz78 (args : List AV) (S : St) : evCallFz T (evFL T) 78 args S = lendZ (evFL T 78) S [[0]] (lendAll S [[1]] args) := evCallFz0 fn78 rfl rfl rfl args S
attribute [go_sem] call78 callz78
noncomputable def X78_1 (a0 : (List Int)) (o : Bool) : Ex × Fr × St :=
 (.normal, frOf 11 (upd anyF 2 (.bool o)), [])
theorem e78_1 (a0 : (List Int)) (o : Bool) (h : m78_1 a0 = some o) : evCL T 0 k78_1 (frOf 11 (upd anyF 0 (.ts .imm 1 (a0.map encInt)))) [] = some (X78_1 a0 o) := by
 unfold m78_1 at h
 try simp -implicitDefEqProofs only [go_sem, X78_1, k78_1]
 cases b1 : (leI (↑a0.length : Int) 10 : Bool)
 · replace h := br_f b1 h
   cases h
   simp -implicitDefEqProofs only [go_sem, X78_1, k78_1, b1]
 · replace h := br_t b1 h
   obtain ⟨r4, q2, h⟩ := bnd_some h
   have w3 := e120 a0 (fun y0 => m121 y0) 121 [] ⟨⟨fun S => by simp -implicitDefEqProofs only [go_sem], fun _ _ _ _ _ _ => by simp -implicitDefEqProofs only [go_sem]⟩, fun y0 r h => ⟨fun S => by simp -implicitDefEqProofs only [go_sem, e121 y0 r h], fun S => by simp -implicitDefEqProofs only [go_sem, e121 y0 r h]⟩⟩ r4 q2
   try simp -implicitDefEqProofs only [go_sem] at w3
   cases h
   simp -implicitDefEqProofs only [go_sem, X78_1, k78_1, b1, w3]
theorem e78 (a0 : (List Int)) (r : Bool) (h : m78 a0 = some r) : evFL T 78 [.ts .imm 1 (a0.map encInt)] [] = some (.bool r, []) := by
 unfold m78 at h
 rw [evFL_at fn78 (Nat.le_of_ble_eq_true rfl) rfl (.inr rfl) ⟨rfl, rfl⟩]
 obtain ⟨v7, q5, h⟩ := bnd_some h
 have w6 := e78_1 a0 v7 q5
 simp only [X78_1] at w6
 try simp -implicitDefEqProofs only [go_sem] at w6
 cases h
 simp -implicitDefEqProofs only [go_sem, i78, c78, w6]
theorem call80 (args : List AV) (S : St) : evCall T (evFL T) 80 args S = lendC (evFL T 80) S (lendAll S [[1]] args) := evCall0 fn80 rfl rfl rfl args S
theorem callz80 (args : List AV) (S : St) : evCallFz T (evFL T) 80 args S = lendZ (evFL T 80) S [[0]] (lendAll S [[1]] args) := evCallFz0 fn80 rfl rfl rfl args S
attribute [go_sem] call80 callz80
noncomputable def X80_3 (a0 : (List Int)) (s22 : Int) (x24 : Int) (p1 : Int) (o : Bool) : Ex × Fr × St :=
 (.normal, frOf 32 (upd (upd (upd (upd (upd anyF 0 (.ts .imm 1 (a0.map encInt))) 5 (.ts .imm 1 (a0.map encInt))) 6 (.int .i64 p1)) 7 (.int .i64 s22)) 27 (.bool o)), [])
theorem e80_3 (a0 : (List Int)) (s22 : Int) (x24 : Int) (p1 : Int) (o : Bool) (h : m80_3 a0 s22 x24 = some o) : evCL T 0 k80_3 (frOf 32 (upd (upd (upd (upd (upd (upd anyF 0 (.ts .imm 1 (a0.map encInt))) 3 (.int .i64 s22)) 4 (.int .i64 x24)) 5 (.ts .imm 1 (a0.map encInt))) 6 (.int .i64 p1)) 7 (.int .i64 s22))) [] = some (X80_3 a0 s22 x24 p1 o) := by
 unfold m80_3 at h
 obtain ⟨r31, q29, h⟩ := bnd_some h
 have w30 := e79 x24 r31 q29
 try simp -implicitDefEqProofs only [go_sem] at w30
 try simp -implicitDefEqProofs only [go_sem, X80_3, k80_3, w30]
 cases b32 : (r31 : Bool)
 · replace h := br_f b32 h
   cases h
   simp -implicitDefEqProofs only [go_sem, X80_3, k80_3, w30, b32]
 · replace h := br_t b32 h
   try simp -implicitDefEqProofs only [go_sem, X80_3, k80_3, w30, b32]
   cases b33 : (ltI 0 s22 : Bool)
   · replace h := br_f b33 h
     cases h
     simp -implicitDefEqProofs only [go_sem, X80_3, k80_3, w30, b32, b33]
   · replace h := br_t b33 h
     obtain ⟨x34, q35, h⟩ := bnd_some h
     obtain ⟨g36, g37, g38⟩ := idx_row encInt q35
     try simp -implicitDefEqProofs only [go_sem] at g37
     try simp -implicitDefEqProofs only [go_sem] at g38
     cases h
     simp -implicitDefEqProofs only [go_sem, X80_3, k80_3, w30, b32, b33, g36, g37, g38]
noncomputable def X80_1 (a0 : (List Int)) (p1 : Int) (o : (Unit ⊕ Unit)) : Ex × Fr × St :=
 match o with
 | .inl o => (.exit 0, frOf 32 (upd anyF 0 (.ts .imm 1 (a0.map encInt))), [])
 | .inr o => (.ret, frOf 32 (upd anyF 2 (.bool false)), [])
noncomputable def E80_1 (a0 : (List Int)) (p1 : Int) (s : Int) : Fr × St := (frOf 32 (upd (upd (upd (upd anyF 0 (.ts .imm 1 (a0.map encInt))) 5 (.ts .imm 1 (a0.map encInt))) 6 (.int .i64 p1)) 7 (.int .i64 s)), [])
theorem b80_1 (a0 : (List Int)) (p1 : Int) (s : Int) (o : Ctl Int (Unit ⊕ Unit)) (h : m80_1b a0 p1 s = some o) : evCL T 0 k80_1b (E80_1 a0 p1 s).1 (E80_1 a0 p1 s).2 = some (ctlX (E80_1 a0 p1) (X80_1 a0 p1) o) := by
 unfold m80_1b at h
 revert h
 generalize s = s22
 intro h
 try simp -implicitDefEqProofs only [go_sem, E80_1, X80_1, k80_1b]
 cases b23 : (ltI s22 p1 : Bool)
 · replace h := br_f b23 h
   cases h
   simp -implicitDefEqProofs only [go_sem, E80_1, X80_1, k80_1b, b23]
 · replace h := br_t b23 h
   obtain ⟨x24, q25, h⟩ := bnd_some h
   obtain ⟨g26, g27, g28⟩ := idx_row encInt q25
   try simp -implicitDefEqProofs only [go_sem] at g27
   try simp -implicitDefEqProofs only [go_sem] at g28
   obtain ⟨v41, q39, h⟩ := bnd_some h
   have w40 := e80_3 a0 s22 x24 p1 v41 q39
   simp only [X80_3] at w40
   try simp -implicitDefEqProofs only [go_sem] at w40
   try simp -implicitDefEqProofs only [go_sem, E80_1, X80_1, k80_1b, b23, g26, g27, g28, w40]
   cases b42 : (v41 : Bool)
   · replace h := br_f b42 h
     cases h
     simp -implicitDefEqProofs only [go_sem, E80_1, X80_1, k80_1b, b23, g26, g27, g28, w40, b42]
   · replace h := br_t b42 h
     cases h
     simp -implicitDefEqProofs only [go_sem, E80_1, X80_1, k80_1b, b23, g26, g27, g28, w40, b42]
theorem e80_1 (a0 : (List Int)) (p1 : Int) (s : Int) (o : (Unit ⊕ Unit)) (h : loopP (m80_1b a0 p1) s = some o) : evCL T 0 (.loop k80_1b) (E80_1 a0 p1 s).1 (E80_1 a0 p1 s).2 = some (X80_1 a0 p1 o) :=
 loop_walk (E := E80_1 a0 p1) (X := X80_1 a0 p1) (by intro b; rcases b with b | b <;> (simp only [X80_1]; nofun)) (b80_1 a0 p1) s o h
theorem e80 (a0 : (List Int)) (r : Bool) (h : m80 a0 = some r) : evFL T 80 [.ts .imm 1 (a0.map encInt)] [] = some (.bool r, []) := by
 unfold m80 at h
 rw [evFL_at fn80 (Nat.le_of_ble_eq_true rfl) rfl (.inr rfl) ⟨rfl, rfl⟩]
 try simp -implicitDefEqProofs only [go_sem, i80, c80]
 obtain ⟨o, q43, h⟩ := bnd_some h
 rcases o with ⟨⟩ | ⟨⟩
 · replace h := selS_l h
   have w44 := e80_1 a0 (↑a0.length : Int) 0 (.inl ()) q43
   simp only [E80_1, X80_1] at w44
   try simp -implicitDefEqProofs only [go_sem] at w44
   cases h
   simp -implicitDefEqProofs only [go_sem, i80, c80, w44]
 · replace h := selS_r h
   have w44 := e80_1 a0 (↑a0.length : Int) 0 (.inr ()) q43
   simp only [E80_1, X80_1] at w44
   try simp -implicitDefEqProofs only [go_sem] at w44
   cases h
   simp -implicitDefEqProofs only [go_sem, i80, c80, w44]
theorem call38 (args : List AV) (S : St) : evCall T (evFL T) 38 args S = lendC (evFL T 38) S (lendAll S [[0, 1, 0, 0, 0, 1]] args) := evCall0 fn38 rfl rfl rfl args S
theorem callz38 (args : List AV) (S : St) : evCallFz T (evFL T) 38 args S = lendZ (evFL T 38) S [[0]] (lendAll S [[0, 1, 0, 0, 0, 1]] args) := evCallFz0 fn38 rfl rfl rfl args S
attribute [go_sem] call38 callz38
noncomputable def X38_1 (a0 : Attrs) (o : Bool) : Ex × Fr × St :=
 (.normal, frOf 31 (upd anyF 2 (.bool o)), [])
theorem e38_1 (a0 : Attrs) (o : Bool) (h : m38_1 a0 = some o) : evCL T 0 k38_1 (frOf 31 (upd anyF 1 (.ptr 0 0 0))) [some ⟨.box, 6, [[.int .i64 a0.origin, .ts .imm 1 (a0.path.map encInt), .int .i64 a0.next, .int .i64 a0.med, .int .i64 a0.pref, .ts .imm 1 (a0.comms.map encInt)]]⟩] = some (X38_1 a0 o) := by
 unfold m38_1 at h
 obtain ⟨r3, q1, h⟩ := bnd_some h
 have w2 := e75 a0.origin 0 2 r3 q1
 try simp -implicitDefEqProofs only [go_sem] at w2
 try simp -implicitDefEqProofs only [go_sem, X38_1, k38_1, w2]
 cases b4 : (r3 : Bool)
 · replace h := br_f b4 h
   cases h
   simp -implicitDefEqProofs only [go_sem, X38_1, k38_1, w2, b4]
 · replace h := br_t b4 h
   obtain ⟨r7, q5, h⟩ := bnd_some h
   have w6 := e78 a0.path r7 q5
   try simp -implicitDefEqProofs only [go_sem] at w6
   try simp -implicitDefEqProofs only [go_sem, X38_1, k38_1, w2, b4, w6]
   cases b8 : (r7 : Bool)
   · replace h := br_f b8 h
     cases h
     simp -implicitDefEqProofs only [go_sem, X38_1, k38_1, w2, b4, w6, b8]
   · replace h := br_t b8 h
     obtain ⟨r11, q9, h⟩ := bnd_some h
     have w10 := e76 a0.next r11 q9
     try simp -implicitDefEqProofs only [go_sem] at w10
     try simp -implicitDefEqProofs only [go_sem, X38_1, k38_1, w2, b4, w6, b8, w10]
     cases b12 : (r11 : Bool)
     · replace h := br_f b12 h
       cases h
       simp -implicitDefEqProofs only [go_sem, X38_1, k38_1, w2, b4, w6, b8, w10, b12]
     · replace h := br_t b12 h
       obtain ⟨r15, q13, h⟩ := bnd_some h
       have w14 := e79 a0.med r15 q13
       try simp -implicitDefEqProofs only [go_sem] at w14
       try simp -implicitDefEqProofs only [go_sem, X38_1, k38_1, w2, b4, w6, b8, w10, b12, w14]
       cases b16 : (r15 : Bool)
       · replace h := br_f b16 h
         cases h
         simp -implicitDefEqProofs only [go_sem, X38_1, k38_1, w2, b4, w6, b8, w10, b12, w14, b16]
       · replace h := br_t b16 h
         obtain ⟨r19, q17, h⟩ := bnd_some h
         have w18 := e79 a0.pref r19 q17
         try simp -implicitDefEqProofs only [go_sem] at w18
         try simp -implicitDefEqProofs only [go_sem, X38_1, k38_1, w2, b4, w6, b8, w10, b12, w14, b16, w18]
         cases b20 : (r19 : Bool)
         · replace h := br_f b20 h
           cases h
           simp -implicitDefEqProofs only [go_sem, X38_1, k38_1, w2, b4, w6, b8, w10, b12, w14, b16, w18, b20]
         · replace h := br_t b20 h
           obtain ⟨r23, q21, h⟩ := bnd_some h
           have w22 := e80 a0.comms r23 q21
           try simp -implicitDefEqProofs only [go_sem] at w22
           cases h
           simp -implicitDefEqProofs only [go_sem, X38_1, k38_1, w2, b4, w6, b8, w10, b12, w14, b16, w18, b20, w22]
theorem e38 (a0 : Attrs) (r : Bool) (h : m38 a0 = some r) : evFL T 38 [.agg [.int .i64 a0.origin, .ts .imm 1 (a0.path.map encInt), .int .i64 a0.next, .int .i64 a0.med, .int .i64 a0.pref, .ts .imm 1 (a0.comms.map encInt)]] [] = some (.bool r, []) := by
 unfold m38 at h
 rw [evFL_at fn38 (Nat.le_of_ble_eq_true rfl) rfl (.inr rfl) ⟨rfl, rfl⟩]
 obtain ⟨v26, q24, h⟩ := bnd_some h
 have w25 := e38_1 a0 v26 q24
 simp only [X38_1] at w25
 try simp -implicitDefEqProofs only [go_sem] at w25
 cases h
 simp -implicitDefEqProofs only [go_sem, i38, c38, w25]
theorem call11 (args : List AV) (S : St) : evCall T (evFL T) 11 args S = lendC (evFL T 11) S (lendAll S [[0, 0, 0, 1, 0, 0, 0, 1]] args) := evCall0 fn11 rfl rfl rfl args S
theorem callz11 (args : List AV) (S : St) : evCallFz T (evFL T) 11 args S = lendZ (evFL T 11) S [[0]] (lendAll S [[0, 0, 0, 1, 0, 0, 0, 1]] args) := evCallFz0 fn11 rfl rfl rfl args S
attribute [go_sem] call11 callz11
noncomputable def X11_1 (a0 : Route) (o : Bool) : Ex × Fr × St :=
 (.normal, frOf 11 (upd anyF 2 (.bool o)), [])
theorem e11_1 (a0 : Route) (o : Bool) (h : m11_1 a0 = some o) : evCL T 0 k11_1 (frOf 11 (upd anyF 1 (.ptr 0 0 0))) [some ⟨.box, 8, [[.int .i64 a0.prefix_.addr, .int .i64 a0.prefix_.len, .int .i64 a0.attrs.origin, .ts .imm 1 (a0.attrs.path.map encInt), .int .i64 a0.attrs.next, .int .i64 a0.attrs.med, .int .i64 a0.attrs.pref, .ts .imm 1 (a0.attrs.comms.map encInt)]]⟩] = some (X11_1 a0 o) := by
 unfold m11_1 at h
 obtain ⟨r3, q1, h⟩ := bnd_some h
 have w2 := e37 a0.prefix_ r3 q1
 try simp -implicitDefEqProofs only [go_sem] at w2
 try simp -implicitDefEqProofs only [go_sem, X11_1, k11_1, w2]
 cases b4 : (r3 : Bool)
 · replace h := br_f b4 h
   cases h
   simp -implicitDefEqProofs only [go_sem, X11_1, k11_1, w2, b4]
 · replace h := br_t b4 h
   obtain ⟨r7, q5, h⟩ := bnd_some h
   have w6 := e38 a0.attrs r7 q5
   try simp -implicitDefEqProofs only [go_sem] at w6
   cases h
   simp -implicitDefEqProofs only [go_sem, X11_1, k11_1, w2, b4, w6]
theorem e11 (a0 : Route) (r : Bool) (h : m11 a0 = some r) : evFL T 11 [.agg [.int .i64 a0.prefix_.addr, .int .i64 a0.prefix_.len, .int .i64 a0.attrs.origin, .ts .imm 1 (a0.attrs.path.map encInt), .int .i64 a0.attrs.next, .int .i64 a0.attrs.med, .int .i64 a0.attrs.pref, .ts .imm 1 (a0.attrs.comms.map encInt)]] [] = some (.bool r, []) := by
 unfold m11 at h
 rw [evFL_at fn11 (Nat.le_of_ble_eq_true rfl) rfl (.inr rfl) ⟨rfl, rfl⟩]
 obtain ⟨v10, q8, h⟩ := bnd_some h
 have w9 := e11_1 a0 v10 q8
 simp only [X11_1] at w9
 try simp -implicitDefEqProofs only [go_sem] at w9
 cases h
 simp -implicitDefEqProofs only [go_sem, i11, c11, w9]
theorem call142 (args : List AV) (S : St) : evCall T (evFL T) 142 args S = lendC (evFL T 142) S (lendAll S [[1], [0]] args) := evCall0 fn142 rfl rfl rfl args S
theorem callz142 (args : List AV) (S : St) : evCallFz T (evFL T) 142 args S = lendZ (evFL T 142) S [[0]] (lendAll S [[1], [0]] args) := evCallFz0 fn142 rfl rfl rfl args S
attribute [go_sem] call142 callz142
noncomputable def X142_1 (a0 : (List Int)) (a1 : Int) (p1 : Int) (o : (Unit ⊕ Int)) : Ex × Fr × St :=
 match o with
 | .inl o => (.exit 0, frOf 19 (anyF), [])
 | .inr o => (.ret, frOf 19 (upd anyF 4 (.int .i64 o)), [])
noncomputable def E142_1 (a0 : (List Int)) (a1 : Int) (p1 : Int) (s : Int) : Fr × St := (frOf 19 (upd (upd (upd (upd anyF 0 (.ts .imm 1 (a0.map encInt))) 1 (.int .i64 a1)) 7 (.int .i64 p1)) 8 (.int .i64 s)), [])
theorem b142_1 (a0 : (List Int)) (a1 : Int) (p1 : Int) (s : Int) (o : Ctl Int (Unit ⊕ Int)) (h : m142_1b a0 a1 p1 s = some o) : evCL T 0 k142_1b (E142_1 a0 a1 p1 s).1 (E142_1 a0 a1 p1 s).2 = some (ctlX (E142_1 a0 a1 p1) (X142_1 a0 a1 p1) o) := by
 unfold m142_1b at h
 revert h
 generalize s = s9
 intro h
 try simp -implicitDefEqProofs only [go_sem, E142_1, X142_1, k142_1b]
 cases b10 : (ltI s9 p1 : Bool)
 · replace h := br_f b10 h
   cases h
   simp -implicitDefEqProofs only [go_sem, E142_1, X142_1, k142_1b, b10]
 · replace h := br_t b10 h
   obtain ⟨x11, q12, h⟩ := bnd_some h
   obtain ⟨g13, g14, g15⟩ := idx_row encInt q12
   try simp -implicitDefEqProofs only [go_sem] at g14
   try simp -implicitDefEqProofs only [go_sem] at g15
   try simp -implicitDefEqProofs only [go_sem, E142_1, X142_1, k142_1b, b10, g13, g14, g15]
   cases b16 : (eqI a1 x11 : Bool)
   · replace h := br_f b16 h
     cases h
     simp -implicitDefEqProofs only [go_sem, E142_1, X142_1, k142_1b, b10, g13, g14, g15, b16]
   · replace h := br_t b16 h
     cases h
     simp -implicitDefEqProofs only [go_sem, E142_1, X142_1, k142_1b, b10, g13, g14, g15, b16]
theorem e142_1 (a0 : (List Int)) (a1 : Int) (p1 : Int) (s : Int) (o : (Unit ⊕ Int)) (h : loopP (m142_1b a0 a1 p1) s = some o) : evCL T 0 (.loop k142_1b) (E142_1 a0 a1 p1 s).1 (E142_1 a0 a1 p1 s).2 = some (X142_1 a0 a1 p1 o) :=
 loop_walk (E := E142_1 a0 a1 p1) (X := X142_1 a0 a1 p1) (by intro b; rcases b with b | b <;> (simp only [X142_1]; nofun)) (b142_1 a0 a1 p1) s o h
theorem e142 (a0 : (List Int)) (a1 : Int) (r : Int) (h : m142 a0 a1 = some r) : evFL T 142 [.ts .imm 1 (a0.map encInt), .int .i64 a1] [] = some (.int .i64 r, []) := by
 unfold m142 at h
 rw [evFL_at fn142 (Nat.le_of_ble_eq_true rfl) rfl (.inr rfl) ⟨rfl, rfl⟩]
 try simp -implicitDefEqProofs only [go_sem, i142, c142]
 obtain ⟨o, q17, h⟩ := bnd_some h
 rcases o with ⟨⟩ | v19
 · replace h := selS_l h
   have w18 := e142_1 a0 a1 (↑a0.length : Int) 0 (.inl ()) q17
   simp only [E142_1, X142_1] at w18
   try simp -implicitDefEqProofs only [go_sem] at w18
   cases h
   simp -implicitDefEqProofs only [go_sem, i142, c142, w18]
 · replace h := selS_r h
   have w18 := e142_1 a0 a1 (↑a0.length : Int) 0 (.inr v19) q17
   simp only [E142_1, X142_1] at w18
   try simp -implicitDefEqProofs only [go_sem] at w18
   cases h
   simp -implicitDefEqProofs only [go_sem, i142, c142, w18]
theorem call116 (args : List AV) (S : St) : evCall T (evFL T) 116 args S = lendC (evFL T 116) S (lendAll S [[1], [0]] args) := evCall0 fn116 rfl rfl rfl args S
theorem callz116 (args : List AV) (S : St) : evCallFz T (evFL T) 116 args S = lendZ (evFL T 116) S [[0]] (lendAll S [[1], [0]] args) := evCallFz0 fn116 rfl rfl rfl args S
attribute [go_sem] call116 callz116
theorem e116 (a0 : (List Int)) (a1 : Int) (r : Bool) (h : m116 a0 a1 = some r) : evFL T 116 [.ts .imm 1 (a0.map encInt), .int .i64 a1] [] = some (.bool r, []) := by
 unfold m116 at h
 rw [evFL_at fn116 (Nat.le_of_ble_eq_true rfl) rfl (.inr rfl) ⟨rfl, rfl⟩]
 obtain ⟨r3, q1, h⟩ := bnd_some h
 have w2 := e142 a0 a1 r3 q1
 try simp -implicitDefEqProofs only [go_sem] at w2
 cases h
 simp -implicitDefEqProofs only [go_sem, i116, c116, w2]
theorem call138 (args : List AV) (S : St) : evCall T (evFL T) 138 args S = treeC false (evFL T 138) S args (lendAll S [[2]] args) := evCallT fn138 rfl rfl rfl args S
attribute [go_sem] call138
noncomputable def X138_1 (r9 : Int) (x1 : ReCell) (o : (List ReCell × List pattern)) : Ex × Fr × St :=
 (.exit 0, frOf 41 (upd (upd anyF 4 (.ptr 0 0 0)) 5 (.ts .imm 2 (o.1.map encReCell))), [some ⟨.box, 3, [[.int .i64 x1.kind, .int .i64 x1.n, .sl 1 0 o.2.length]]⟩, some ⟨.arr, 1, o.2.map (encPpattern .imm)⟩])
noncomputable def E138_1 (r9 : Int) (x1 : ReCell) (s : (List ReCell × Int × List pattern)) : Fr × St := (frOf 41 (upd (upd (upd (upd anyF 4 (.ptr 0 0 0)) 5 (.ts .imm 2 (s.1.map encReCell))) 19 (.int .i64 r9)) 20 (.int .i64 s.2.1)), [some ⟨.box, 3, [[.int .i64 x1.kind, .int .i64 x1.n, .sl 1 0 s.2.2.length]]⟩, some ⟨.arr, 1, s.2.2.map (encPpattern .imm)⟩])
theorem b138_1 (rc : (List ReCell) → Option (pattern × (List ReCell))) (hrc : ∀ (a0 : (List ReCell)) (r : (pattern × (List ReCell))), rc a0 = some r → evFL T 138 [.ts .imm 2 (a0.map encReCell)] [] = some (.tup [.tp .imm 3 [encpattern .imm r.1] 0 0, .ts .imm 2 (r.2.map encReCell)], [])) (r9 : Int) (x1 : ReCell) (s : (List ReCell × Int × List pattern)) (o : Ctl (List ReCell × Int × List pattern) (List ReCell × List pattern)) (h : m138_1b rc r9 s = some o) : evCL T 0 k138_1b (E138_1 r9 x1 s).1 (E138_1 r9 x1 s).2 = some (ctlX (E138_1 r9 x1) (X138_1 r9 x1) o) := by
 unfold m138_1b at h
 obtain ⟨s16, s17, s18⟩ := s
 replace h := sel3_some h
 try simp -implicitDefEqProofs only [go_sem, E138_1, X138_1, k138_1b]
 cases b19 : (ltI s17 r9 : Bool)
 · replace h := br_f b19 h
   cases h
   simp -implicitDefEqProofs only [go_sem, E138_1, X138_1, k138_1b, b19]
 · replace h := br_t b19 h
   obtain ⟨⟨r22, r23⟩, q20, h⟩ := bnd_some h
   replace h := sel2_some h
   have w21 := hrc s16 (r22, r23) q20
   try simp -implicitDefEqProofs only [go_sem] at w21
   obtain ⟨g24, h⟩ := ck_some h
   try simp -implicitDefEqProofs only [go_sem] at g24
   cases h
   simp -implicitDefEqProofs only [go_sem, E138_1, X138_1, k138_1b, b19, w21, g24]
theorem e138_1 (rc : (List ReCell) → Option (pattern × (List ReCell))) (hrc : ∀ (a0 : (List ReCell)) (r : (pattern × (List ReCell))), rc a0 = some r → evFL T 138 [.ts .imm 2 (a0.map encReCell)] [] = some (.tup [.tp .imm 3 [encpattern .imm r.1] 0 0, .ts .imm 2 (r.2.map encReCell)], [])) (r9 : Int) (x1 : ReCell) (s : (List ReCell × Int × List pattern)) (o : (List ReCell × List pattern)) (h : loopP (m138_1b rc r9) s = some o) : evCL T 0 (.loop k138_1b) (E138_1 r9 x1 s).1 (E138_1 r9 x1 s).2 = some (X138_1 r9 x1 o) :=
 loop_walk (E := E138_1 r9 x1) (X := X138_1 r9 x1) (by intro b; (simp only [X138_1]; nofun)) (b138_1 rc hrc r9 x1) s o h
theorem e138r (rc : (List ReCell) → Option (pattern × (List ReCell))) (hrc : ∀ (a0 : (List ReCell)) (r : (pattern × (List ReCell))), rc a0 = some r → evFL T 138 [.ts .imm 2 (a0.map encReCell)] [] = some (.tup [.tp .imm 3 [encpattern .imm r.1] 0 0, .ts .imm 2 (r.2.map encReCell)], [])) (a0 : (List ReCell)) (r : (pattern × (List ReCell))) (h : m138r rc a0 = some r) : evFL T 138 [.ts .imm 2 (a0.map encReCell)] [] = some (.tup [.tp .imm 3 [encpattern .imm r.1] 0 0, .ts .imm 2 (r.2.map encReCell)], []) := by
 unfold m138r at h
 rw [evFL_at fn138 (Nat.le_of_ble_eq_true rfl) rfl (.inr rfl) ⟨rfl, rfl⟩]
 obtain ⟨x1, q2, h⟩ := bnd_some h
 obtain ⟨g3, g4, g5⟩ := idx_row encReCell q2
 try simp -implicitDefEqProofs only [go_sem] at g4
 try simp -implicitDefEqProofs only [go_sem] at g5
 obtain ⟨g6, h⟩ := ck_some h
 try simp -implicitDefEqProofs only [go_sem] at g6
 obtain ⟨r9, q7, h⟩ := bnd_some h
 have w8 := e144 x1.kind r9 q7
 try simp -implicitDefEqProofs only [go_sem] at w8
 obtain ⟨⟨v27, v28⟩, q25, h⟩ := bnd_some h
 replace h := sel2_some h
 have w26 := e138_1 rc hrc r9 x1 (a0.drop 1, 0, []) (v27, v28) q25
 simp only [E138_1, X138_1] at w26
 try simp -implicitDefEqProofs only [go_sem] at w26
 cases h
 simp -implicitDefEqProofs only [go_sem, i138, c138, g3, g4, g5, g6, w8, w26]
theorem e138k : ∀ (k : Nat) (a0 : (List ReCell)) (r : (pattern × (List ReCell))) (h : m138k k a0 = some r), evFL T 138 [.ts .imm 2 (a0.map encReCell)] [] = some (.tup [.tp .imm 3 [encpattern .imm r.1] 0 0, .ts .imm 2 (r.2.map encReCell)], []) := by
 intro k
 induction k with
 | zero => intro a0 r h; cases h
 | succ k ih => intro a0 r h; exact e138r (m138k k) (fun a0 r h => ih a0 r h) a0 r h
theorem e138 (a0 : (List ReCell)) (r : (pattern × (List ReCell))) (h : m138 a0 = some r) : evFL T 138 [.ts .imm 2 (a0.map encReCell)] [] = some (.tup [.tp .imm 3 [encpattern .imm r.1] 0 0, .ts .imm 2 (r.2.map encReCell)], []) := by
 obtain ⟨N, hN⟩ := limO_iff.1 h
 exact e138k N a0 r (hN N (Nat.le_refl N))
theorem call150 (args : List AV) (S : St) : evCall T (evFL T) 150 args S = treeC false (evFL T 150) S args (lendAll S [[0], [1]] args) := evCallT fn150 rfl rfl rfl args S
attribute [go_sem] call150
theorem e150 (a0 : Int) (a1 : (List pattern)) (r : pattern) (h : m150 a0 a1 = some r) : evFL T 150 [.int .i64 a0, .ts .imm 1 (a1.map (encPpattern .imm))] [] = some (.tp .imm 3 [encpattern .imm r] 0 0, []) := by
 unfold m150 at h
 rw [evFL_at fn150 (Nat.le_of_ble_eq_true rfl) rfl (.inr rfl) ⟨rfl, rfl⟩]
 cases h
 simp -implicitDefEqProofs only [go_sem, i150, c150]
theorem call141 (args : List AV) (S : St) : evCall T (evFL T) 141 args S = lendC (evFL T 141) S (lendAll S [[0]] args) := evCall0 fn141 rfl rfl rfl args S
theorem callz141 (args : List AV) (S : St) : evCallFz T (evFL T) 141 args S = lendZ (evFL T 141) S [[0]] (lendAll S [[0]] args) := evCallFz0 fn141 rfl rfl rfl args S
attribute [go_sem] call141 callz141
noncomputable def X141_1 (a0 : pattern) (p1 : Bool) (o : Bool) : Ex × Fr × St :=
 (.normal, frOf 47 (upd (upd (upd anyF 0 (.tp .imm 3 [encpattern .imm a0] 0 0)) 7 (.int .i64 a0.cell.kind)) 8 (.bool o)), [])
theorem e141_1 (rc : pattern → Option Bool) (hrc : ∀ (a0 : pattern) (r : Bool), rc a0 = some r → evFL T 141 [.tp .imm 3 [encpattern .imm a0] 0 0] [] = some (.bool r, [])) (a0 : pattern) (p1 : Bool) (o : Bool) (h : m141_1 rc a0 p1 = some o) : evCL T 0 k141_1 (frOf 47 (upd (upd (upd anyF 0 (.tp .imm 3 [encpattern .imm a0] 0 0)) 7 (.int .i64 a0.cell.kind)) 8 (.bool p1))) [] = some (X141_1 a0 p1 o) := by
 unfold m141_1 at h
 try simp -implicitDefEqProofs only [go_sem, X141_1, k141_1]
 cases b2 : (p1 : Bool)
 · replace h := br_f b2 h
   cases h
   simp -implicitDefEqProofs only [go_sem, X141_1, k141_1, b2]
 · replace h := br_t b2 h
   cases h
   simp -implicitDefEqProofs only [go_sem, X141_1, k141_1, b2]
noncomputable def X141_2 (a0 : pattern) (o : Bool) : Ex × Fr × St :=
 (.normal, frOf 47 (upd anyF 2 (.bool o)), [])
theorem e141_2 (rc : pattern → Option Bool) (hrc : ∀ (a0 : pattern) (r : Bool), rc a0 = some r → evFL T 141 [.tp .imm 3 [encpattern .imm a0] 0 0] [] = some (.bool r, [])) (a0 : pattern) (o : Bool) (h : m141_2 rc a0 = some o) : evCL T 0 k141_2 (frOf 47 (upd anyF 0 (.tp .imm 3 [encpattern .imm a0] 0 0))) [] = some (X141_2 a0 o) := by
 unfold m141_2 at h
 obtain ⟨x8, q9, h⟩ := bnd_some h
 obtain ⟨g10, g11, g12⟩ := idx_row (encPpattern .imm) q9
 try simp -implicitDefEqProofs only [go_sem] at g11
 try simp -implicitDefEqProofs only [go_sem] at g12
 obtain ⟨r15, q13, h⟩ := bnd_some h
 have w14 := hrc x8 r15 q13
 try simp -implicitDefEqProofs only [go_sem] at w14
 try simp -implicitDefEqProofs only [go_sem, X141_2, k141_2, g10, g11, g12, w14]
 cases b16 : (r15 : Bool)
 · replace h := br_f b16 h
   cases h
   simp -implicitDefEqProofs only [go_sem, X141_2, k141_2, g10, g11, g12, w14, b16]
 · replace h := br_t b16 h
   obtain ⟨x17, q18, h⟩ := bnd_some h
   obtain ⟨g19, g20, g21⟩ := idx_row (encPpattern .imm) q18
   try simp -implicitDefEqProofs only [go_sem] at g20
   try simp -implicitDefEqProofs only [go_sem] at g21
   obtain ⟨r24, q22, h⟩ := bnd_some h
   have w23 := hrc x17 r24 q22
   try simp -implicitDefEqProofs only [go_sem] at w23
   cases h
   simp -implicitDefEqProofs only [go_sem, X141_2, k141_2, g10, g11, g12, w14, b16, g19, g20, g21, w23]
noncomputable def X141_3 (a0 : pattern) (o : Bool) : Ex × Fr × St :=
 (.normal, frOf 47 (upd anyF 2 (.bool o)), [])
theorem e141_3 (rc : pattern → Option Bool) (hrc : ∀ (a0 : pattern) (r : Bool), rc a0 = some r → evFL T 141 [.tp .imm 3 [encpattern .imm a0] 0 0] [] = some (.bool r, [])) (a0 : pattern) (o : Bool) (h : m141_3 rc a0 = some o) : evCL T 0 k141_3 (frOf 47 (upd anyF 0 (.tp .imm 3 [encpattern .imm a0] 0 0))) [] = some (X141_3 a0 o) := by
 unfold m141_3 at h
 obtain ⟨x29, q30, h⟩ := bnd_some h
 obtain ⟨g31, g32, g33⟩ := idx_row (encPpattern .imm) q30
 try simp -implicitDefEqProofs only [go_sem] at g32
 try simp -implicitDefEqProofs only [go_sem] at g33
 obtain ⟨r36, q34, h⟩ := bnd_some h
 have w35 := hrc x29 r36 q34
 try simp -implicitDefEqProofs only [go_sem] at w35
 try simp -implicitDefEqProofs only [go_sem, X141_3, k141_3, g31, g32, g33, w35]
 cases b37 : (r36 : Bool)
 · replace h := br_f b37 h
   obtain ⟨x38, q39, h⟩ := bnd_some h
   obtain ⟨g40, g41, g42⟩ := idx_row (encPpattern .imm) q39
   try simp -implicitDefEqProofs only [go_sem] at g41
   try simp -implicitDefEqProofs only [go_sem] at g42
   obtain ⟨r45, q43, h⟩ := bnd_some h
   have w44 := hrc x38 r45 q43
   try simp -implicitDefEqProofs only [go_sem] at w44
   cases h
   simp -implicitDefEqProofs only [go_sem, X141_3, k141_3, g31, g32, g33, w35, b37, g40, g41, g42, w44]
 · replace h := br_t b37 h
   cases h
   simp -implicitDefEqProofs only [go_sem, X141_3, k141_3, g31, g32, g33, w35, b37]
theorem e141r (rc : pattern → Option Bool) (hrc : ∀ (a0 : pattern) (r : Bool), rc a0 = some r → evFL T 141 [.tp .imm 3 [encpattern .imm a0] 0 0] [] = some (.bool r, [])) (a0 : pattern) (r : Bool) (h : m141r rc a0 = some r) : evFL T 141 [.tp .imm 3 [encpattern .imm a0] 0 0] [] = some (.bool r, []) := by
 unfold m141r at h
 rw [evFL_at fn141 (Nat.le_of_ble_eq_true rfl) rfl (.inr rfl) ⟨rfl, rfl⟩]
 obtain ⟨v5, q3, h⟩ := bnd_some h
 have w4 := e141_1 rc hrc a0 (eqI a0.cell.kind 2) v5 q3
 simp only [X141_1] at w4
 try simp -implicitDefEqProofs only [go_sem] at w4
 try simp -implicitDefEqProofs only [go_sem, i141, c141, w4]
 cases b6 : (v5 : Bool)
 · replace h := br_f b6 h
   try simp -implicitDefEqProofs only [go_sem, i141, c141, w4, b6]
   cases b7 : (eqI a0.cell.kind 5 : Bool)
   · replace h := br_f b7 h
     try simp -implicitDefEqProofs only [go_sem, i141, c141, w4, b6, b7]
     cases b28 : (eqI a0.cell.kind 6 : Bool)
     · replace h := br_f b28 h
       cases h
       simp -implicitDefEqProofs only [go_sem, i141, c141, w4, b6, b7, b28]
     · replace h := br_t b28 h
       obtain ⟨v48, q46, h⟩ := bnd_some h
       have w47 := e141_3 rc hrc a0 v48 q46
       simp only [X141_3] at w47
       try simp -implicitDefEqProofs only [go_sem] at w47
       cases h
       simp -implicitDefEqProofs only [go_sem, i141, c141, w4, b6, b7, b28, w47]
   · replace h := br_t b7 h
     obtain ⟨v27, q25, h⟩ := bnd_some h
     have w26 := e141_2 rc hrc a0 v27 q25
     simp only [X141_2] at w26
     try simp -implicitDefEqProofs only [go_sem] at w26
     cases h
     simp -implicitDefEqProofs only [go_sem, i141, c141, w4, b6, b7, w26]
 · replace h := br_t b6 h
   cases h
   simp -implicitDefEqProofs only [go_sem, i141, c141, w4, b6]
theorem e141k : ∀ (k : Nat) (a0 : pattern) (r : Bool) (h : m141k k a0 = some r), evFL T 141 [.tp .imm 3 [encpattern .imm a0] 0 0] [] = some (.bool r, []) := by
 intro k
 induction k with
 | zero => intro a0 r h; cases h
 | succ k ih => intro a0 r h; exact e141r (m141k k) (fun a0 r h => ih a0 r h) a0 r h
theorem e141 (a0 : pattern) (r : Bool) (h : m141 a0 = some r) : evFL T 141 [.tp .imm 3 [encpattern .imm a0] 0 0] [] = some (.bool r, []) := by
 obtain ⟨N, hN⟩ := limO_iff.1 h
 exact e141k N a0 r (hN N (Nat.le_refl N))
theorem call139 (args : List AV) (S : St) : evCall T (evFL T) 139 args S = treeC false (evFL T 139) S args (lendAll S [[0], [0]] args) := evCallT fn139 rfl rfl rfl args S
attribute [go_sem] call139
noncomputable def X139_1 (a0 : pattern) (a1 : Int) (p5 : Bool) (o : (Unit ⊕ pattern)) : Ex × Fr × St :=
 match o with
 | .inl o => (.normal, frOf 95 (anyF), [])
 | .inr o => (.ret, frOf 95 (upd anyF 4 (.tp .imm 3 [encpattern .imm o] 0 0)), [])
theorem e139_1 (rc : pattern → Int → Option pattern) (hrc : ∀ (a0 : pattern) (a1 : Int) (r : pattern), rc a0 a1 = some r → evFL T 139 [.tp .imm 3 [encpattern .imm a0] 0 0, .int .i64 a1] [] = some (.tp .imm 3 [encpattern .imm r] 0 0, [])) (a0 : pattern) (a1 : Int) (p5 : Bool) (o : (Unit ⊕ pattern)) (h : m139_1 rc a0 a1 p5 = some o) : evCL T 0 k139_1 (frOf 95 (upd (upd (upd (upd anyF 0 (.tp .imm 3 [encpattern .imm a0] 0 0)) 1 (.int .i64 a1)) 10 (.int .i64 a0.cell.kind)) 14 (.bool p5))) [] = some (X139_1 a0 a1 p5 o) := by
 unfold m139_1 at h
 try simp -implicitDefEqProofs only [go_sem, X139_1, k139_1]
 cases b6 : (p5 : Bool)
 · replace h := br_f b6 h
   try simp -implicitDefEqProofs only [go_sem, X139_1, k139_1, b6]
   cases b11 : (eqI a0.cell.kind 6 : Bool)
   · replace h := br_f b11 h
     try simp -implicitDefEqProofs only [go_sem, X139_1, k139_1, b6, b11]
     cases b31 : (eqI a0.cell.kind 7 : Bool)
     · replace h := br_f b31 h
       try simp -implicitDefEqProofs only [go_sem, X139_1, k139_1, b6, b11, b31]
       cases b43 : (eqI a0.cell.kind 5 : Bool)
       · replace h := br_f b43 h
         cases h
         simp -implicitDefEqProofs only [go_sem, X139_1, k139_1, b6, b11, b31, b43]
       · replace h := br_t b43 h
         obtain ⟨x44, q45, h⟩ := bnd_some h
         obtain ⟨g46, g47, g48⟩ := idx_row (encPpattern .imm) q45
         try simp -implicitDefEqProofs only [go_sem] at g47
         try simp -implicitDefEqProofs only [go_sem] at g48
         obtain ⟨r51, q49, h⟩ := bnd_some h
         have w50 := hrc x44 a1 r51 q49
         try simp -implicitDefEqProofs only [go_sem] at w50
         obtain ⟨x52, q53, h⟩ := bnd_some h
         obtain ⟨g54, g55, g56⟩ := idx_row (encPpattern .imm) q53
         try simp -implicitDefEqProofs only [go_sem] at g55
         try simp -implicitDefEqProofs only [go_sem] at g56
         obtain ⟨r59, q57, h⟩ := bnd_some h
         have w58 := e150 5 [r51, x52] r59 q57
         try simp -implicitDefEqProofs only [go_sem] at w58
         obtain ⟨r62, q60, h⟩ := bnd_some h
         have w61 := e141 x44 r62 q60
         try simp -implicitDefEqProofs only [go_sem] at w61
         try simp -implicitDefEqProofs only [go_sem, X139_1, k139_1, b6, b11, b31, b43, g46, g47, g48, w50, g54, g55, g56, w58, w61]
         cases b63 : (r62 : Bool)
         · replace h := br_f b63 h
           cases h
           simp -implicitDefEqProofs only [go_sem, X139_1, k139_1, b6, b11, b31, b43, g46, g47, g48, w50, g54, g55, g56, w58, w61, b63]
         · replace h := br_t b63 h
           obtain ⟨r66, q64, h⟩ := bnd_some h
           have w65 := hrc x52 a1 r66 q64
           try simp -implicitDefEqProofs only [go_sem] at w65
           obtain ⟨r69, q67, h⟩ := bnd_some h
           have w68 := e150 6 [r59, r66] r69 q67
           try simp -implicitDefEqProofs only [go_sem] at w68
           cases h
           simp -implicitDefEqProofs only [go_sem, X139_1, k139_1, b6, b11, b31, b43, g46, g47, g48, w50, g54, g55, g56, w58, w61, b63, w65, w68]
     · replace h := br_t b31 h
       obtain ⟨x32, q33, h⟩ := bnd_some h
       obtain ⟨g34, g35, g36⟩ := idx_row (encPpattern .imm) q33
       try simp -implicitDefEqProofs only [go_sem] at g35
       try simp -implicitDefEqProofs only [go_sem] at g36
       obtain ⟨r39, q37, h⟩ := bnd_some h
       have w38 := hrc x32 a1 r39 q37
       try simp -implicitDefEqProofs only [go_sem] at w38
       obtain ⟨r42, q40, h⟩ := bnd_some h
       have w41 := e150 5 [r39, a0] r42 q40
       try simp -implicitDefEqProofs only [go_sem] at w41
       cases h
       simp -implicitDefEqProofs only [go_sem, X139_1, k139_1, b6, b11, b31, g34, g35, g36, w38, w41]
   · replace h := br_t b11 h
     obtain ⟨x12, q13, h⟩ := bnd_some h
     obtain ⟨g14, g15, g16⟩ := idx_row (encPpattern .imm) q13
     try simp -implicitDefEqProofs only [go_sem] at g15
     try simp -implicitDefEqProofs only [go_sem] at g16
     obtain ⟨r19, q17, h⟩ := bnd_some h
     have w18 := hrc x12 a1 r19 q17
     try simp -implicitDefEqProofs only [go_sem] at w18
     obtain ⟨x20, q21, h⟩ := bnd_some h
     obtain ⟨g22, g23, g24⟩ := idx_row (encPpattern .imm) q21
     try simp -implicitDefEqProofs only [go_sem] at g23
     try simp -implicitDefEqProofs only [go_sem] at g24
     obtain ⟨r27, q25, h⟩ := bnd_some h
     have w26 := hrc x20 a1 r27 q25
     try simp -implicitDefEqProofs only [go_sem] at w26
     obtain ⟨r30, q28, h⟩ := bnd_some h
     have w29 := e150 6 [r19, r27] r30 q28
     try simp -implicitDefEqProofs only [go_sem] at w29
     cases h
     simp -implicitDefEqProofs only [go_sem, X139_1, k139_1, b6, b11, g14, g15, g16, w18, g22, g23, g24, w26, w29]
 · replace h := br_t b6 h
   try simp -implicitDefEqProofs only [go_sem, X139_1, k139_1, b6]
   cases b7 : (eqI a0.cell.n a1 : Bool)
   · replace h := br_f b7 h
     cases h
     simp -implicitDefEqProofs only [go_sem, X139_1, k139_1, b6, b7]
   · replace h := br_t b7 h
     obtain ⟨r10, q8, h⟩ := bnd_some h
     have w9 := e150 2 [] r10 q8
     try simp -implicitDefEqProofs only [go_sem] at w9
     cases h
     simp -implicitDefEqProofs only [go_sem, X139_1, k139_1, b6, b7, w9]
theorem e139r (rc : pattern → Int → Option pattern) (hrc : ∀ (a0 : pattern) (a1 : Int) (r : pattern), rc a0 a1 = some r → evFL T 139 [.tp .imm 3 [encpattern .imm a0] 0 0, .int .i64 a1] [] = some (.tp .imm 3 [encpattern .imm r] 0 0, [])) (a0 : pattern) (a1 : Int) (r : pattern) (h : m139r rc a0 a1 = some r) : evFL T 139 [.tp .imm 3 [encpattern .imm a0] 0 0, .int .i64 a1] [] = some (.tp .imm 3 [encpattern .imm r] 0 0, []) := by
 unfold m139r at h
 rw [evFL_at fn139 (Nat.le_of_ble_eq_true rfl) rfl (.inr rfl) ⟨rfl, rfl⟩]
 try simp -implicitDefEqProofs only [go_sem, i139, c139]
 cases b1 : (eqI a0.cell.kind 4 : Bool)
 · replace h := br_f b1 h
   try simp -implicitDefEqProofs only [go_sem, i139, c139, b1]
   obtain ⟨o, q70, h⟩ := bnd_some h
   rcases o with ⟨⟩ | v75
   · replace h := selS_l h
     have w71 := e139_1 rc hrc a0 a1 (eqI a0.cell.kind 3) (.inl ()) q70
     simp only [X139_1] at w71
     try simp -implicitDefEqProofs only [go_sem] at w71
     obtain ⟨r74, q72, h⟩ := bnd_some h
     have w73 := e150 1 [] r74 q72
     try simp -implicitDefEqProofs only [go_sem] at w73
     cases h
     simp -implicitDefEqProofs only [go_sem, i139, c139, b1, w71, w73]
   · replace h := selS_r h
     have w71 := e139_1 rc hrc a0 a1 (eqI a0.cell.kind 3) (.inr v75) q70
     simp only [X139_1] at w71
     try simp -implicitDefEqProofs only [go_sem] at w71
     cases h
     simp -implicitDefEqProofs only [go_sem, i139, c139, b1, w71]
 · replace h := br_t b1 h
   obtain ⟨r4, q2, h⟩ := bnd_some h
   have w3 := e150 2 [] r4 q2
   try simp -implicitDefEqProofs only [go_sem] at w3
   cases h
   simp -implicitDefEqProofs only [go_sem, i139, c139, b1, w3]
theorem e139k : ∀ (k : Nat) (a0 : pattern) (a1 : Int) (r : pattern) (h : m139k k a0 a1 = some r), evFL T 139 [.tp .imm 3 [encpattern .imm a0] 0 0, .int .i64 a1] [] = some (.tp .imm 3 [encpattern .imm r] 0 0, []) := by
 intro k
 induction k with
 | zero => intro a0 a1 r h; cases h
 | succ k ih => intro a0 a1 r h; exact e139r (m139k k) (fun a0 a1 r h => ih a0 a1 r h) a0 a1 r h
theorem e139 (a0 : pattern) (a1 : Int) (r : pattern) (h : m139 a0 a1 = some r) : evFL T 139 [.tp .imm 3 [encpattern .imm a0] 0 0, .int .i64 a1] [] = some (.tp .imm 3 [encpattern .imm r] 0 0, []) := by
 obtain ⟨N, hN⟩ := limO_iff.1 h
 exact e139k N a0 a1 r (hN N (Nat.le_refl N))
theorem call151 (args : List AV) (S : St) : evCall T (evFL T) 151 args S = lendC (evFL T 151) S (lendAll S [[0], [0], [0]] args) := evCall0 fn151 rfl rfl rfl args S
theorem callz151 (args : List AV) (S : St) : evCallFz T (evFL T) 151 args S = lendZ (evFL T 151) S [[0]] (lendAll S [[0], [0], [0]] args) := evCallFz0 fn151 rfl rfl rfl args S
attribute [go_sem] call151 callz151
theorem e151 (a0 : Int) (a1 : Int) (a2 : pattern) (r : Bool) (h : m151 a0 a1 a2 = some r) : evFL T 151 [.int .i64 a0, .int .i64 a1, .tp .imm 1 [[.tp .imm 3 [encpattern .imm a2] 0 0]] 0 0] [] = some (.bool r, []) := by
 unfold m151 at h
 rw [evFL_at fn151 (Nat.le_of_ble_eq_true rfl) rfl (.inr rfl) ⟨rfl, rfl⟩]
 obtain ⟨x1, q2, h⟩ := bnd_some h
 obtain ⟨g3, g4, g5⟩ := idx_row (encPpattern .imm) q2
 try simp -implicitDefEqProofs only [go_sem] at g4
 try simp -implicitDefEqProofs only [go_sem] at g5
 cases h
 simp -implicitDefEqProofs only [go_sem, i151, c151, g3, g4, g5]
theorem call153 (args : List AV) (S : St) : evCall T (evFL T) 153 args S = lendC (evFL T 153) S (lendAll S [[0]] args) := evCall0 fn153 rfl rfl rfl args S
theorem callz153 (args : List AV) (S : St) : evCallFz T (evFL T) 153 args S = lendZ (evFL T 153) S [[2]] (lendAll S [[0]] args) := evCallFz0 fn153 rfl rfl rfl args S
attribute [go_sem] call153 callz153
noncomputable def X153_1 (a0 : pattern) (p1 : Int) (o : (List ReCell)) : Ex × Fr × St :=
 (.exit 0, frOf 26 (upd anyF 3 (.sl 0 0 o.length)), [some ⟨.arr, 2, o.map encReCell⟩])
noncomputable def E153_1 (a0 : pattern) (p1 : Int) (s : (Int × List ReCell)) : Fr × St := (frOf 26 (upd (upd (upd (upd anyF 3 (.sl 0 0 s.2.length)) 14 (.ts .imm 1 (a0.parts.map (encPpattern .imm)))) 15 (.int .i64 p1)) 16 (.int .i64 s.1)), [some ⟨.arr, 2, s.2.map encReCell⟩])
theorem b153_1 (rc : pattern → Option (List ReCell)) (hrc : ∀ (a0 : pattern) (r : (List ReCell)), rc a0 = some r → evFL T 153 [.tp .imm 3 [encpattern .imm a0] 0 0] [] = some (.sl 0 0 r.length, [some ⟨.arr, 2, r.map encReCell⟩])) (a0 : pattern) (p1 : Int) (s : (Int × List ReCell)) (o : Ctl (Int × List ReCell) (List ReCell)) (h : m153_1b rc a0 p1 s = some o) : evCL T 0 k153_1b (E153_1 a0 p1 s).1 (E153_1 a0 p1 s).2 = some (ctlX (E153_1 a0 p1) (X153_1 a0 p1) o) := by
 unfold m153_1b at h
 obtain ⟨s13, s14⟩ := s
 replace h := sel2_some h
 try simp -implicitDefEqProofs only [go_sem, E153_1, X153_1, k153_1b]
 cases b15 : (ltI s13 p1 : Bool)
 · replace h := br_f b15 h
   cases h
   simp -implicitDefEqProofs only [go_sem, E153_1, X153_1, k153_1b, b15]
 · replace h := br_t b15 h
   obtain ⟨x16, q17, h⟩ := bnd_some h
   obtain ⟨g18, g19, g20⟩ := idx_row (encPpattern .imm) q17
   try simp -implicitDefEqProofs only [go_sem] at g19
   try simp -implicitDefEqProofs only [go_sem] at g20
   obtain ⟨r23, q21, h⟩ := bnd_some h
   have w22 := hrc x16 r23 q21
   try simp -implicitDefEqProofs only [go_sem] at w22
   obtain ⟨g24, h⟩ := ck_some h
   try simp -implicitDefEqProofs only [go_sem] at g24
   cases h
   simp -implicitDefEqProofs only [go_sem, E153_1, X153_1, k153_1b, b15, g18, g19, g20, w22, g24]
theorem e153_1 (rc : pattern → Option (List ReCell)) (hrc : ∀ (a0 : pattern) (r : (List ReCell)), rc a0 = some r → evFL T 153 [.tp .imm 3 [encpattern .imm a0] 0 0] [] = some (.sl 0 0 r.length, [some ⟨.arr, 2, r.map encReCell⟩])) (a0 : pattern) (p1 : Int) (s : (Int × List ReCell)) (o : (List ReCell)) (h : loopP (m153_1b rc a0 p1) s = some o) : evCL T 0 (.loop k153_1b) (E153_1 a0 p1 s).1 (E153_1 a0 p1 s).2 = some (X153_1 a0 p1 o) :=
 loop_walk (E := E153_1 a0 p1) (X := X153_1 a0 p1) (by intro b; (simp only [X153_1]; nofun)) (b153_1 rc hrc a0 p1) s o h
theorem e153r (rc : pattern → Option (List ReCell)) (hrc : ∀ (a0 : pattern) (r : (List ReCell)), rc a0 = some r → evFL T 153 [.tp .imm 3 [encpattern .imm a0] 0 0] [] = some (.sl 0 0 r.length, [some ⟨.arr, 2, r.map encReCell⟩])) (a0 : pattern) (r : (List ReCell)) (h : m153r rc a0 = some r) : evFL T 153 [.tp .imm 3 [encpattern .imm a0] 0 0] [] = some (.sl 0 0 r.length, [some ⟨.arr, 2, r.map encReCell⟩]) := by
 unfold m153r at h
 rw [evFL_at fn153 (Nat.le_of_ble_eq_true rfl) rfl (.inr rfl) ⟨rfl, rfl⟩]
 obtain ⟨v27, q25, h⟩ := bnd_some h
 have w26 := e153_1 rc hrc a0 (↑a0.parts.length : Int) (0, [a0.cell]) v27 q25
 simp only [E153_1, X153_1] at w26
 try simp -implicitDefEqProofs only [go_sem] at w26
 cases h
 simp -implicitDefEqProofs only [go_sem, i153, c153, w26]
theorem e153k : ∀ (k : Nat) (a0 : pattern) (r : (List ReCell)) (h : m153k k a0 = some r), evFL T 153 [.tp .imm 3 [encpattern .imm a0] 0 0] [] = some (.sl 0 0 r.length, [some ⟨.arr, 2, r.map encReCell⟩]) := by
 intro k
 induction k with
 | zero => intro a0 r h; cases h
 | succ k ih => intro a0 r h; exact e153r (m153k k) (fun a0 r h => ih a0 r h) a0 r h
theorem e153 (a0 : pattern) (r : (List ReCell)) (h : m153 a0 = some r) : evFL T 153 [.tp .imm 3 [encpattern .imm a0] 0 0] [] = some (.sl 0 0 r.length, [some ⟨.arr, 2, r.map encReCell⟩]) := by
 obtain ⟨N, hN⟩ := limO_iff.1 h
 exact e153k N a0 r (hN N (Nat.le_refl N))
theorem call152 (args : List AV) (S : St) : evCall T (evFL T) 152 args S = lendC (evFL T 152) S (lendAll S [[2], [2]] args) := evCall0 fn152 rfl rfl rfl args S
theorem callz152 (args : List AV) (S : St) : evCallFz T (evFL T) 152 args S = lendZ (evFL T 152) S [[0]] (lendAll S [[2], [2]] args) := evCallFz0 fn152 rfl rfl rfl args S
attribute [go_sem] call152 callz152
noncomputable def X152_1 (a0 : (List ReCell)) (a1 : (List ReCell)) (p2 : Int) (o : (Unit ⊕ Unit)) : Ex × Fr × St :=
 match o with
 | .inl o => (.exit 0, frOf 26 (anyF), [])
 | .inr o => (.ret, frOf 26 (upd anyF 4 (.bool false)), [])
noncomputable def E152_1 (a0 : (List ReCell)) (a1 : (List ReCell)) (p2 : Int) (s : Int) : Fr × St := (frOf 26 (upd (upd (upd (upd anyF 0 (.ts .imm 2 (a0.map encReCell))) 1 (.ts .imm 2 (a1.map encReCell))) 12 (.int .i64 p2)) 13 (.int .i64 s)), [])
theorem b152_1 (a0 : (List ReCell)) (a1 : (List ReCell)) (p2 : Int) (s : Int) (o : Ctl Int (Unit ⊕ Unit)) (h : m152_1b a0 a1 p2 s = some o) : evCL T 0 k152_1b (E152_1 a0 a1 p2 s).1 (E152_1 a0 a1 p2 s).2 = some (ctlX (E152_1 a0 a1 p2) (X152_1 a0 a1 p2) o) := by
 unfold m152_1b at h
 revert h
 generalize s = s15
 intro h
 try simp -implicitDefEqProofs only [go_sem, E152_1, X152_1, k152_1b]
 cases b16 : (ltI s15 p2 : Bool)
 · replace h := br_f b16 h
   cases h
   simp -implicitDefEqProofs only [go_sem, E152_1, X152_1, k152_1b, b16]
 · replace h := br_t b16 h
   obtain ⟨x17, q18, h⟩ := bnd_some h
   obtain ⟨g19, g20, g21⟩ := idx_row encReCell q18
   try simp -implicitDefEqProofs only [go_sem] at g20
   try simp -implicitDefEqProofs only [go_sem] at g21
   obtain ⟨x22, q23, h⟩ := bnd_some h
   obtain ⟨g24, g25, g26⟩ := idx_row encReCell q23
   try simp -implicitDefEqProofs only [go_sem] at g25
   try simp -implicitDefEqProofs only [go_sem] at g26
   try simp -implicitDefEqProofs only [go_sem, E152_1, X152_1, k152_1b, b16, g19, g20, g21, g24, g25, g26]
   cases b27 : (eqI x17.kind x22.kind && eqI x17.n x22.n : Bool)
   · replace h := br_f b27 h
     cases h
     simp -implicitDefEqProofs only [go_sem, E152_1, X152_1, k152_1b, b16, g19, g20, g21, g24, g25, g26, b27]
   · replace h := br_t b27 h
     cases h
     simp -implicitDefEqProofs only [go_sem, E152_1, X152_1, k152_1b, b16, g19, g20, g21, g24, g25, g26, b27]
theorem e152_1 (a0 : (List ReCell)) (a1 : (List ReCell)) (p2 : Int) (s : Int) (o : (Unit ⊕ Unit)) (h : loopP (m152_1b a0 a1 p2) s = some o) : evCL T 0 (.loop k152_1b) (E152_1 a0 a1 p2 s).1 (E152_1 a0 a1 p2 s).2 = some (X152_1 a0 a1 p2 o) :=
 loop_walk (E := E152_1 a0 a1 p2) (X := X152_1 a0 a1 p2) (by intro b; rcases b with b | b <;> (simp only [X152_1]; nofun)) (b152_1 a0 a1 p2) s o h
theorem e152 (a0 : (List ReCell)) (a1 : (List ReCell)) (r : Bool) (h : m152 a0 a1 = some r) : evFL T 152 [.ts .imm 2 (a0.map encReCell), .ts .imm 2 (a1.map encReCell)] [] = some (.bool r, []) := by
 unfold m152 at h
 rw [evFL_at fn152 (Nat.le_of_ble_eq_true rfl) rfl (.inr rfl) ⟨rfl, rfl⟩]
 try simp -implicitDefEqProofs only [go_sem, i152, c152]
 cases b1 : (eqI (↑a0.length : Int) (↑a1.length : Int) : Bool)
 · replace h := br_f b1 h
   cases h
   simp -implicitDefEqProofs only [go_sem, i152, c152, b1]
 · replace h := br_t b1 h
   try simp -implicitDefEqProofs only [go_sem, i152, c152, b1]
   obtain ⟨o, q28, h⟩ := bnd_some h
   rcases o with ⟨⟩ | ⟨⟩
   · replace h := selS_l h
     have w29 := e152_1 a0 a1 (↑a0.length : Int) 0 (.inl ()) q28
     simp only [E152_1, X152_1] at w29
     try simp -implicitDefEqProofs only [go_sem] at w29
     cases h
     simp -implicitDefEqProofs only [go_sem, i152, c152, b1, w29]
   · replace h := selS_r h
     have w29 := e152_1 a0 a1 (↑a0.length : Int) 0 (.inr ()) q28
     simp only [E152_1, X152_1] at w29
     try simp -implicitDefEqProofs only [go_sem] at w29
     cases h
     simp -implicitDefEqProofs only [go_sem, i152, c152, b1, w29]
theorem call140 (args : List AV) (S : St) : evCall T (evFL T) 140 args S = treeC false (evFL T 140) S args (lendAll S [[0]] args) := evCallT fn140 rfl rfl rfl args S
attribute [go_sem] call140
noncomputable def X140_1 (a0 : pattern) (p1 : Int) (o : (List pattern)) : Ex × Fr × St :=
 (.exit 0, frOf 125 (upd (upd anyF 0 (.tp .imm 3 [encpattern .imm a0] 0 0)) 3 (.ptr 0 0 0)), [some ⟨.box, 1, [[.ptr 1 0 0]]⟩, some ⟨.box, 3, [[.int .i64 a0.cell.kind, .int .i64 a0.cell.n, .sl 2 0 o.length]]⟩, some ⟨.arr, 1, o.map (encPpattern .imm)⟩])
noncomputable def E140_1 (a0 : pattern) (p1 : Int) (s : (Int × List pattern)) : Fr × St := (frOf 125 (upd (upd (upd (upd (upd anyF 0 (.tp .imm 3 [encpattern .imm a0] 0 0)) 3 (.ptr 0 0 0)) 16 (.ts .imm 1 (a0.parts.map (encPpattern .imm)))) 17 (.int .i64 p1)) 18 (.int .i64 s.1)), [some ⟨.box, 1, [[.ptr 1 0 0]]⟩, some ⟨.box, 3, [[.int .i64 a0.cell.kind, .int .i64 a0.cell.n, .sl 2 0 s.2.length]]⟩, some ⟨.arr, 1, s.2.map (encPpattern .imm)⟩])
theorem b140_1 (rc : pattern → Option pattern) (hrc : ∀ (a0 : pattern) (r : pattern), rc a0 = some r → evFL T 140 [.tp .imm 3 [encpattern .imm a0] 0 0] [] = some (.tp .imm 3 [encpattern .imm r] 0 0, [])) (a0 : pattern) (p1 : Int) (s : (Int × List pattern)) (o : Ctl (Int × List pattern) (List pattern)) (h : m140_1b rc a0 p1 s = some o) : evCL T 0 k140_1b (E140_1 a0 p1 s).1 (E140_1 a0 p1 s).2 = some (ctlX (E140_1 a0 p1) (X140_1 a0 p1) o) := by
 unfold m140_1b at h
 obtain ⟨s11, s12⟩ := s
 replace h := sel2_some h
 try simp -implicitDefEqProofs only [go_sem, E140_1, X140_1, k140_1b]
 cases b13 : (ltI s11 p1 : Bool)
 · replace h := br_f b13 h
   cases h
   simp -implicitDefEqProofs only [go_sem, E140_1, X140_1, k140_1b, b13]
 · replace h := br_t b13 h
   obtain ⟨x14, q15, h⟩ := bnd_some h
   obtain ⟨g16, g17, g18⟩ := idx_row (encPpattern .imm) q15
   try simp -implicitDefEqProofs only [go_sem] at g17
   try simp -implicitDefEqProofs only [go_sem] at g18
   obtain ⟨r21, q19, h⟩ := bnd_some h
   have w20 := hrc x14 r21 q19
   try simp -implicitDefEqProofs only [go_sem] at w20
   obtain ⟨g22, h⟩ := ck_some h
   try simp -implicitDefEqProofs only [go_sem] at g22
   cases h
   simp -implicitDefEqProofs only [go_sem, E140_1, X140_1, k140_1b, b13, g16, g17, g18, w20, g22]
theorem e140_1 (rc : pattern → Option pattern) (hrc : ∀ (a0 : pattern) (r : pattern), rc a0 = some r → evFL T 140 [.tp .imm 3 [encpattern .imm a0] 0 0] [] = some (.tp .imm 3 [encpattern .imm r] 0 0, [])) (a0 : pattern) (p1 : Int) (s : (Int × List pattern)) (o : (List pattern)) (h : loopP (m140_1b rc a0 p1) s = some o) : evCL T 0 (.loop k140_1b) (E140_1 a0 p1 s).1 (E140_1 a0 p1 s).2 = some (X140_1 a0 p1 o) :=
 loop_walk (E := E140_1 a0 p1) (X := X140_1 a0 p1) (by intro b; (simp only [X140_1]; nofun)) (b140_1 rc hrc a0 p1) s o h
noncomputable def X140_3 (p27 : pattern) (o : Bool) : Ex × Fr × St :=
 (.normal, frOf 125 (upd (upd (upd anyF 3 (.ptr 0 0 0)) 6 (.fn 151 [.ptr 0 0 0])) 42 (.bool o)), [some ⟨.box, 1, [[.tp .imm 3 [encpattern .imm p27] 0 0]]⟩])
theorem e140_3 (rc : pattern → Option pattern) (hrc : ∀ (a0 : pattern) (r : pattern), rc a0 = some r → evFL T 140 [.tp .imm 3 [encpattern .imm a0] 0 0] [] = some (.tp .imm 3 [encpattern .imm r] 0 0, [])) (p27 : pattern) (o : Bool) (h : m140_3 rc p27 = some o) : evCL T 0 k140_3 (frOf 125 (upd (upd anyF 3 (.ptr 0 0 0)) 6 (.fn 151 [.ptr 0 0 0]))) [some ⟨.box, 1, [[.tp .imm 3 [encpattern .imm p27] 0 0]]⟩] = some (X140_3 p27 o) := by
 unfold m140_3 at h
 obtain ⟨r31, q29, h⟩ := bnd_some h
 have w30 := e151 0 1 p27 r31 q29
 try simp -implicitDefEqProofs only [go_sem] at w30
 try simp -implicitDefEqProofs only [go_sem, X140_3, k140_3, w30]
 cases b32 : (r31 : Bool)
 · replace h := br_f b32 h
   obtain ⟨r35, q33, h⟩ := bnd_some h
   have w34 := e151 1 1 p27 r35 q33
   try simp -implicitDefEqProofs only [go_sem] at w34
   cases h
   simp -implicitDefEqProofs only [go_sem, X140_3, k140_3, w30, b32, w34]
 · replace h := br_t b32 h
   cases h
   simp -implicitDefEqProofs only [go_sem, X140_3, k140_3, w30, b32]
noncomputable def X140_5 (p27 : pattern) (o : Bool) : Ex × Fr × St :=
 (.normal, frOf 125 (upd (upd anyF 3 (.ptr 0 0 0)) 79 (.bool o)), [some ⟨.box, 1, [[.tp .imm 3 [encpattern .imm p27] 0 0]]⟩])
theorem e140_5 (rc : pattern → Option pattern) (hrc : ∀ (a0 : pattern) (r : pattern), rc a0 = some r → evFL T 140 [.tp .imm 3 [encpattern .imm a0] 0 0] [] = some (.tp .imm 3 [encpattern .imm r] 0 0, [])) (p27 : pattern) (o : Bool) (h : m140_5 rc p27 = some o) : evCL T 0 k140_5 (frOf 125 (upd (upd anyF 3 (.ptr 0 0 0)) 6 (.fn 151 [.ptr 0 0 0]))) [some ⟨.box, 1, [[.tp .imm 3 [encpattern .imm p27] 0 0]]⟩] = some (X140_5 p27 o) := by
 unfold m140_5 at h
 obtain ⟨r74, q72, h⟩ := bnd_some h
 have w73 := e151 1 1 p27 r74 q72
 try simp -implicitDefEqProofs only [go_sem] at w73
 try simp -implicitDefEqProofs only [go_sem, X140_5, k140_5, w73]
 cases b75 : (r74 : Bool)
 · replace h := br_f b75 h
   obtain ⟨x76, q77, h⟩ := bnd_some h
   obtain ⟨g78, g79, g80⟩ := idx_row (encPpattern .imm) q77
   try simp -implicitDefEqProofs only [go_sem] at g79
   try simp -implicitDefEqProofs only [go_sem] at g80
   obtain ⟨r83, q81, h⟩ := bnd_some h
   have w82 := e153 x76 r83 q81
   try simp -implicitDefEqProofs only [go_sem] at w82
   obtain ⟨x84, q85, h⟩ := bnd_some h
   obtain ⟨g86, g87, g88⟩ := idx_row (encPpattern .imm) q85
   try simp -implicitDefEqProofs only [go_sem] at g87
   try simp -implicitDefEqProofs only [go_sem] at g88
   obtain ⟨r91, q89, h⟩ := bnd_some h
   have w90 := e153 x84 r91 q89
   try simp -implicitDefEqProofs only [go_sem] at w90
   obtain ⟨r94, q92, h⟩ := bnd_some h
   have w93 := e152 r83 r91 r94 q92
   try simp -implicitDefEqProofs only [go_sem] at w93
   cases h
   simp -implicitDefEqProofs only [go_sem, X140_5, k140_5, w73, b75, g78, g79, g80, w82, g86, g87, g88, w90, w93]
 · replace h := br_t b75 h
   cases h
   simp -implicitDefEqProofs only [go_sem, X140_5, k140_5, w73, b75]
noncomputable def X140_7 (p27 : pattern) (o : Bool) : Ex × Fr × St :=
 (.normal, frOf 125 (upd (upd (upd anyF 3 (.ptr 0 0 0)) 6 (.fn 151 [.ptr 0 0 0])) 107 (.bool o)), [some ⟨.box, 1, [[.tp .imm 3 [encpattern .imm p27] 0 0]]⟩])
theorem e140_7 (rc : pattern → Option pattern) (hrc : ∀ (a0 : pattern) (r : pattern), rc a0 = some r → evFL T 140 [.tp .imm 3 [encpattern .imm a0] 0 0] [] = some (.tp .imm 3 [encpattern .imm r] 0 0, [])) (p27 : pattern) (o : Bool) (h : m140_7 rc p27 = some o) : evCL T 0 k140_7 (frOf 125 (upd (upd anyF 3 (.ptr 0 0 0)) 6 (.fn 151 [.ptr 0 0 0]))) [some ⟨.box, 1, [[.tp .imm 3 [encpattern .imm p27] 0 0]]⟩] = some (X140_7 p27 o) := by
 unfold m140_7 at h
 obtain ⟨r108, q106, h⟩ := bnd_some h
 have w107 := e151 0 1 p27 r108 q106
 try simp -implicitDefEqProofs only [go_sem] at w107
 try simp -implicitDefEqProofs only [go_sem, X140_7, k140_7, w107]
 cases b109 : (r108 : Bool)
 · replace h := br_f b109 h
   obtain ⟨r112, q110, h⟩ := bnd_some h
   have w111 := e151 0 2 p27 r112 q110
   try simp -implicitDefEqProofs only [go_sem] at w111
   cases h
   simp -implicitDefEqProofs only [go_sem, X140_7, k140_7, w107, b109, w111]
 · replace h := br_t b109 h
   cases h
   simp -implicitDefEqProofs only [go_sem, X140_7, k140_7, w107, b109]
noncomputable def X140_6 (p104 : Bool) (p27 : pattern) (o : (Unit ⊕ pattern)) : Ex × Fr × St :=
 match o with
 | .inl o => (.normal, frOf 125 (upd anyF 3 (.ptr 0 0 0)), [some ⟨.box, 1, [[.tp .imm 3 [encpattern .imm p27] 0 0]]⟩])
 | .inr o => (.ret, frOf 125 (upd anyF 2 (.tp .imm 3 [encpattern .imm o] 0 0)), [])
theorem e140_6 (rc : pattern → Option pattern) (hrc : ∀ (a0 : pattern) (r : pattern), rc a0 = some r → evFL T 140 [.tp .imm 3 [encpattern .imm a0] 0 0] [] = some (.tp .imm 3 [encpattern .imm r] 0 0, [])) (p104 : Bool) (p27 : pattern) (o : (Unit ⊕ pattern)) (h : m140_6 rc p104 p27 = some o) : evCL T 0 k140_6 (frOf 125 (upd (upd (upd anyF 3 (.ptr 0 0 0)) 6 (.fn 151 [.ptr 0 0 0])) 105 (.bool p104))) [some ⟨.box, 1, [[.tp .imm 3 [encpattern .imm p27] 0 0]]⟩] = some (X140_6 p104 p27 o) := by
 unfold m140_6 at h
 try simp -implicitDefEqProofs only [go_sem, X140_6, k140_6]
 cases b105 : (p104 : Bool)
 · replace h := br_f b105 h
   cases h
   simp -implicitDefEqProofs only [go_sem, X140_6, k140_6, b105]
 · replace h := br_t b105 h
   obtain ⟨v115, q113, h⟩ := bnd_some h
   have w114 := e140_7 rc hrc p27 v115 q113
   simp only [X140_7] at w114
   try simp -implicitDefEqProofs only [go_sem] at w114
   try simp -implicitDefEqProofs only [go_sem, X140_6, k140_6, b105, w114]
   cases b116 : (v115 : Bool)
   · replace h := br_f b116 h
     obtain ⟨r122, q120, h⟩ := bnd_some h
     have w121 := e151 0 7 p27 r122 q120
     try simp -implicitDefEqProofs only [go_sem] at w121
     try simp -implicitDefEqProofs only [go_sem, X140_6, k140_6, b105, w114, b116, w121]
     cases b123 : (r122 : Bool)
     · replace h := br_f b123 h
       cases h
       simp -implicitDefEqProofs only [go_sem, X140_6, k140_6, b105, w114, b116, w121, b123]
     · replace h := br_t b123 h
       obtain ⟨x124, q125, h⟩ := bnd_some h
       obtain ⟨g126, g127, g128⟩ := idx_row (encPpattern .imm) q125
       try simp -implicitDefEqProofs only [go_sem] at g127
       try simp -implicitDefEqProofs only [go_sem] at g128
       cases h
       simp -implicitDefEqProofs only [go_sem, X140_6, k140_6, b105, w114, b116, w121, b123, g126, g127, g128]
   · replace h := br_t b116 h
     obtain ⟨r119, q117, h⟩ := bnd_some h
     have w118 := e150 2 [] r119 q117
     try simp -implicitDefEqProofs only [go_sem] at w118
     cases h
     simp -implicitDefEqProofs only [go_sem, X140_6, k140_6, b105, w114, b116, w118]
noncomputable def X140_4 (a0 : pattern) (p61 : Bool) (p27 : pattern) (o : (Unit ⊕ pattern)) : Ex × Fr × St :=
 match o with
 | .inl o => (.normal, frOf 125 (upd anyF 3 (.ptr 0 0 0)), [some ⟨.box, 1, [[.tp .imm 3 [encpattern .imm p27] 0 0]]⟩])
 | .inr o => (.ret, frOf 125 (upd anyF 2 (.tp .imm 3 [encpattern .imm o] 0 0)), [])
theorem e140_4 (rc : pattern → Option pattern) (hrc : ∀ (a0 : pattern) (r : pattern), rc a0 = some r → evFL T 140 [.tp .imm 3 [encpattern .imm a0] 0 0] [] = some (.tp .imm 3 [encpattern .imm r] 0 0, [])) (a0 : pattern) (p61 : Bool) (p27 : pattern) (o : (Unit ⊕ pattern)) (h : m140_4 rc a0 p61 p27 = some o) : evCL T 0 k140_4 (frOf 125 (upd (upd (upd (upd anyF 3 (.ptr 0 0 0)) 6 (.fn 151 [.ptr 0 0 0])) 39 (.int .i64 a0.cell.kind)) 68 (.bool p61))) [some ⟨.box, 1, [[.tp .imm 3 [encpattern .imm p27] 0 0]]⟩] = some (X140_4 a0 p61 p27 o) := by
 unfold m140_4 at h
 try simp -implicitDefEqProofs only [go_sem, X140_4, k140_4]
 cases b62 : (p61 : Bool)
 · replace h := br_f b62 h
   try simp -implicitDefEqProofs only [go_sem, X140_4, k140_4, b62]
   obtain ⟨o, q129, h⟩ := bnd_some h
   rcases o with ⟨⟩ | v131
   · replace h := selS_l h
     have w130 := e140_6 rc hrc (eqI a0.cell.kind 7) p27 (.inl ()) q129
     simp only [X140_6] at w130
     try simp -implicitDefEqProofs only [go_sem] at w130
     cases h
     simp -implicitDefEqProofs only [go_sem, X140_4, k140_4, b62, w130]
   · replace h := selS_r h
     have w130 := e140_6 rc hrc (eqI a0.cell.kind 7) p27 (.inr v131) q129
     simp only [X140_6] at w130
     try simp -implicitDefEqProofs only [go_sem] at w130
     cases h
     simp -implicitDefEqProofs only [go_sem, X140_4, k140_4, b62, w130]
 · replace h := br_t b62 h
   obtain ⟨r65, q63, h⟩ := bnd_some h
   have w64 := e151 0 1 p27 r65 q63
   try simp -implicitDefEqProofs only [go_sem] at w64
   try simp -implicitDefEqProofs only [go_sem, X140_4, k140_4, b62, w64]
   cases b66 : (r65 : Bool)
   · replace h := br_f b66 h
     obtain ⟨v97, q95, h⟩ := bnd_some h
     have w96 := e140_5 rc hrc p27 v97 q95
     simp only [X140_5] at w96
     try simp -implicitDefEqProofs only [go_sem] at w96
     try simp -implicitDefEqProofs only [go_sem, X140_4, k140_4, b62, w64, b66, w96]
     cases b98 : (v97 : Bool)
     · replace h := br_f b98 h
       cases h
       simp -implicitDefEqProofs only [go_sem, X140_4, k140_4, b62, w64, b66, w96, b98]
     · replace h := br_t b98 h
       obtain ⟨x99, q100, h⟩ := bnd_some h
       obtain ⟨g101, g102, g103⟩ := idx_row (encPpattern .imm) q100
       try simp -implicitDefEqProofs only [go_sem] at g102
       try simp -implicitDefEqProofs only [go_sem] at g103
       cases h
       simp -implicitDefEqProofs only [go_sem, X140_4, k140_4, b62, w64, b66, w96, b98, g101, g102, g103]
   · replace h := br_t b66 h
     obtain ⟨x67, q68, h⟩ := bnd_some h
     obtain ⟨g69, g70, g71⟩ := idx_row (encPpattern .imm) q68
     try simp -implicitDefEqProofs only [go_sem] at g70
     try simp -implicitDefEqProofs only [go_sem] at g71
     cases h
     simp -implicitDefEqProofs only [go_sem, X140_4, k140_4, b62, w64, b66, g69, g70, g71]
noncomputable def X140_2 (a0 : pattern) (p26 : Bool) (p27 : pattern) (o : (Unit ⊕ pattern)) : Ex × Fr × St :=
 match o with
 | .inl o => (.normal, frOf 125 (upd anyF 3 (.ptr 0 0 0)), [some ⟨.box, 1, [[.tp .imm 3 [encpattern .imm p27] 0 0]]⟩])
 | .inr o => (.ret, frOf 125 (upd anyF 2 (.tp .imm 3 [encpattern .imm o] 0 0)), [])
theorem e140_2 (rc : pattern → Option pattern) (hrc : ∀ (a0 : pattern) (r : pattern), rc a0 = some r → evFL T 140 [.tp .imm 3 [encpattern .imm a0] 0 0] [] = some (.tp .imm 3 [encpattern .imm r] 0 0, [])) (a0 : pattern) (p26 : Bool) (p27 : pattern) (o : (Unit ⊕ pattern)) (h : m140_2 rc a0 p26 p27 = some o) : evCL T 0 k140_2 (frOf 125 (upd (upd (upd (upd anyF 3 (.ptr 0 0 0)) 6 (.fn 151 [.ptr 0 0 0])) 39 (.int .i64 a0.cell.kind)) 40 (.bool p26))) [some ⟨.box, 1, [[.tp .imm 3 [encpattern .imm p27] 0 0]]⟩] = some (X140_2 a0 p26 p27 o) := by
 unfold m140_2 at h
 try simp -implicitDefEqProofs only [go_sem, X140_2, k140_2]
 cases b28 : (p26 : Bool)
 · replace h := br_f b28 h
   try simp -implicitDefEqProofs only [go_sem, X140_2, k140_2, b28]
   obtain ⟨o, q132, h⟩ := bnd_some h
   rcases o with ⟨⟩ | v134
   · replace h := selS_l h
     have w133 := e140_4 rc hrc a0 (eqI a0.cell.kind 6) p27 (.inl ()) q132
     simp only [X140_4] at w133
     try simp -implicitDefEqProofs only [go_sem] at w133
     cases h
     simp -implicitDefEqProofs only [go_sem, X140_2, k140_2, b28, w133]
   · replace h := selS_r h
     have w133 := e140_4 rc hrc a0 (eqI a0.cell.kind 6) p27 (.inr v134) q132
     simp only [X140_4] at w133
     try simp -implicitDefEqProofs only [go_sem] at w133
     cases h
     simp -implicitDefEqProofs only [go_sem, X140_2, k140_2, b28, w133]
 · replace h := br_t b28 h
   obtain ⟨v38, q36, h⟩ := bnd_some h
   have w37 := e140_3 rc hrc p27 v38 q36
   simp only [X140_3] at w37
   try simp -implicitDefEqProofs only [go_sem] at w37
   try simp -implicitDefEqProofs only [go_sem, X140_2, k140_2, b28, w37]
   cases b39 : (v38 : Bool)
   · replace h := br_f b39 h
     obtain ⟨r45, q43, h⟩ := bnd_some h
     have w44 := e151 0 2 p27 r45 q43
     try simp -implicitDefEqProofs only [go_sem] at w44
     try simp -implicitDefEqProofs only [go_sem, X140_2, k140_2, b28, w37, b39, w44]
     cases b46 : (r45 : Bool)
     · replace h := br_f b46 h
       obtain ⟨r54, q52, h⟩ := bnd_some h
       have w53 := e151 1 2 p27 r54 q52
       try simp -implicitDefEqProofs only [go_sem] at w53
       try simp -implicitDefEqProofs only [go_sem, X140_2, k140_2, b28, w37, b39, w44, b46, w53]
       cases b55 : (r54 : Bool)
       · replace h := br_f b55 h
         cases h
         simp -implicitDefEqProofs only [go_sem, X140_2, k140_2, b28, w37, b39, w44, b46, w53, b55]
       · replace h := br_t b55 h
         obtain ⟨x56, q57, h⟩ := bnd_some h
         obtain ⟨g58, g59, g60⟩ := idx_row (encPpattern .imm) q57
         try simp -implicitDefEqProofs only [go_sem] at g59
         try simp -implicitDefEqProofs only [go_sem] at g60
         cases h
         simp -implicitDefEqProofs only [go_sem, X140_2, k140_2, b28, w37, b39, w44, b46, w53, b55, g58, g59, g60]
     · replace h := br_t b46 h
       obtain ⟨x47, q48, h⟩ := bnd_some h
       obtain ⟨g49, g50, g51⟩ := idx_row (encPpattern .imm) q48
       try simp -implicitDefEqProofs only [go_sem] at g50
       try simp -implicitDefEqProofs only [go_sem] at g51
       cases h
       simp -implicitDefEqProofs only [go_sem, X140_2, k140_2, b28, w37, b39, w44, b46, g49, g50, g51]
   · replace h := br_t b39 h
     obtain ⟨r42, q40, h⟩ := bnd_some h
     have w41 := e150 1 [] r42 q40
     try simp -implicitDefEqProofs only [go_sem] at w41
     cases h
     simp -implicitDefEqProofs only [go_sem, X140_2, k140_2, b28, w37, b39, w41]
theorem e140r (rc : pattern → Option pattern) (hrc : ∀ (a0 : pattern) (r : pattern), rc a0 = some r → evFL T 140 [.tp .imm 3 [encpattern .imm a0] 0 0] [] = some (.tp .imm 3 [encpattern .imm r] 0 0, [])) (a0 : pattern) (r : pattern) (h : m140r rc a0 = some r) : evFL T 140 [.tp .imm 3 [encpattern .imm a0] 0 0] [] = some (.tp .imm 3 [encpattern .imm r] 0 0, []) := by
 unfold m140r at h
 rw [evFL_at fn140 (Nat.le_of_ble_eq_true rfl) rfl (.inr rfl) ⟨rfl, rfl⟩]
 obtain ⟨v25, q23, h⟩ := bnd_some h
 have w24 := e140_1 rc hrc a0 (↑a0.parts.length : Int) (0, []) v25 q23
 simp only [E140_1, X140_1] at w24
 try simp -implicitDefEqProofs only [go_sem] at w24
 try simp -implicitDefEqProofs only [go_sem, i140, c140, w24]
 obtain ⟨o, q135, h⟩ := bnd_some h
 rcases o with ⟨⟩ | v137
 · replace h := selS_l h
   have w136 := e140_2 rc hrc a0 (eqI a0.cell.kind 5) (⟨a0.cell, v25⟩ : pattern) (.inl ()) q135
   simp only [X140_2] at w136
   try simp -implicitDefEqProofs only [go_sem] at w136
   cases h
   simp -implicitDefEqProofs only [go_sem, i140, c140, w24, w136]
 · replace h := selS_r h
   have w136 := e140_2 rc hrc a0 (eqI a0.cell.kind 5) (⟨a0.cell, v25⟩ : pattern) (.inr v137) q135
   simp only [X140_2] at w136
   try simp -implicitDefEqProofs only [go_sem] at w136
   cases h
   simp -implicitDefEqProofs only [go_sem, i140, c140, w24, w136]
theorem e140k : ∀ (k : Nat) (a0 : pattern) (r : pattern) (h : m140k k a0 = some r), evFL T 140 [.tp .imm 3 [encpattern .imm a0] 0 0] [] = some (.tp .imm 3 [encpattern .imm r] 0 0, []) := by
 intro k
 induction k with
 | zero => intro a0 r h; cases h
 | succ k ih => intro a0 r h; exact e140r (m140k k) (fun a0 r h => ih a0 r h) a0 r h
theorem e140 (a0 : pattern) (r : pattern) (h : m140 a0 = some r) : evFL T 140 [.tp .imm 3 [encpattern .imm a0] 0 0] [] = some (.tp .imm 3 [encpattern .imm r] 0 0, []) := by
 obtain ⟨N, hN⟩ := limO_iff.1 h
 exact e140k N a0 r (hN N (Nat.le_refl N))
theorem call115 (args : List AV) (S : St) : evCall T (evFL T) 115 args S = lendC (evFL T 115) S (lendAll S [[2], [1]] args) := evCall0 fn115 rfl rfl rfl args S
theorem callz115 (args : List AV) (S : St) : evCallFz T (evFL T) 115 args S = lendZ (evFL T 115) S [[0]] (lendAll S [[2], [1]] args) := evCallFz0 fn115 rfl rfl rfl args S
attribute [go_sem] call115 callz115
noncomputable def X115_1 (a1 : (List Int)) (p5 : Int) (o : pattern) : Ex × Fr × St :=
 (.exit 0, frOf 27 (upd anyF 5 (.tp .imm 3 [encpattern .imm o] 0 0)), [])
noncomputable def E115_1 (a1 : (List Int)) (p5 : Int) (s : (pattern × Int)) : Fr × St := (frOf 27 (upd (upd (upd (upd anyF 5 (.tp .imm 3 [encpattern .imm s.1] 0 0)) 14 (.ts .imm 1 (a1.map encInt))) 15 (.int .i64 p5)) 16 (.int .i64 s.2)), [])
theorem b115_1 (a1 : (List Int)) (p5 : Int) (s : (pattern × Int)) (o : Ctl (pattern × Int) pattern) (h : m115_1b a1 p5 s = some o) : evCL T 0 k115_1b (E115_1 a1 p5 s).1 (E115_1 a1 p5 s).2 = some (ctlX (E115_1 a1 p5) (X115_1 a1 p5) o) := by
 unfold m115_1b at h
 obtain ⟨s18, s19⟩ := s
 replace h := sel2_some h
 try simp -implicitDefEqProofs only [go_sem, E115_1, X115_1, k115_1b]
 cases b20 : (ltI s19 p5 : Bool)
 · replace h := br_f b20 h
   cases h
   simp -implicitDefEqProofs only [go_sem, E115_1, X115_1, k115_1b, b20]
 · replace h := br_t b20 h
   obtain ⟨x21, q22, h⟩ := bnd_some h
   obtain ⟨g23, g24, g25⟩ := idx_row encInt q22
   try simp -implicitDefEqProofs only [go_sem] at g24
   try simp -implicitDefEqProofs only [go_sem] at g25
   obtain ⟨r28, q26, h⟩ := bnd_some h
   have w27 := e139 s18 x21 r28 q26
   try simp -implicitDefEqProofs only [go_sem] at w27
   obtain ⟨r31, q29, h⟩ := bnd_some h
   have w30 := e140 r28 r31 q29
   try simp -implicitDefEqProofs only [go_sem] at w30
   cases h
   simp -implicitDefEqProofs only [go_sem, E115_1, X115_1, k115_1b, b20, g23, g24, g25, w27, w30]
theorem e115_1 (a1 : (List Int)) (p5 : Int) (s : (pattern × Int)) (o : pattern) (h : loopP (m115_1b a1 p5) s = some o) : evCL T 0 (.loop k115_1b) (E115_1 a1 p5 s).1 (E115_1 a1 p5 s).2 = some (X115_1 a1 p5 o) :=
 loop_walk (E := E115_1 a1 p5) (X := X115_1 a1 p5) (by intro b; (simp only [X115_1]; nofun)) (b115_1 a1 p5) s o h
theorem e115 (a0 : (List ReCell)) (a1 : (List Int)) (r : Bool) (h : m115 a0 a1 = some r) : evFL T 115 [.ts .imm 2 (a0.map encReCell), .ts .imm 1 (a1.map encInt)] [] = some (.bool r, []) := by
 unfold m115 at h
 rw [evFL_at fn115 (Nat.le_of_ble_eq_true rfl) rfl (.inr rfl) ⟨rfl, rfl⟩]
 obtain ⟨⟨r3, r4⟩, q1, h⟩ := bnd_some h
 replace h := sel2_some h
 have w2 := e138 a0 (r3, r4) q1
 try simp -implicitDefEqProofs only [go_sem] at w2
 obtain ⟨v34, q32, h⟩ := bnd_some h
 have w33 := e115_1 a1 (↑a1.length : Int) (r3, 0) v34 q32
 simp only [E115_1, X115_1] at w33
 try simp -implicitDefEqProofs only [go_sem] at w33
 obtain ⟨r37, q35, h⟩ := bnd_some h
 have w36 := e141 v34 r37 q35
 try simp -implicitDefEqProofs only [go_sem] at w36
 cases h
 simp -implicitDefEqProofs only [go_sem, i115, c115, w2, w33, w36]
theorem call149 (args : List AV) (S : St) : evCall T (evFL T) 149 args S = lendC (evFL T 149) S (lendAll S [[0, 0]] args) := evCall0 fn149 rfl rfl rfl args S
theorem callz149 (args : List AV) (S : St) : evCallFz T (evFL T) 149 args S = lendZ (evFL T 149) S [[0]] (lendAll S [[0, 0]] args) := evCallFz0 fn149 rfl rfl rfl args S
attribute [go_sem] call149 callz149
theorem e149 (a0 : Prefix) (r : Int) (h : m149 a0 = some r) : evFL T 149 [.agg [.int .i64 a0.addr, .int .i64 a0.len]] [] = some (.int .i64 r, []) := by
 unfold m149 at h
 rw [evFL_at fn149 (Nat.le_of_ble_eq_true rfl) rfl (.inr rfl) ⟨rfl, rfl⟩]
 obtain ⟨r3, q1, h⟩ := bnd_some h
 have w2 := e77 a0.len r3 q1
 try simp -implicitDefEqProofs only [go_sem] at w2
 cases h
 simp -implicitDefEqProofs only [go_sem, i149, c149, w2]
theorem call137 (args : List AV) (S : St) : evCall T (evFL T) 137 args S = lendC (evFL T 137) S (lendAll S [[0, 0], [0]] args) := evCall0 fn137 rfl rfl rfl args S
theorem callz137 (args : List AV) (S : St) : evCallFz T (evFL T) 137 args S = lendZ (evFL T 137) S [[0]] (lendAll S [[0, 0], [0]] args) := evCallFz0 fn137 rfl rfl rfl args S
attribute [go_sem] call137 callz137
theorem e137 (a0 : Prefix) (a1 : Int) (r : Bool) (h : m137 a0 a1 = some r) : evFL T 137 [.agg [.int .i64 a0.addr, .int .i64 a0.len], .int .i64 a1] [] = some (.bool r, []) := by
 unfold m137 at h
 rw [evFL_at fn137 (Nat.le_of_ble_eq_true rfl) rfl (.inr rfl) ⟨rfl, rfl⟩]
 obtain ⟨r3, q1, h⟩ := bnd_some h
 have w2 := e149 a0 r3 q1
 try simp -implicitDefEqProofs only [go_sem] at w2
 obtain ⟨r6, q4, h⟩ := bnd_some h
 have w5 := e75 a1 a0.addr r3 r6 q4
 try simp -implicitDefEqProofs only [go_sem] at w5
 cases h
 simp -implicitDefEqProofs only [go_sem, i137, c137, w2, w5]
theorem call114 (args : List AV) (S : St) : evCall T (evFL T) 114 args S = lendC (evFL T 114) S (lendAll S [[0, 0], [0, 0]] args) := evCall0 fn114 rfl rfl rfl args S
theorem callz114 (args : List AV) (S : St) : evCallFz T (evFL T) 114 args S = lendZ (evFL T 114) S [[0]] (lendAll S [[0, 0], [0, 0]] args) := evCallFz0 fn114 rfl rfl rfl args S
attribute [go_sem] call114 callz114
noncomputable def X114_1 (a0 : Prefix) (a1 : Prefix) (o : Bool) : Ex × Fr × St :=
 (.normal, frOf 16 (upd anyF 4 (.bool o)), [])
theorem e114_1 (a0 : Prefix) (a1 : Prefix) (o : Bool) (h : m114_1 a0 a1 = some o) : evCL T 0 k114_1 (frOf 16 (upd (upd anyF 2 (.ptr 0 0 0)) 3 (.ptr 1 0 0))) [some ⟨.box, 2, [[.int .i64 a0.addr, .int .i64 a0.len]]⟩, some ⟨.box, 2, [[.int .i64 a1.addr, .int .i64 a1.len]]⟩] = some (X114_1 a0 a1 o) := by
 unfold m114_1 at h
 try simp -implicitDefEqProofs only [go_sem, X114_1, k114_1]
 cases b1 : (leI a0.len a1.len : Bool)
 · replace h := br_f b1 h
   cases h
   simp -implicitDefEqProofs only [go_sem, X114_1, k114_1, b1]
 · replace h := br_t b1 h
   obtain ⟨r4, q2, h⟩ := bnd_some h
   have w3 := e137 a0 a1.addr r4 q2
   try simp -implicitDefEqProofs only [go_sem] at w3
   cases h
   simp -implicitDefEqProofs only [go_sem, X114_1, k114_1, b1, w3]
theorem e114 (a0 : Prefix) (a1 : Prefix) (r : Bool) (h : m114 a0 a1 = some r) : evFL T 114 [.agg [.int .i64 a0.addr, .int .i64 a0.len], .agg [.int .i64 a1.addr, .int .i64 a1.len]] [] = some (.bool r, []) := by
 unfold m114 at h
 rw [evFL_at fn114 (Nat.le_of_ble_eq_true rfl) rfl (.inr rfl) ⟨rfl, rfl⟩]
 obtain ⟨v7, q5, h⟩ := bnd_some h
 have w6 := e114_1 a0 a1 v7 q5
 simp only [X114_1] at w6
 try simp -implicitDefEqProofs only [go_sem] at w6
 cases h
 simp -implicitDefEqProofs only [go_sem, i114, c114, w6]
theorem call113 (args : List AV) (S : St) : evCall T (evFL T) 113 args S = lendC (evFL T 113) S (lendAll S [[0, 0, 0, 0], [0]] args) := evCall0 fn113 rfl rfl rfl args S
theorem callz113 (args : List AV) (S : St) : evCallFz T (evFL T) 113 args S = lendZ (evFL T 113) S [[0]] (lendAll S [[0, 0, 0, 0], [0]] args) := evCallFz0 fn113 rfl rfl rfl args S
attribute [go_sem] call113 callz113
noncomputable def X113_1 (a1 : Route) (a0 : Range) (o : Bool) : Ex × Fr × St :=
 (.normal, frOf 19 (upd anyF 3 (.bool o)), [])
theorem e113_1 (a1 : Route) (a0 : Range) (o : Bool) (h : m113_1 a1 a0 = some o) : evCL T 0 k113_1 (frOf 19 (upd (upd anyF 1 (.tp .imm 8 [[.int .i64 a1.prefix_.addr, .int .i64 a1.prefix_.len, .int .i64 a1.attrs.origin, .ts .imm 1 (a1.attrs.path.map encInt), .int .i64 a1.attrs.next, .int .i64 a1.attrs.med, .int .i64 a1.attrs.pref, .ts .imm 1 (a1.attrs.comms.map encInt)]] 0 0)) 2 (.ptr 0 0 0))) [some ⟨.box, 4, [[.int .i64 a0.prefix_.addr, .int .i64 a0.prefix_.len, .int .i64 a0.lo, .int .i64 a0.hi]]⟩] = some (X113_1 a1 a0 o) := by
 unfold m113_1 at h
 obtain ⟨r3, q1, h⟩ := bnd_some h
 have w2 := e114 a0.prefix_ a1.prefix_ r3 q1
 try simp -implicitDefEqProofs only [go_sem] at w2
 try simp -implicitDefEqProofs only [go_sem, X113_1, k113_1, w2]
 cases b4 : (r3 : Bool)
 · replace h := br_f b4 h
   cases h
   simp -implicitDefEqProofs only [go_sem, X113_1, k113_1, w2, b4]
 · replace h := br_t b4 h
   obtain ⟨r7, q5, h⟩ := bnd_some h
   have w6 := e75 a1.prefix_.len a0.lo a0.hi r7 q5
   try simp -implicitDefEqProofs only [go_sem] at w6
   cases h
   simp -implicitDefEqProofs only [go_sem, X113_1, k113_1, w2, b4, w6]
theorem e113 (a0 : Range) (a1 : Route) (r : Bool) (h : m113 a0 a1 = some r) : evFL T 113 [.agg [.int .i64 a0.prefix_.addr, .int .i64 a0.prefix_.len, .int .i64 a0.lo, .int .i64 a0.hi], .tp .imm 8 [[.int .i64 a1.prefix_.addr, .int .i64 a1.prefix_.len, .int .i64 a1.attrs.origin, .ts .imm 1 (a1.attrs.path.map encInt), .int .i64 a1.attrs.next, .int .i64 a1.attrs.med, .int .i64 a1.attrs.pref, .ts .imm 1 (a1.attrs.comms.map encInt)]] 0 0] [] = some (.bool r, []) := by
 unfold m113 at h
 rw [evFL_at fn113 (Nat.le_of_ble_eq_true rfl) rfl (.inr rfl) ⟨rfl, rfl⟩]
 obtain ⟨v10, q8, h⟩ := bnd_some h
 have w9 := e113_1 a1 a0 v10 q8
 simp only [X113_1] at w9
 try simp -implicitDefEqProofs only [go_sem] at w9
 cases h
 simp -implicitDefEqProofs only [go_sem, i113, c113, w9]
theorem call66 (args : List AV) (S : St) : evCall T (evFL T) 66 args S = lendC (evFL T 66) S (lendAll S [[4, 2, 0, 2, 0], [0, 0, 0, 1, 0, 0, 0, 1]] args) := evCall0 fn66 rfl rfl rfl args S
theorem callz66 (args : List AV) (S : St) : evCallFz T (evFL T) 66 args S = lendZ (evFL T 66) S [[0]] (lendAll S [[4, 2, 0, 2, 0], [0, 0, 0, 1, 0, 0, 0, 1]] args) := evCallFz0 fn66 rfl rfl rfl args S
attribute [go_sem] call66 callz66
noncomputable def X66_1 (a0 : Term) (a1 : Route) (o : Bool) : Ex × Fr × St :=
 (.normal, frOf 44 (upd anyF 4 (.bool o)), [])
theorem e66_1 (a0 : Term) (a1 : Route) (o : Bool) (h : m66_1 a0 a1 = some o) : evCL T 0 k66_1 (frOf 44 (upd (upd (upd anyF 2 (.ptr 0 0 0)) 3 (.ptr 1 0 0)) 5 (.fn 113 [.ptr 1 0 0]))) [some ⟨.box, 5, [[.ts .imm 4 (a0.ranges.map encRange), .ts .imm 2 (a0.path.map encReCell), .int .i64 a0.comm, .ts .imm 2 (a0.acts.map encAcn), .int .i64 a0.verdict]]⟩, some ⟨.box, 8, [[.int .i64 a1.prefix_.addr, .int .i64 a1.prefix_.len, .int .i64 a1.attrs.origin, .ts .imm 1 (a1.attrs.path.map encInt), .int .i64 a1.attrs.next, .int .i64 a1.attrs.med, .int .i64 a1.attrs.pref, .ts .imm 1 (a1.attrs.comms.map encInt)]]⟩] = some (X66_1 a0 a1 o) := by
 unfold m66_1 at h
 try simp -implicitDefEqProofs only [go_sem, X66_1, k66_1]
 cases b1 : (eqI (↑a0.ranges.length : Int) 0 : Bool)
 · replace h := br_f b1 h
   obtain ⟨r17, q15, h⟩ := bnd_some h
   have w16 := e85 a0.ranges (fun y0 => m113 y0 a1) 113 [.tp .imm 8 [[.int .i64 a1.prefix_.addr, .int .i64 a1.prefix_.len, .int .i64 a1.attrs.origin, .ts .imm 1 (a1.attrs.path.map encInt), .int .i64 a1.attrs.next, .int .i64 a1.attrs.med, .int .i64 a1.attrs.pref, .ts .imm 1 (a1.attrs.comms.map encInt)]] 0 0] ⟨⟨fun S => by simp -implicitDefEqProofs only [go_sem], fun _ _ _ _ _ _ => by simp -implicitDefEqProofs only [go_sem]⟩, fun y0 r h => ⟨fun S => by simp -implicitDefEqProofs only [go_sem, e113 y0 a1 r h], fun S => by simp -implicitDefEqProofs only [go_sem, e113 y0 a1 r h]⟩⟩ r17 q15
   try simp -implicitDefEqProofs only [go_sem] at w16
   try simp -implicitDefEqProofs only [go_sem, X66_1, k66_1, b1, w16]
   cases b18 : (r17 : Bool)
   · replace h := br_f b18 h
     cases h
     simp -implicitDefEqProofs only [go_sem, X66_1, k66_1, b1, w16, b18]
   · replace h := br_t b18 h
     try simp -implicitDefEqProofs only [go_sem, X66_1, k66_1, b1, w16, b18]
     cases b19 : (eqI (↑a0.path.length : Int) 0 : Bool)
     · replace h := br_f b19 h
       obtain ⟨r26, q24, h⟩ := bnd_some h
       have w25 := e115 a0.path a1.attrs.path r26 q24
       try simp -implicitDefEqProofs only [go_sem] at w25
       try simp -implicitDefEqProofs only [go_sem, X66_1, k66_1, b1, w16, b18, b19, w25]
       cases b27 : (r26 : Bool)
       · replace h := br_f b27 h
         cases h
         simp -implicitDefEqProofs only [go_sem, X66_1, k66_1, b1, w16, b18, b19, w25, b27]
       · replace h := br_t b27 h
         try simp -implicitDefEqProofs only [go_sem, X66_1, k66_1, b1, w16, b18, b19, w25, b27]
         cases b28 : (eqI a0.comm (-1) : Bool)
         · replace h := br_f b28 h
           obtain ⟨r31, q29, h⟩ := bnd_some h
           have w30 := e116 a1.attrs.comms a0.comm r31 q29
           try simp -implicitDefEqProofs only [go_sem] at w30
           cases h
           simp -implicitDefEqProofs only [go_sem, X66_1, k66_1, b1, w16, b18, b19, w25, b27, b28, w30]
         · replace h := br_t b28 h
           cases h
           simp -implicitDefEqProofs only [go_sem, X66_1, k66_1, b1, w16, b18, b19, w25, b27, b28]
     · replace h := br_t b19 h
       try simp -implicitDefEqProofs only [go_sem, X66_1, k66_1, b1, w16, b18, b19]
       cases b20 : (eqI a0.comm (-1) : Bool)
       · replace h := br_f b20 h
         obtain ⟨r23, q21, h⟩ := bnd_some h
         have w22 := e116 a1.attrs.comms a0.comm r23 q21
         try simp -implicitDefEqProofs only [go_sem] at w22
         cases h
         simp -implicitDefEqProofs only [go_sem, X66_1, k66_1, b1, w16, b18, b19, b20, w22]
       · replace h := br_t b20 h
         cases h
         simp -implicitDefEqProofs only [go_sem, X66_1, k66_1, b1, w16, b18, b19, b20]
 · replace h := br_t b1 h
   try simp -implicitDefEqProofs only [go_sem, X66_1, k66_1, b1]
   cases b2 : (eqI (↑a0.path.length : Int) 0 : Bool)
   · replace h := br_f b2 h
     obtain ⟨r9, q7, h⟩ := bnd_some h
     have w8 := e115 a0.path a1.attrs.path r9 q7
     try simp -implicitDefEqProofs only [go_sem] at w8
     try simp -implicitDefEqProofs only [go_sem, X66_1, k66_1, b1, b2, w8]
     cases b10 : (r9 : Bool)
     · replace h := br_f b10 h
       cases h
       simp -implicitDefEqProofs only [go_sem, X66_1, k66_1, b1, b2, w8, b10]
     · replace h := br_t b10 h
       try simp -implicitDefEqProofs only [go_sem, X66_1, k66_1, b1, b2, w8, b10]
       cases b11 : (eqI a0.comm (-1) : Bool)
       · replace h := br_f b11 h
         obtain ⟨r14, q12, h⟩ := bnd_some h
         have w13 := e116 a1.attrs.comms a0.comm r14 q12
         try simp -implicitDefEqProofs only [go_sem] at w13
         cases h
         simp -implicitDefEqProofs only [go_sem, X66_1, k66_1, b1, b2, w8, b10, b11, w13]
       · replace h := br_t b11 h
         cases h
         simp -implicitDefEqProofs only [go_sem, X66_1, k66_1, b1, b2, w8, b10, b11]
   · replace h := br_t b2 h
     try simp -implicitDefEqProofs only [go_sem, X66_1, k66_1, b1, b2]
     cases b3 : (eqI a0.comm (-1) : Bool)
     · replace h := br_f b3 h
       obtain ⟨r6, q4, h⟩ := bnd_some h
       have w5 := e116 a1.attrs.comms a0.comm r6 q4
       try simp -implicitDefEqProofs only [go_sem] at w5
       cases h
       simp -implicitDefEqProofs only [go_sem, X66_1, k66_1, b1, b2, b3, w5]
     · replace h := br_t b3 h
       cases h
       simp -implicitDefEqProofs only [go_sem, X66_1, k66_1, b1, b2, b3]
theorem e66 (a0 : Term) (a1 : Route) (r : Bool) (h : m66 a0 a1 = some r) : evFL T 66 [.agg [.ts .imm 4 (a0.ranges.map encRange), .ts .imm 2 (a0.path.map encReCell), .int .i64 a0.comm, .ts .imm 2 (a0.acts.map encAcn), .int .i64 a0.verdict], .agg [.int .i64 a1.prefix_.addr, .int .i64 a1.prefix_.len, .int .i64 a1.attrs.origin, .ts .imm 1 (a1.attrs.path.map encInt), .int .i64 a1.attrs.next, .int .i64 a1.attrs.med, .int .i64 a1.attrs.pref, .ts .imm 1 (a1.attrs.comms.map encInt)]] [] = some (.bool r, []) := by
 unfold m66 at h
 rw [evFL_at fn66 (Nat.le_of_ble_eq_true rfl) rfl (.inr rfl) ⟨rfl, rfl⟩]
 obtain ⟨v34, q32, h⟩ := bnd_some h
 have w33 := e66_1 a0 a1 v34 q32
 simp only [X66_1] at w33
 try simp -implicitDefEqProofs only [go_sem] at w33
 cases h
 simp -implicitDefEqProofs only [go_sem, i66, c66, w33]
theorem call30 (args : List AV) (S : St) : evCall T (evFL T) 30 args S = lendC (evFL T 30) S (lendAll S [[4, 2, 0, 2, 0], [0, 0, 0, 1, 0, 0, 0, 1]] args) := evCall0 fn30 rfl rfl rfl args S
theorem callz30 (args : List AV) (S : St) : evCallFz T (evFL T) 30 args S = lendZ (evFL T 30) S [[0], [0]] (lendAll S [[4, 2, 0, 2, 0], [0, 0, 0, 1, 0, 0, 0, 1]] args) := evCallFz0 fn30 rfl rfl rfl args S
attribute [go_sem] call30 callz30
noncomputable def X30_1 (a0 : Term) (a1 : Route) (o : Bool) : Ex × Fr × St :=
 (.normal, frOf 17 (upd (upd (upd anyF 2 (.ptr 0 0 0)) 3 (.ptr 1 0 0)) 13 (.bool o)), [some ⟨.box, 5, [[.ts .imm 4 (a0.ranges.map encRange), .ts .imm 2 (a0.path.map encReCell), .int .i64 a0.comm, .ts .imm 2 (a0.acts.map encAcn), .int .i64 a0.verdict]]⟩, some ⟨.box, 8, [[.int .i64 a1.prefix_.addr, .int .i64 a1.prefix_.len, .int .i64 a1.attrs.origin, .ts .imm 1 (a1.attrs.path.map encInt), .int .i64 a1.attrs.next, .int .i64 a1.attrs.med, .int .i64 a1.attrs.pref, .ts .imm 1 (a1.attrs.comms.map encInt)]]⟩])
theorem e30_1 (a0 : Term) (a1 : Route) (o : Bool) (h : m30_1 a0 a1 = some o) : evCL T 0 k30_1 (frOf 17 (upd (upd anyF 2 (.ptr 0 0 0)) 3 (.ptr 1 0 0))) [some ⟨.box, 5, [[.ts .imm 4 (a0.ranges.map encRange), .ts .imm 2 (a0.path.map encReCell), .int .i64 a0.comm, .ts .imm 2 (a0.acts.map encAcn), .int .i64 a0.verdict]]⟩, some ⟨.box, 8, [[.int .i64 a1.prefix_.addr, .int .i64 a1.prefix_.len, .int .i64 a1.attrs.origin, .ts .imm 1 (a1.attrs.path.map encInt), .int .i64 a1.attrs.next, .int .i64 a1.attrs.med, .int .i64 a1.attrs.pref, .ts .imm 1 (a1.attrs.comms.map encInt)]]⟩] = some (X30_1 a0 a1 o) := by
 unfold m30_1 at h
 obtain ⟨r3, q1, h⟩ := bnd_some h
 have w2 := e46 a0 r3 q1
 try simp -implicitDefEqProofs only [go_sem] at w2
 try simp -implicitDefEqProofs only [go_sem, X30_1, k30_1, w2]
 cases b4 : (r3 : Bool)
 · replace h := br_f b4 h
   cases h
   simp -implicitDefEqProofs only [go_sem, X30_1, k30_1, w2, b4]
 · replace h := br_t b4 h
   obtain ⟨r7, q5, h⟩ := bnd_some h
   have w6 := e11 a1 r7 q5
   try simp -implicitDefEqProofs only [go_sem] at w6
   cases h
   simp -implicitDefEqProofs only [go_sem, X30_1, k30_1, w2, b4, w6]
theorem e30 (a0 : Term) (a1 : Route) (r : (Bool × Bool)) (h : m30 a0 a1 = some r) : evFL T 30 [.agg [.ts .imm 4 (a0.ranges.map encRange), .ts .imm 2 (a0.path.map encReCell), .int .i64 a0.comm, .ts .imm 2 (a0.acts.map encAcn), .int .i64 a0.verdict], .agg [.int .i64 a1.prefix_.addr, .int .i64 a1.prefix_.len, .int .i64 a1.attrs.origin, .ts .imm 1 (a1.attrs.path.map encInt), .int .i64 a1.attrs.next, .int .i64 a1.attrs.med, .int .i64 a1.attrs.pref, .ts .imm 1 (a1.attrs.comms.map encInt)]] [] = some (.tup [.bool r.1, .bool r.2], []) := by
 unfold m30 at h
 rw [evFL_at fn30 (Nat.le_of_ble_eq_true rfl) rfl (.inr rfl) ⟨rfl, rfl⟩]
 obtain ⟨v10, q8, h⟩ := bnd_some h
 have w9 := e30_1 a0 a1 v10 q8
 simp only [X30_1] at w9
 try simp -implicitDefEqProofs only [go_sem] at w9
 try simp -implicitDefEqProofs only [go_sem, i30, c30, w9]
 cases b11 : (v10 : Bool)
 · replace h := br_f b11 h
   obtain ⟨r14, q12, h⟩ := bnd_some h
   have w13 := e66 a0 a1 r14 q12
   try simp -implicitDefEqProofs only [go_sem] at w13
   cases h
   simp -implicitDefEqProofs only [go_sem, i30, c30, w9, b11, w13]
 · replace h := br_t b11 h
   cases h
   simp -implicitDefEqProofs only [go_sem, i30, c30, w9, b11]
theorem call39 (args : List AV) (S : St) : evCall T (evFL T) 39 args S = lendC (evFL T 39) S (lendAll S [[0, 0], [0, 0]] args) := evCall0 fn39 rfl rfl rfl args S
theorem callz39 (args : List AV) (S : St) : evCallFz T (evFL T) 39 args S = lendZ (evFL T 39) S [[0]] (lendAll S [[0, 0], [0, 0]] args) := evCallFz0 fn39 rfl rfl rfl args S
attribute [go_sem] call39 callz39
theorem e39 (a0 : Prefix) (a1 : Prefix) (r : Bool) (h : m39 a0 a1 = some r) : evFL T 39 [.agg [.int .i64 a0.addr, .int .i64 a0.len], .agg [.int .i64 a1.addr, .int .i64 a1.len]] [] = some (.bool r, []) := by
 unfold m39 at h
 rw [evFL_at fn39 (Nat.le_of_ble_eq_true rfl) rfl (.inr rfl) ⟨rfl, rfl⟩]
 try simp -implicitDefEqProofs only [go_sem, i39, c39]
 cases b1 : (eqI a0.addr a1.addr : Bool)
 · replace h := br_f b1 h
   cases h
   simp -implicitDefEqProofs only [go_sem, i39, c39, b1]
 · replace h := br_t b1 h
   try simp -implicitDefEqProofs only [go_sem, i39, c39, b1]
   cases b2 : (eqI a0.len a1.len : Bool)
   · replace h := br_f b2 h
     cases h
     simp -implicitDefEqProofs only [go_sem, i39, c39, b1, b2]
   · replace h := br_t b2 h
     cases h
     simp -implicitDefEqProofs only [go_sem, i39, c39, b1, b2]
theorem call117 (args : List AV) (S : St) : evCall T (evFL T) 117 args S = lendC (evFL T 117) S (lendAll S [[0, 0, 0, 0], [0, 0, 0, 0]] args) := evCall0 fn117 rfl rfl rfl args S
theorem callz117 (args : List AV) (S : St) : evCallFz T (evFL T) 117 args S = lendZ (evFL T 117) S [[0]] (lendAll S [[0, 0, 0, 0], [0, 0, 0, 0]] args) := evCallFz0 fn117 rfl rfl rfl args S
attribute [go_sem] call117 callz117
theorem e117 (a0 : Range) (a1 : Range) (r : Bool) (h : m117 a0 a1 = some r) : evFL T 117 [.agg [.int .i64 a0.prefix_.addr, .int .i64 a0.prefix_.len, .int .i64 a0.lo, .int .i64 a0.hi], .agg [.int .i64 a1.prefix_.addr, .int .i64 a1.prefix_.len, .int .i64 a1.lo, .int .i64 a1.hi]] [] = some (.bool r, []) := by
 unfold m117 at h
 rw [evFL_at fn117 (Nat.le_of_ble_eq_true rfl) rfl (.inr rfl) ⟨rfl, rfl⟩]
 obtain ⟨r3, q1, h⟩ := bnd_some h
 have w2 := e39 a0.prefix_ a1.prefix_ r3 q1
 try simp -implicitDefEqProofs only [go_sem] at w2
 try simp -implicitDefEqProofs only [go_sem, i117, c117, w2]
 cases b4 : (r3 : Bool)
 · replace h := br_f b4 h
   cases h
   simp -implicitDefEqProofs only [go_sem, i117, c117, w2, b4]
 · replace h := br_t b4 h
   try simp -implicitDefEqProofs only [go_sem, i117, c117, w2, b4]
   cases b5 : (eqI a0.lo a1.lo : Bool)
   · replace h := br_f b5 h
     cases h
     simp -implicitDefEqProofs only [go_sem, i117, c117, w2, b4, b5]
   · replace h := br_t b5 h
     try simp -implicitDefEqProofs only [go_sem, i117, c117, w2, b4, b5]
     cases b6 : (eqI a0.hi a1.hi : Bool)
     · replace h := br_f b6 h
       cases h
       simp -implicitDefEqProofs only [go_sem, i117, c117, w2, b4, b5, b6]
     · replace h := br_t b6 h
       cases h
       simp -implicitDefEqProofs only [go_sem, i117, c117, w2, b4, b5, b6]
theorem call67 (args : List AV) (S : St) : evCall T (evFL T) 67 args S = lendC (evFL T 67) S (lendAll S [[4], [4]] args) := evCall0 fn67 rfl rfl rfl args S
theorem callz67 (args : List AV) (S : St) : evCallFz T (evFL T) 67 args S = lendZ (evFL T 67) S [[0]] (lendAll S [[4], [4]] args) := evCallFz0 fn67 rfl rfl rfl args S
attribute [go_sem] call67 callz67
noncomputable def X67_1 (a0 : (List Range)) (a1 : (List Range)) (o : (Unit ⊕ Unit)) : Ex × Fr × St :=
 match o with
 | .inl o => (.exit 0, frOf 27 (anyF), [])
 | .inr o => (.ret, frOf 27 (upd anyF 4 (.bool false)), [])
noncomputable def E67_1 (a0 : (List Range)) (a1 : (List Range)) (s : Int) : Fr × St := (frOf 27 (upd (upd (upd anyF 0 (.ts .imm 4 (a0.map encRange))) 1 (.ts .imm 4 (a1.map encRange))) 5 (.int .i64 s)), [])
theorem b67_1 (a0 : (List Range)) (a1 : (List Range)) (s : Int) (o : Ctl Int (Unit ⊕ Unit)) (h : m67_1b a0 a1 s = some o) : evCL T 0 k67_1b (E67_1 a0 a1 s).1 (E67_1 a0 a1 s).2 = some (ctlX (E67_1 a0 a1) (X67_1 a0 a1) o) := by
 unfold m67_1b at h
 revert h
 generalize s = s17
 intro h
 try simp -implicitDefEqProofs only [go_sem, E67_1, X67_1, k67_1b]
 cases b18 : (ltI s17 (↑a0.length : Int) : Bool)
 · replace h := br_f b18 h
   cases h
   simp -implicitDefEqProofs only [go_sem, E67_1, X67_1, k67_1b, b18]
 · replace h := br_t b18 h
   obtain ⟨x19, q20, h⟩ := bnd_some h
   obtain ⟨g21, g22, g23⟩ := idx_row encRange q20
   try simp -implicitDefEqProofs only [go_sem] at g22
   try simp -implicitDefEqProofs only [go_sem] at g23
   obtain ⟨x24, q25, h⟩ := bnd_some h
   obtain ⟨g26, g27, g28⟩ := idx_row encRange q25
   try simp -implicitDefEqProofs only [go_sem] at g27
   try simp -implicitDefEqProofs only [go_sem] at g28
   obtain ⟨r31, q29, h⟩ := bnd_some h
   have w30 := e117 x19 x24 r31 q29
   try simp -implicitDefEqProofs only [go_sem] at w30
   try simp -implicitDefEqProofs only [go_sem, E67_1, X67_1, k67_1b, b18, g21, g22, g23, g26, g27, g28, w30]
   cases b32 : (r31 : Bool)
   · replace h := br_f b32 h
     cases h
     simp -implicitDefEqProofs only [go_sem, E67_1, X67_1, k67_1b, b18, g21, g22, g23, g26, g27, g28, w30, b32]
   · replace h := br_t b32 h
     cases h
     simp -implicitDefEqProofs only [go_sem, E67_1, X67_1, k67_1b, b18, g21, g22, g23, g26, g27, g28, w30, b32]
theorem e67_1 (a0 : (List Range)) (a1 : (List Range)) (s : Int) (o : (Unit ⊕ Unit)) (h : loopP (m67_1b a0 a1) s = some o) : evCL T 0 (.loop k67_1b) (E67_1 a0 a1 s).1 (E67_1 a0 a1 s).2 = some (X67_1 a0 a1 o) :=
 loop_walk (E := E67_1 a0 a1) (X := X67_1 a0 a1) (by intro b; rcases b with b | b <;> (simp only [X67_1]; nofun)) (b67_1 a0 a1) s o h
theorem e67 (a0 : (List Range)) (a1 : (List Range)) (r : Bool) (h : m67 a0 a1 = some r) : evFL T 67 [.ts .imm 4 (a0.map encRange), .ts .imm 4 (a1.map encRange)] [] = some (.bool r, []) := by
 unfold m67 at h
 rw [evFL_at fn67 (Nat.le_of_ble_eq_true rfl) rfl (.inr rfl) ⟨rfl, rfl⟩]
 try simp -implicitDefEqProofs only [go_sem, i67, c67]
 cases b1 : (eqI (↑a0.length : Int) (↑a1.length : Int) : Bool)
 · replace h := br_f b1 h
   cases h
   simp -implicitDefEqProofs only [go_sem, i67, c67, b1]
 · replace h := br_t b1 h
   try simp -implicitDefEqProofs only [go_sem, i67, c67, b1]
   obtain ⟨o, q33, h⟩ := bnd_some h
   rcases o with ⟨⟩ | ⟨⟩
   · replace h := selS_l h
     have w34 := e67_1 a0 a1 0 (.inl ()) q33
     simp only [E67_1, X67_1] at w34
     try simp -implicitDefEqProofs only [go_sem] at w34
     cases h
     simp -implicitDefEqProofs only [go_sem, i67, c67, b1, w34]
   · replace h := selS_r h
     have w34 := e67_1 a0 a1 0 (.inr ()) q33
     simp only [E67_1, X67_1] at w34
     try simp -implicitDefEqProofs only [go_sem] at w34
     cases h
     simp -implicitDefEqProofs only [go_sem, i67, c67, b1, w34]
theorem call118 (args : List AV) (S : St) : evCall T (evFL T) 118 args S = lendC (evFL T 118) S (lendAll S [[0, 0], [0, 0]] args) := evCall0 fn118 rfl rfl rfl args S
theorem callz118 (args : List AV) (S : St) : evCallFz T (evFL T) 118 args S = lendZ (evFL T 118) S [[0]] (lendAll S [[0, 0], [0, 0]] args) := evCallFz0 fn118 rfl rfl rfl args S
attribute [go_sem] call118 callz118
theorem e118 (a0 : ReCell) (a1 : ReCell) (r : Bool) (h : m118 a0 a1 = some r) : evFL T 118 [.agg [.int .i64 a0.kind, .int .i64 a0.n], .agg [.int .i64 a1.kind, .int .i64 a1.n]] [] = some (.bool r, []) := by
 unfold m118 at h
 rw [evFL_at fn118 (Nat.le_of_ble_eq_true rfl) rfl (.inr rfl) ⟨rfl, rfl⟩]
 try simp -implicitDefEqProofs only [go_sem, i118, c118]
 cases b1 : (eqI a0.kind a1.kind : Bool)
 · replace h := br_f b1 h
   cases h
   simp -implicitDefEqProofs only [go_sem, i118, c118, b1]
 · replace h := br_t b1 h
   try simp -implicitDefEqProofs only [go_sem, i118, c118, b1]
   cases b2 : (eqI a0.n a1.n : Bool)
   · replace h := br_f b2 h
     cases h
     simp -implicitDefEqProofs only [go_sem, i118, c118, b1, b2]
   · replace h := br_t b2 h
     cases h
     simp -implicitDefEqProofs only [go_sem, i118, c118, b1, b2]
theorem call68 (args : List AV) (S : St) : evCall T (evFL T) 68 args S = lendC (evFL T 68) S (lendAll S [[2], [2]] args) := evCall0 fn68 rfl rfl rfl args S
theorem callz68 (args : List AV) (S : St) : evCallFz T (evFL T) 68 args S = lendZ (evFL T 68) S [[0]] (lendAll S [[2], [2]] args) := evCallFz0 fn68 rfl rfl rfl args S
attribute [go_sem] call68 callz68
noncomputable def X68_1 (a0 : (List ReCell)) (a1 : (List ReCell)) (o : (Unit ⊕ Unit)) : Ex × Fr × St :=
 match o with
 | .inl o => (.exit 0, frOf 27 (anyF), [])
 | .inr o => (.ret, frOf 27 (upd anyF 4 (.bool false)), [])
noncomputable def E68_1 (a0 : (List ReCell)) (a1 : (List ReCell)) (s : Int) : Fr × St := (frOf 27 (upd (upd (upd anyF 0 (.ts .imm 2 (a0.map encReCell))) 1 (.ts .imm 2 (a1.map encReCell))) 5 (.int .i64 s)), [])
theorem b68_1 (a0 : (List ReCell)) (a1 : (List ReCell)) (s : Int) (o : Ctl Int (Unit ⊕ Unit)) (h : m68_1b a0 a1 s = some o) : evCL T 0 k68_1b (E68_1 a0 a1 s).1 (E68_1 a0 a1 s).2 = some (ctlX (E68_1 a0 a1) (X68_1 a0 a1) o) := by
 unfold m68_1b at h
 revert h
 generalize s = s17
 intro h
 try simp -implicitDefEqProofs only [go_sem, E68_1, X68_1, k68_1b]
 cases b18 : (ltI s17 (↑a0.length : Int) : Bool)
 · replace h := br_f b18 h
   cases h
   simp -implicitDefEqProofs only [go_sem, E68_1, X68_1, k68_1b, b18]
 · replace h := br_t b18 h
   obtain ⟨x19, q20, h⟩ := bnd_some h
   obtain ⟨g21, g22, g23⟩ := idx_row encReCell q20
   try simp -implicitDefEqProofs only [go_sem] at g22
   try simp -implicitDefEqProofs only [go_sem] at g23
   obtain ⟨x24, q25, h⟩ := bnd_some h
   obtain ⟨g26, g27, g28⟩ := idx_row encReCell q25
   try simp -implicitDefEqProofs only [go_sem] at g27
   try simp -implicitDefEqProofs only [go_sem] at g28
   obtain ⟨r31, q29, h⟩ := bnd_some h
   have w30 := e118 x19 x24 r31 q29
   try simp -implicitDefEqProofs only [go_sem] at w30
   try simp -implicitDefEqProofs only [go_sem, E68_1, X68_1, k68_1b, b18, g21, g22, g23, g26, g27, g28, w30]
   cases b32 : (r31 : Bool)
   · replace h := br_f b32 h
     cases h
     simp -implicitDefEqProofs only [go_sem, E68_1, X68_1, k68_1b, b18, g21, g22, g23, g26, g27, g28, w30, b32]
   · replace h := br_t b32 h
     cases h
     simp -implicitDefEqProofs only [go_sem, E68_1, X68_1, k68_1b, b18, g21, g22, g23, g26, g27, g28, w30, b32]
theorem e68_1 (a0 : (List ReCell)) (a1 : (List ReCell)) (s : Int) (o : (Unit ⊕ Unit)) (h : loopP (m68_1b a0 a1) s = some o) : evCL T 0 (.loop k68_1b) (E68_1 a0 a1 s).1 (E68_1 a0 a1 s).2 = some (X68_1 a0 a1 o) :=
 loop_walk (E := E68_1 a0 a1) (X := X68_1 a0 a1) (by intro b; rcases b with b | b <;> (simp only [X68_1]; nofun)) (b68_1 a0 a1) s o h
theorem e68 (a0 : (List ReCell)) (a1 : (List ReCell)) (r : Bool) (h : m68 a0 a1 = some r) : evFL T 68 [.ts .imm 2 (a0.map encReCell), .ts .imm 2 (a1.map encReCell)] [] = some (.bool r, []) := by
 unfold m68 at h
 rw [evFL_at fn68 (Nat.le_of_ble_eq_true rfl) rfl (.inr rfl) ⟨rfl, rfl⟩]
 try simp -implicitDefEqProofs only [go_sem, i68, c68]
 cases b1 : (eqI (↑a0.length : Int) (↑a1.length : Int) : Bool)
 · replace h := br_f b1 h
   cases h
   simp -implicitDefEqProofs only [go_sem, i68, c68, b1]
 · replace h := br_t b1 h
   try simp -implicitDefEqProofs only [go_sem, i68, c68, b1]
   obtain ⟨o, q33, h⟩ := bnd_some h
   rcases o with ⟨⟩ | ⟨⟩
   · replace h := selS_l h
     have w34 := e68_1 a0 a1 0 (.inl ()) q33
     simp only [E68_1, X68_1] at w34
     try simp -implicitDefEqProofs only [go_sem] at w34
     cases h
     simp -implicitDefEqProofs only [go_sem, i68, c68, b1, w34]
   · replace h := selS_r h
     have w34 := e68_1 a0 a1 0 (.inr ()) q33
     simp only [E68_1, X68_1] at w34
     try simp -implicitDefEqProofs only [go_sem] at w34
     cases h
     simp -implicitDefEqProofs only [go_sem, i68, c68, b1, w34]
theorem call119 (args : List AV) (S : St) : evCall T (evFL T) 119 args S = lendC (evFL T 119) S (lendAll S [[0, 0], [0, 0]] args) := evCall0 fn119 rfl rfl rfl args S
theorem callz119 (args : List AV) (S : St) : evCallFz T (evFL T) 119 args S = lendZ (evFL T 119) S [[0]] (lendAll S [[0, 0], [0, 0]] args) := evCallFz0 fn119 rfl rfl rfl args S
attribute [go_sem] call119 callz119
theorem e119 (a0 : Acn) (a1 : Acn) (r : Bool) (h : m119 a0 a1 = some r) : evFL T 119 [.agg [.int .i64 a0.kind, .int .i64 a0.n], .agg [.int .i64 a1.kind, .int .i64 a1.n]] [] = some (.bool r, []) := by
 unfold m119 at h
 rw [evFL_at fn119 (Nat.le_of_ble_eq_true rfl) rfl (.inr rfl) ⟨rfl, rfl⟩]
 try simp -implicitDefEqProofs only [go_sem, i119, c119]
 cases b1 : (eqI a0.kind a1.kind : Bool)
 · replace h := br_f b1 h
   cases h
   simp -implicitDefEqProofs only [go_sem, i119, c119, b1]
 · replace h := br_t b1 h
   try simp -implicitDefEqProofs only [go_sem, i119, c119, b1]
   cases b2 : (eqI a0.n a1.n : Bool)
   · replace h := br_f b2 h
     cases h
     simp -implicitDefEqProofs only [go_sem, i119, c119, b1, b2]
   · replace h := br_t b2 h
     cases h
     simp -implicitDefEqProofs only [go_sem, i119, c119, b1, b2]
theorem call69 (args : List AV) (S : St) : evCall T (evFL T) 69 args S = lendC (evFL T 69) S (lendAll S [[2], [2]] args) := evCall0 fn69 rfl rfl rfl args S
theorem callz69 (args : List AV) (S : St) : evCallFz T (evFL T) 69 args S = lendZ (evFL T 69) S [[0]] (lendAll S [[2], [2]] args) := evCallFz0 fn69 rfl rfl rfl args S
attribute [go_sem] call69 callz69
noncomputable def X69_1 (a0 : (List Acn)) (a1 : (List Acn)) (o : (Unit ⊕ Unit)) : Ex × Fr × St :=
 match o with
 | .inl o => (.exit 0, frOf 27 (anyF), [])
 | .inr o => (.ret, frOf 27 (upd anyF 4 (.bool false)), [])
noncomputable def E69_1 (a0 : (List Acn)) (a1 : (List Acn)) (s : Int) : Fr × St := (frOf 27 (upd (upd (upd anyF 0 (.ts .imm 2 (a0.map encAcn))) 1 (.ts .imm 2 (a1.map encAcn))) 5 (.int .i64 s)), [])
theorem b69_1 (a0 : (List Acn)) (a1 : (List Acn)) (s : Int) (o : Ctl Int (Unit ⊕ Unit)) (h : m69_1b a0 a1 s = some o) : evCL T 0 k69_1b (E69_1 a0 a1 s).1 (E69_1 a0 a1 s).2 = some (ctlX (E69_1 a0 a1) (X69_1 a0 a1) o) := by
 unfold m69_1b at h
 revert h
 generalize s = s17
 intro h
 try simp -implicitDefEqProofs only [go_sem, E69_1, X69_1, k69_1b]
 cases b18 : (ltI s17 (↑a0.length : Int) : Bool)
 · replace h := br_f b18 h
   cases h
   simp -implicitDefEqProofs only [go_sem, E69_1, X69_1, k69_1b, b18]
 · replace h := br_t b18 h
   obtain ⟨x19, q20, h⟩ := bnd_some h
   obtain ⟨g21, g22, g23⟩ := idx_row encAcn q20
   try simp -implicitDefEqProofs only [go_sem] at g22
   try simp -implicitDefEqProofs only [go_sem] at g23
   obtain ⟨x24, q25, h⟩ := bnd_some h
   obtain ⟨g26, g27, g28⟩ := idx_row encAcn q25
   try simp -implicitDefEqProofs only [go_sem] at g27
   try simp -implicitDefEqProofs only [go_sem] at g28
   obtain ⟨r31, q29, h⟩ := bnd_some h
   have w30 := e119 x19 x24 r31 q29
   try simp -implicitDefEqProofs only [go_sem] at w30
   try simp -implicitDefEqProofs only [go_sem, E69_1, X69_1, k69_1b, b18, g21, g22, g23, g26, g27, g28, w30]
   cases b32 : (r31 : Bool)
   · replace h := br_f b32 h
     cases h
     simp -implicitDefEqProofs only [go_sem, E69_1, X69_1, k69_1b, b18, g21, g22, g23, g26, g27, g28, w30, b32]
   · replace h := br_t b32 h
     cases h
     simp -implicitDefEqProofs only [go_sem, E69_1, X69_1, k69_1b, b18, g21, g22, g23, g26, g27, g28, w30, b32]
theorem e69_1 (a0 : (List Acn)) (a1 : (List Acn)) (s : Int) (o : (Unit ⊕ Unit)) (h : loopP (m69_1b a0 a1) s = some o) : evCL T 0 (.loop k69_1b) (E69_1 a0 a1 s).1 (E69_1 a0 a1 s).2 = some (X69_1 a0 a1 o) :=
 loop_walk (E := E69_1 a0 a1) (X := X69_1 a0 a1) (by intro b; rcases b with b | b <;> (simp only [X69_1]; nofun)) (b69_1 a0 a1) s o h
theorem e69 (a0 : (List Acn)) (a1 : (List Acn)) (r : Bool) (h : m69 a0 a1 = some r) : evFL T 69 [.ts .imm 2 (a0.map encAcn), .ts .imm 2 (a1.map encAcn)] [] = some (.bool r, []) := by
 unfold m69 at h
 rw [evFL_at fn69 (Nat.le_of_ble_eq_true rfl) rfl (.inr rfl) ⟨rfl, rfl⟩]
 try simp -implicitDefEqProofs only [go_sem, i69, c69]
 cases b1 : (eqI (↑a0.length : Int) (↑a1.length : Int) : Bool)
 · replace h := br_f b1 h
   cases h
   simp -implicitDefEqProofs only [go_sem, i69, c69, b1]
 · replace h := br_t b1 h
   try simp -implicitDefEqProofs only [go_sem, i69, c69, b1]
   obtain ⟨o, q33, h⟩ := bnd_some h
   rcases o with ⟨⟩ | ⟨⟩
   · replace h := selS_l h
     have w34 := e69_1 a0 a1 0 (.inl ()) q33
     simp only [E69_1, X69_1] at w34
     try simp -implicitDefEqProofs only [go_sem] at w34
     cases h
     simp -implicitDefEqProofs only [go_sem, i69, c69, b1, w34]
   · replace h := selS_r h
     have w34 := e69_1 a0 a1 0 (.inr ()) q33
     simp only [E69_1, X69_1] at w34
     try simp -implicitDefEqProofs only [go_sem] at w34
     cases h
     simp -implicitDefEqProofs only [go_sem, i69, c69, b1, w34]
theorem call31 (args : List AV) (S : St) : evCall T (evFL T) 31 args S = lendC (evFL T 31) S (lendAll S [[4, 2, 0, 2, 0], [4, 2, 0, 2, 0]] args) := evCall0 fn31 rfl rfl rfl args S
theorem callz31 (args : List AV) (S : St) : evCallFz T (evFL T) 31 args S = lendZ (evFL T 31) S [[0]] (lendAll S [[4, 2, 0, 2, 0], [4, 2, 0, 2, 0]] args) := evCallFz0 fn31 rfl rfl rfl args S
attribute [go_sem] call31 callz31
theorem e31 (a0 : Term) (a1 : Term) (r : Bool) (h : m31 a0 a1 = some r) : evFL T 31 [.agg [.ts .imm 4 (a0.ranges.map encRange), .ts .imm 2 (a0.path.map encReCell), .int .i64 a0.comm, .ts .imm 2 (a0.acts.map encAcn), .int .i64 a0.verdict], .agg [.ts .imm 4 (a1.ranges.map encRange), .ts .imm 2 (a1.path.map encReCell), .int .i64 a1.comm, .ts .imm 2 (a1.acts.map encAcn), .int .i64 a1.verdict]] [] = some (.bool r, []) := by
 unfold m31 at h
 rw [evFL_at fn31 (Nat.le_of_ble_eq_true rfl) rfl (.inr rfl) ⟨rfl, rfl⟩]
 obtain ⟨r3, q1, h⟩ := bnd_some h
 have w2 := e67 a0.ranges a1.ranges r3 q1
 try simp -implicitDefEqProofs only [go_sem] at w2
 try simp -implicitDefEqProofs only [go_sem, i31, c31, w2]
 cases b4 : (r3 : Bool)
 · replace h := br_f b4 h
   cases h
   simp -implicitDefEqProofs only [go_sem, i31, c31, w2, b4]
 · replace h := br_t b4 h
   obtain ⟨r7, q5, h⟩ := bnd_some h
   have w6 := e68 a0.path a1.path r7 q5
   try simp -implicitDefEqProofs only [go_sem] at w6
   try simp -implicitDefEqProofs only [go_sem, i31, c31, w2, b4, w6]
   cases b8 : (r7 : Bool)
   · replace h := br_f b8 h
     cases h
     simp -implicitDefEqProofs only [go_sem, i31, c31, w2, b4, w6, b8]
   · replace h := br_t b8 h
     try simp -implicitDefEqProofs only [go_sem, i31, c31, w2, b4, w6, b8]
     cases b9 : (eqI a0.comm a1.comm : Bool)
     · replace h := br_f b9 h
       cases h
       simp -implicitDefEqProofs only [go_sem, i31, c31, w2, b4, w6, b8, b9]
     · replace h := br_t b9 h
       obtain ⟨r12, q10, h⟩ := bnd_some h
       have w11 := e69 a0.acts a1.acts r12 q10
       try simp -implicitDefEqProofs only [go_sem] at w11
       try simp -implicitDefEqProofs only [go_sem, i31, c31, w2, b4, w6, b8, b9, w11]
       cases b13 : (r12 : Bool)
       · replace h := br_f b13 h
         cases h
         simp -implicitDefEqProofs only [go_sem, i31, c31, w2, b4, w6, b8, b9, w11, b13]
       · replace h := br_t b13 h
         try simp -implicitDefEqProofs only [go_sem, i31, c31, w2, b4, w6, b8, b9, w11, b13]
         cases b14 : (eqI a0.verdict a1.verdict : Bool)
         · replace h := br_f b14 h
           cases h
           simp -implicitDefEqProofs only [go_sem, i31, c31, w2, b4, w6, b8, b9, w11, b13, b14]
         · replace h := br_t b14 h
           cases h
           simp -implicitDefEqProofs only [go_sem, i31, c31, w2, b4, w6, b8, b9, w11, b13, b14]
theorem call81 (args : List AV) (S : St) : evCall T (evFL T) 81 args S = lendC (evFL T 81) S (lendAll S [[1], [1]] args) := evCall0 fn81 rfl rfl rfl args S
theorem callz81 (args : List AV) (S : St) : evCallFz T (evFL T) 81 args S = lendZ (evFL T 81) S [[0]] (lendAll S [[1], [1]] args) := evCallFz0 fn81 rfl rfl rfl args S
attribute [go_sem] call81 callz81
noncomputable def X81_1 (a0 : (List Int)) (a1 : (List Int)) (o : (Unit ⊕ Unit)) : Ex × Fr × St :=
 match o with
 | .inl o => (.exit 0, frOf 26 (anyF), [])
 | .inr o => (.ret, frOf 26 (upd anyF 4 (.bool false)), [])
noncomputable def E81_1 (a0 : (List Int)) (a1 : (List Int)) (s : Int) : Fr × St := (frOf 26 (upd (upd (upd anyF 0 (.ts .imm 1 (a0.map encInt))) 1 (.ts .imm 1 (a1.map encInt))) 5 (.int .i64 s)), [])
theorem b81_1 (a0 : (List Int)) (a1 : (List Int)) (s : Int) (o : Ctl Int (Unit ⊕ Unit)) (h : m81_1b a0 a1 s = some o) : evCL T 0 k81_1b (E81_1 a0 a1 s).1 (E81_1 a0 a1 s).2 = some (ctlX (E81_1 a0 a1) (X81_1 a0 a1) o) := by
 unfold m81_1b at h
 revert h
 generalize s = s14
 intro h
 try simp -implicitDefEqProofs only [go_sem, E81_1, X81_1, k81_1b]
 cases b15 : (ltI s14 (↑a0.length : Int) : Bool)
 · replace h := br_f b15 h
   cases h
   simp -implicitDefEqProofs only [go_sem, E81_1, X81_1, k81_1b, b15]
 · replace h := br_t b15 h
   obtain ⟨x16, q17, h⟩ := bnd_some h
   obtain ⟨g18, g19, g20⟩ := idx_row encInt q17
   try simp -implicitDefEqProofs only [go_sem] at g19
   try simp -implicitDefEqProofs only [go_sem] at g20
   obtain ⟨x21, q22, h⟩ := bnd_some h
   obtain ⟨g23, g24, g25⟩ := idx_row encInt q22
   try simp -implicitDefEqProofs only [go_sem] at g24
   try simp -implicitDefEqProofs only [go_sem] at g25
   try simp -implicitDefEqProofs only [go_sem, E81_1, X81_1, k81_1b, b15, g18, g19, g20, g23, g24, g25]
   cases b26 : (eqI x16 x21 : Bool)
   · replace h := br_f b26 h
     cases h
     simp -implicitDefEqProofs only [go_sem, E81_1, X81_1, k81_1b, b15, g18, g19, g20, g23, g24, g25, b26]
   · replace h := br_t b26 h
     cases h
     simp -implicitDefEqProofs only [go_sem, E81_1, X81_1, k81_1b, b15, g18, g19, g20, g23, g24, g25, b26]
theorem e81_1 (a0 : (List Int)) (a1 : (List Int)) (s : Int) (o : (Unit ⊕ Unit)) (h : loopP (m81_1b a0 a1) s = some o) : evCL T 0 (.loop k81_1b) (E81_1 a0 a1 s).1 (E81_1 a0 a1 s).2 = some (X81_1 a0 a1 o) :=
 loop_walk (E := E81_1 a0 a1) (X := X81_1 a0 a1) (by intro b; rcases b with b | b <;> (simp only [X81_1]; nofun)) (b81_1 a0 a1) s o h
theorem e81 (a0 : (List Int)) (a1 : (List Int)) (r : Bool) (h : m81 a0 a1 = some r) : evFL T 81 [.ts .imm 1 (a0.map encInt), .ts .imm 1 (a1.map encInt)] [] = some (.bool r, []) := by
 unfold m81 at h
 rw [evFL_at fn81 (Nat.le_of_ble_eq_true rfl) rfl (.inr rfl) ⟨rfl, rfl⟩]
 try simp -implicitDefEqProofs only [go_sem, i81, c81]
 cases b1 : (eqI (↑a0.length : Int) (↑a1.length : Int) : Bool)
 · replace h := br_f b1 h
   cases h
   simp -implicitDefEqProofs only [go_sem, i81, c81, b1]
 · replace h := br_t b1 h
   try simp -implicitDefEqProofs only [go_sem, i81, c81, b1]
   obtain ⟨o, q27, h⟩ := bnd_some h
   rcases o with ⟨⟩ | ⟨⟩
   · replace h := selS_l h
     have w28 := e81_1 a0 a1 0 (.inl ()) q27
     simp only [E81_1, X81_1] at w28
     try simp -implicitDefEqProofs only [go_sem] at w28
     cases h
     simp -implicitDefEqProofs only [go_sem, i81, c81, b1, w28]
   · replace h := selS_r h
     have w28 := e81_1 a0 a1 0 (.inr ()) q27
     simp only [E81_1, X81_1] at w28
     try simp -implicitDefEqProofs only [go_sem] at w28
     cases h
     simp -implicitDefEqProofs only [go_sem, i81, c81, b1, w28]
theorem call40 (args : List AV) (S : St) : evCall T (evFL T) 40 args S = lendC (evFL T 40) S (lendAll S [[0, 1, 0, 0, 0, 1], [0, 1, 0, 0, 0, 1]] args) := evCall0 fn40 rfl rfl rfl args S
theorem callz40 (args : List AV) (S : St) : evCallFz T (evFL T) 40 args S = lendZ (evFL T 40) S [[0]] (lendAll S [[0, 1, 0, 0, 0, 1], [0, 1, 0, 0, 0, 1]] args) := evCallFz0 fn40 rfl rfl rfl args S
attribute [go_sem] call40 callz40
theorem e40 (a0 : Attrs) (a1 : Attrs) (r : Bool) (h : m40 a0 a1 = some r) : evFL T 40 [.agg [.int .i64 a0.origin, .ts .imm 1 (a0.path.map encInt), .int .i64 a0.next, .int .i64 a0.med, .int .i64 a0.pref, .ts .imm 1 (a0.comms.map encInt)], .agg [.int .i64 a1.origin, .ts .imm 1 (a1.path.map encInt), .int .i64 a1.next, .int .i64 a1.med, .int .i64 a1.pref, .ts .imm 1 (a1.comms.map encInt)]] [] = some (.bool r, []) := by
 unfold m40 at h
 rw [evFL_at fn40 (Nat.le_of_ble_eq_true rfl) rfl (.inr rfl) ⟨rfl, rfl⟩]
 try simp -implicitDefEqProofs only [go_sem, i40, c40]
 cases b1 : (eqI a0.origin a1.origin : Bool)
 · replace h := br_f b1 h
   cases h
   simp -implicitDefEqProofs only [go_sem, i40, c40, b1]
 · replace h := br_t b1 h
   obtain ⟨r4, q2, h⟩ := bnd_some h
   have w3 := e81 a0.path a1.path r4 q2
   try simp -implicitDefEqProofs only [go_sem] at w3
   try simp -implicitDefEqProofs only [go_sem, i40, c40, b1, w3]
   cases b5 : (r4 : Bool)
   · replace h := br_f b5 h
     cases h
     simp -implicitDefEqProofs only [go_sem, i40, c40, b1, w3, b5]
   · replace h := br_t b5 h
     try simp -implicitDefEqProofs only [go_sem, i40, c40, b1, w3, b5]
     cases b6 : (eqI a0.next a1.next : Bool)
     · replace h := br_f b6 h
       cases h
       simp -implicitDefEqProofs only [go_sem, i40, c40, b1, w3, b5, b6]
     · replace h := br_t b6 h
       try simp -implicitDefEqProofs only [go_sem, i40, c40, b1, w3, b5, b6]
       cases b7 : (eqI a0.med a1.med : Bool)
       · replace h := br_f b7 h
         cases h
         simp -implicitDefEqProofs only [go_sem, i40, c40, b1, w3, b5, b6, b7]
       · replace h := br_t b7 h
         try simp -implicitDefEqProofs only [go_sem, i40, c40, b1, w3, b5, b6, b7]
         cases b8 : (eqI a0.pref a1.pref : Bool)
         · replace h := br_f b8 h
           cases h
           simp -implicitDefEqProofs only [go_sem, i40, c40, b1, w3, b5, b6, b7, b8]
         · replace h := br_t b8 h
           obtain ⟨r11, q9, h⟩ := bnd_some h
           have w10 := e81 a0.comms a1.comms r11 q9
           try simp -implicitDefEqProofs only [go_sem] at w10
           try simp -implicitDefEqProofs only [go_sem, i40, c40, b1, w3, b5, b6, b7, b8, w10]
           cases b12 : (r11 : Bool)
           · replace h := br_f b12 h
             cases h
             simp -implicitDefEqProofs only [go_sem, i40, c40, b1, w3, b5, b6, b7, b8, w10, b12]
           · replace h := br_t b12 h
             cases h
             simp -implicitDefEqProofs only [go_sem, i40, c40, b1, w3, b5, b6, b7, b8, w10, b12]
theorem call12 (args : List AV) (S : St) : evCall T (evFL T) 12 args S = lendC (evFL T 12) S (lendAll S [[0, 0, 0, 1, 0, 0, 0, 1], [0, 0, 0, 1, 0, 0, 0, 1]] args) := evCall0 fn12 rfl rfl rfl args S
theorem callz12 (args : List AV) (S : St) : evCallFz T (evFL T) 12 args S = lendZ (evFL T 12) S [[0]] (lendAll S [[0, 0, 0, 1, 0, 0, 0, 1], [0, 0, 0, 1, 0, 0, 0, 1]] args) := evCallFz0 fn12 rfl rfl rfl args S
attribute [go_sem] call12 callz12
theorem e12 (a0 : Route) (a1 : Route) (r : Bool) (h : m12 a0 a1 = some r) : evFL T 12 [.agg [.int .i64 a0.prefix_.addr, .int .i64 a0.prefix_.len, .int .i64 a0.attrs.origin, .ts .imm 1 (a0.attrs.path.map encInt), .int .i64 a0.attrs.next, .int .i64 a0.attrs.med, .int .i64 a0.attrs.pref, .ts .imm 1 (a0.attrs.comms.map encInt)], .agg [.int .i64 a1.prefix_.addr, .int .i64 a1.prefix_.len, .int .i64 a1.attrs.origin, .ts .imm 1 (a1.attrs.path.map encInt), .int .i64 a1.attrs.next, .int .i64 a1.attrs.med, .int .i64 a1.attrs.pref, .ts .imm 1 (a1.attrs.comms.map encInt)]] [] = some (.bool r, []) := by
 unfold m12 at h
 rw [evFL_at fn12 (Nat.le_of_ble_eq_true rfl) rfl (.inr rfl) ⟨rfl, rfl⟩]
 obtain ⟨r3, q1, h⟩ := bnd_some h
 have w2 := e39 a0.prefix_ a1.prefix_ r3 q1
 try simp -implicitDefEqProofs only [go_sem] at w2
 try simp -implicitDefEqProofs only [go_sem, i12, c12, w2]
 cases b4 : (r3 : Bool)
 · replace h := br_f b4 h
   cases h
   simp -implicitDefEqProofs only [go_sem, i12, c12, w2, b4]
 · replace h := br_t b4 h
   obtain ⟨r7, q5, h⟩ := bnd_some h
   have w6 := e40 a0.attrs a1.attrs r7 q5
   try simp -implicitDefEqProofs only [go_sem] at w6
   try simp -implicitDefEqProofs only [go_sem, i12, c12, w2, b4, w6]
   cases b8 : (r7 : Bool)
   · replace h := br_f b8 h
     cases h
     simp -implicitDefEqProofs only [go_sem, i12, c12, w2, b4, w6, b8]
   · replace h := br_t b8 h
     cases h
     simp -implicitDefEqProofs only [go_sem, i12, c12, w2, b4, w6, b8]
theorem call7 (args : List AV) (S : St) : evCall T (evFL T) 7 args S = lendC (evFL T 7) S (lendAll S [[4, 2, 0, 2, 0], [0, 0, 0, 1, 0, 0, 0, 1]] args) := evCall0 fn7 rfl rfl rfl args S
theorem callz7 (args : List AV) (S : St) : evCallFz T (evFL T) 7 args S = lendZ (evFL T 7) S [[0]] (lendAll S [[4, 2, 0, 2, 0], [0, 0, 0, 1, 0, 0, 0, 1]] args) := evCallFz0 fn7 rfl rfl rfl args S
attribute [go_sem] call7 callz7
noncomputable def X7_1 (r17 : Bool) (r18 : Bool) (r25 : Bool) (r26 : Bool) (a0 : Term) (a1 : Route) (r11 : Term) (r14 : Route) (o : Bool) : Ex × Fr × St :=
 (.normal, frOf 58 (upd (upd (upd (upd (upd anyF 2 (.ptr 0 0 0)) 3 (.ptr 1 0 0)) 8 (.ptr 2 0 0)) 9 (.ptr 6 0 0)) 47 (.bool o)), [some ⟨.box, 5, [[.ts .imm 4 (a0.ranges.map encRange), .ts .imm 2 (a0.path.map encReCell), .int .i64 a0.comm, .ts .imm 2 (a0.acts.map encAcn), .int .i64 a0.verdict]]⟩, some ⟨.box, 8, [[.int .i64 a1.prefix_.addr, .int .i64 a1.prefix_.len, .int .i64 a1.attrs.origin, .ts .imm 1 (a1.attrs.path.map encInt), .int .i64 a1.attrs.next, .int .i64 a1.attrs.med, .int .i64 a1.attrs.pref, .ts .imm 1 (a1.attrs.comms.map encInt)]]⟩, some ⟨.box, 5, [[.sl 3 0 r11.ranges.length, .sl 4 0 r11.path.length, .int .i64 r11.comm, .sl 5 0 r11.acts.length, .int .i64 r11.verdict]]⟩, some ⟨.arr, 4, r11.ranges.map encRange⟩, some ⟨.arr, 2, r11.path.map encReCell⟩, some ⟨.arr, 2, r11.acts.map encAcn⟩, some ⟨.box, 8, [[.int .i64 r14.prefix_.addr, .int .i64 r14.prefix_.len, .int .i64 r14.attrs.origin, .sl 7 0 r14.attrs.path.length, .int .i64 r14.attrs.next, .int .i64 r14.attrs.med, .int .i64 r14.attrs.pref, .sl 8 0 r14.attrs.comms.length]]⟩, some ⟨.arr, 1, r14.attrs.path.map encInt⟩, some ⟨.arr, 1, r14.attrs.comms.map encInt⟩])
theorem e7_1 (r17 : Bool) (r18 : Bool) (r25 : Bool) (r26 : Bool) (a0 : Term) (a1 : Route) (r11 : Term) (r14 : Route) (o : Bool) (h : m7_1 r17 r18 r25 r26 = some o) : evCL T 0 k7_1 (frOf 58 (upd (upd (upd (upd (upd (upd (upd (upd anyF 2 (.ptr 0 0 0)) 3 (.ptr 1 0 0)) 6 (.bool r17)) 7 (.bool r18)) 8 (.ptr 2 0 0)) 9 (.ptr 6 0 0)) 10 (.bool r25)) 11 (.bool r26))) [some ⟨.box, 5, [[.ts .imm 4 (a0.ranges.map encRange), .ts .imm 2 (a0.path.map encReCell), .int .i64 a0.comm, .ts .imm 2 (a0.acts.map encAcn), .int .i64 a0.verdict]]⟩, some ⟨.box, 8, [[.int .i64 a1.prefix_.addr, .int .i64 a1.prefix_.len, .int .i64 a1.attrs.origin, .ts .imm 1 (a1.attrs.path.map encInt), .int .i64 a1.attrs.next, .int .i64 a1.attrs.med, .int .i64 a1.attrs.pref, .ts .imm 1 (a1.attrs.comms.map encInt)]]⟩, some ⟨.box, 5, [[.sl 3 0 r11.ranges.length, .sl 4 0 r11.path.length, .int .i64 r11.comm, .sl 5 0 r11.acts.length, .int .i64 r11.verdict]]⟩, some ⟨.arr, 4, r11.ranges.map encRange⟩, some ⟨.arr, 2, r11.path.map encReCell⟩, some ⟨.arr, 2, r11.acts.map encAcn⟩, some ⟨.box, 8, [[.int .i64 r14.prefix_.addr, .int .i64 r14.prefix_.len, .int .i64 r14.attrs.origin, .sl 7 0 r14.attrs.path.length, .int .i64 r14.attrs.next, .int .i64 r14.attrs.med, .int .i64 r14.attrs.pref, .sl 8 0 r14.attrs.comms.length]]⟩, some ⟨.arr, 1, r14.attrs.path.map encInt⟩, some ⟨.arr, 1, r14.attrs.comms.map encInt⟩] = some (X7_1 r17 r18 r25 r26 a0 a1 r11 r14 o) := by
 unfold m7_1 at h
 try simp -implicitDefEqProofs only [go_sem, X7_1, k7_1]
 cases b27 : (eqB r25 r17 : Bool)
 · replace h := br_f b27 h
   cases h
   simp -implicitDefEqProofs only [go_sem, X7_1, k7_1, b27]
 · replace h := br_t b27 h
   cases h
   simp -implicitDefEqProofs only [go_sem, X7_1, k7_1, b27]
theorem e7 (a0 : Term) (a1 : Route) (r : Bool) (h : m7 a0 a1 = some r) : evFL T 7 [.agg [.ts .imm 4 (a0.ranges.map encRange), .ts .imm 2 (a0.path.map encReCell), .int .i64 a0.comm, .ts .imm 2 (a0.acts.map encAcn), .int .i64 a0.verdict], .agg [.int .i64 a1.prefix_.addr, .int .i64 a1.prefix_.len, .int .i64 a1.attrs.origin, .ts .imm 1 (a1.attrs.path.map encInt), .int .i64 a1.attrs.next, .int .i64 a1.attrs.med, .int .i64 a1.attrs.pref, .ts .imm 1 (a1.attrs.comms.map encInt)]] [] = some (.bool r, []) := by
 unfold m7 at h
 rw [evFL_at fn7 (Nat.le_of_ble_eq_true rfl) rfl (.inr rfl) ⟨rfl, rfl⟩]
 obtain ⟨r3, q1, h⟩ := bnd_some h
 have w2 := e27 a0 1048576 r3 q1
 try simp -implicitDefEqProofs only [go_sem] at w2
 try simp -implicitDefEqProofs only [go_sem, i7, c7, w2]
 cases b4 : (ltI r3 0 : Bool)
 · replace h := br_f b4 h
   obtain ⟨r7, q5, h⟩ := bnd_some h
   have w6 := e8 a1 r3 r7 q5
   try simp -implicitDefEqProofs only [go_sem] at w6
   try simp -implicitDefEqProofs only [go_sem, i7, c7, w2, b4, w6]
   cases b8 : (ltI r7 0 : Bool)
   · replace h := br_f b8 h
     obtain ⟨r11, q9, h⟩ := bnd_some h
     have w10 := e29 a0 r11 q9
     try simp -implicitDefEqProofs only [go_sem] at w10
     obtain ⟨r14, q12, h⟩ := bnd_some h
     have w13 := e10 a1 r14 q12
     try simp -implicitDefEqProofs only [go_sem] at w13
     obtain ⟨⟨r17, r18⟩, q15, h⟩ := bnd_some h
     replace h := sel2_some h
     have w16 := e28 r11 r14 (r17, r18) q15
     try simp -implicitDefEqProofs only [go_sem] at w16
     obtain ⟨⟨r25, r26⟩, q23, h⟩ := bnd_some h
     replace h := sel2_some h
     have w24 := e30 r11 r14 (r25, r26) q23
     try simp -implicitDefEqProofs only [go_sem] at w24
     obtain ⟨v30, q28, h⟩ := bnd_some h
     have w29 := e7_1 r17 r18 r25 r26 a0 a1 r11 r14 v30 q28
     simp only [X7_1] at w29
     try simp -implicitDefEqProofs only [go_sem] at w29
     try simp -implicitDefEqProofs only [go_sem, i7, c7, w2, b4, w6, b8, w10, w13, w16, w24, w29]
     cases b31 : (v30 : Bool)
     · replace h := br_f b31 h
       obtain ⟨r36, q34, h⟩ := bnd_some h
       have w35 := e31 r11 r11 r36 q34
       try simp -implicitDefEqProofs only [go_sem] at w35
       try simp -implicitDefEqProofs only [go_sem, i7, c7, w2, b4, w6, b8, w10, w13, w16, w24, w29, b31, w35]
       cases b37 : (r36 : Bool)
       · replace h := br_f b37 h
         cases h
         simp -implicitDefEqProofs only [go_sem, i7, c7, w2, b4, w6, b8, w10, w13, w16, w24, w29, b31, w35, b37]
       · replace h := br_t b37 h
         obtain ⟨r42, q40, h⟩ := bnd_some h
         have w41 := e12 r14 r14 r42 q40
         try simp -implicitDefEqProofs only [go_sem] at w41
         try simp -implicitDefEqProofs only [go_sem, i7, c7, w2, b4, w6, b8, w10, w13, w16, w24, w29, b31, w35, b37, w41]
         cases b43 : (r42 : Bool)
         · replace h := br_f b43 h
           cases h
           simp -implicitDefEqProofs only [go_sem, i7, c7, w2, b4, w6, b8, w10, w13, w16, w24, w29, b31, w35, b37, w41, b43]
         · replace h := br_t b43 h
           cases h
           simp -implicitDefEqProofs only [go_sem, i7, c7, w2, b4, w6, b8, w10, w13, w16, w24, w29, b31, w35, b37, w41, b43]
     · replace h := br_t b31 h
       cases h
       simp -implicitDefEqProofs only [go_sem, i7, c7, w2, b4, w6, b8, w10, w13, w16, w24, w29, b31]
   · replace h := br_t b8 h
     cases h
     simp -implicitDefEqProofs only [go_sem, i7, c7, w2, b4, w6, b8]
 · replace h := br_t b4 h
   cases h
   simp -implicitDefEqProofs only [go_sem, i7, c7, w2, b4]
end Go.Pi.Ythidbgihjhkjaaa.TermFits
