/- An evaluator of the loaded program's code over trees and rows, proved sound for the machine; no condition -/
import Derived.Test.YtpfoleebeamgpaaPiB
import Derived.Deep.Slices
import Derived.ProofKit
import Derived.Below
set_option linter.all false
/- Pi: a program's tables. -/
namespace Go.Pi
open Go
variable {P : Program}

def mkTab (tys : List (Nat × TyI)) (fns : List (Nat × FnI)) : Tab where
  ty t := (tys.find? fun p => p.1 == t).map (·.2)
  fn f := (fns.find? fun p => p.1 == f).map (·.2)

def FnOk (P : Program) (p : Nat × FnI) : Prop :=
  ∃ (fn : Func) (c : Code), P.funcs[p.1]? = some fn ∧ fn.body = some c ∧ slim c = p.2.body ∧ fn.ntmps = p.2.ntmps ∧ fn.results.toList = p.2.results ∧ (fn.name == "runtime.NumGoroutine") = false

inductive AllFn (P : Program) : List (Nat × FnI) → Prop
  | nil : AllFn P []
  | cons {p : Nat × FnI} {l : List (Nat × FnI)} (h : FnOk P p) (t : AllFn P l) : AllFn P (p :: l)

theorem AllFn.mem {l : List (Nat × FnI)} (h : AllFn P l) : ∀ p ∈ l, FnOk P p := by
  induction h with
  | nil => simp
  | cons h _ ih => intro p hp; rcases List.mem_cons.1 hp with rfl | hp
                   · exact h
                   · exact ih p hp

theorem tabOk_of {tys : List (Nat × TyI)} {fns : List (Nat × FnI)} (h1 : tys.all (fun p => tyChk P p.1 p.2) = true) (h2 : AllFn P fns) : TabOk P (mkTab tys fns) := by
  constructor
  · intro t ti h
    simp only [mkTab, Option.map_eq_some_iff] at h
    obtain ⟨p, hp, rfl⟩ := h
    have hm := List.mem_of_find?_eq_some hp
    have he := List.find?_some hp
    simp only [beq_iff_eq] at he
    subst he
    exact tyChk_ok (List.all_eq_true.1 h1 p hm)
  · intro f fi h
    simp only [mkTab, Option.map_eq_some_iff] at h
    obtain ⟨p, hp, rfl⟩ := h
    have hm := List.mem_of_find?_eq_some hp
    have he := List.find?_some hp
    simp only [beq_iff_eq] at he
    subst he
    exact h2.mem p hm

end Go.Pi

/- Pi: a law's arguments, opened. -/
namespace Go.Pi
open Go
variable {H : Type} {enc : TypeId × Value → H} {P : Program} {w : World} {base : Nat} {spare : Nat → Bool} {held : Bool}

/-- Cells that are read as such abstract values. -/
def Cells (w : World) (avs : List AV) (cs : List Value) : Prop := avs.length = cs.length ∧ ∀ i, i < cs.length → Rd w (fun _ => True) (avs.getD i .undef) (cs.getD i Go.undef)

/-- Every reading at type t is some a's, told by f. -/
def Opens (enc : TypeId × Value → H) (P : Program) (w : World) (base : Nat) (spare : Nat → Bool) (held : Bool) (t : TypeId) {α : Type} (good : α → Prop) (f : α → List AV) : Prop :=
  ∀ fuel cs x, DataW.trod enc P w base spare held fuel t cs = some x → ∃ a, good a ∧ Cells w (f a) cs

theorem opens_int {t : TypeId} {k : IntKind} (ht : P.underlying t = some (.int k)) : Opens enc P w base spare held t (fun n : Int => (Lit.int k n).wf = true) (fun n => [.int k n]) := by
  intro fuel cs x h
  obtain ⟨n, rfl, _, hw⟩ := DataW.trod_int ht h
  exact ⟨n, hw, rfl, fun i hi => by simp at hi; subst hi; exact .int k n⟩

theorem opens_bool {t : TypeId} (ht : P.underlying t = some .bool) : Opens enc P w base spare held t (fun _ : Bool => True) (fun b => [.bool b]) := by
  intro fuel cs x h
  obtain ⟨b, rfl, _⟩ := DataW.trod_bool ht h
  exact ⟨b, trivial, rfl, fun i hi => by simp at hi; subst hi; exact .bool b⟩

theorem opens_string {t : TypeId} (ht : P.underlying t = some .string) : Opens enc P w base spare held t (fun s : ByteArray => s.size ≤ maxLen) (fun s => [.str s]) := by
  intro fuel cs x h
  obtain ⟨s, rfl, _, hs⟩ := DataW.trod_string ht h
  exact ⟨s, hs, rfl, fun i hi => by simp at hi; subst hi; exact .str s⟩

theorem spot_none {w : World} {a : Addr} {v : Value} (h : w.cell? a = some v) : a = ⟨a.block, a.off, none⟩ := by
  obtain ⟨b, o, s⟩ := a
  cases s with
  | none => rfl
  | some k =>
    simp only [World.cell?] at h
    split at h
    · simp at h
    · cases h

theorem pick_list {α : Type} {p : Nat → α → Prop} : ∀ (n : Nat), (∀ i, i < n → ∃ x, p i x) → ∃ q : List α, q.length = n ∧ ∀ i (hi : i < q.length), p i q[i] := by
  intro n
  induction n with
  | zero => intro _; exact ⟨[], rfl, fun i hi => absurd hi (Nat.not_lt_zero i)⟩
  | succ n ih =>
    intro key
    obtain ⟨q, hq, hall⟩ := ih (fun i hi => key i (by omega))
    obtain ⟨x, hx⟩ := key n (by omega)
    refine ⟨q ++ [x], by simp [hq], fun i hi => ?_⟩
    rcases Nat.lt_or_ge i q.length with hlt | hge
    · rw [List.getElem_append_left hlt]; exact hall i hlt
    · have : i = n := by simp at hi; omega
      subst this
      have e : (q ++ [x])[i]'hi = x := by
        rw [List.getElem_append_right (by omega)]
        simp [hq]
      rw [e]; exact hx

theorem opens_slice {t e : TypeId} {α : Type} {good : α → Prop} {f : α → List AV} (ht : P.underlying t = some (.slice e)) (hc : 0 < P.cellsOf e) (he : Opens enc P w base spare held e good f) :
    Opens enc P w base spare held t (fun xs : List α => (∀ x ∈ xs, good x) ∧ xs.length ≤ maxLen) (fun xs => [.ts .imm (P.cellsOf e) (xs.map f)]) := by
  intro fuel cs x h
  rcases Deep.open_slice ht h with ⟨rfl, _⟩ | ⟨a, len, cap, m, n, D, Pl, rfl, hb, hl, hm, hmm, _, hx⟩
  · refine ⟨[], ⟨by simp, by simp⟩, rfl, fun i hi => ?_⟩
    simp at hi; subst hi
    exact .ts .imm _ [] none 0 0 0 (fun _ _ => undef) (by simp) (by simp) (by simp) (by simp) (by simp)
  · have hlm : len ≤ m := by rw [hmm]; split <;> omega
    have key : ∀ i, i < len → ∃ p : α × List Value, good p.1 ∧ Cells w (f p.1) p.2 ∧ w.cells? base (a.add (i * P.cellsOf e)) (P.cellsOf e) = some p.2 := by
      intro i hi
      obtain ⟨cs', h1, h2⟩ := hx i (by omega)
      obtain ⟨y, hg, hcl⟩ := he _ _ _ h2
      exact ⟨(y, cs'), hg, hcl, h1⟩
    have pick := pick_list len key
    obtain ⟨q, hq, hall⟩ := pick
    refine ⟨q.map (·.1), ⟨fun y hy => ?_, by simp; omega⟩, rfl, fun i hi => ?_⟩
    · obtain ⟨p, hp, rfl⟩ := List.mem_map.1 hy
      obtain ⟨i, hi, rfl⟩ := List.getElem_of_mem hp
      exact (hall i hi).1
    · simp at hi; subst hi
      have hlen : (q.map (·.1)).map f = q.map fun p => f p.1 := by simp
      have hl2 : (q.map fun p => f p.1).length = len := by simp [hq]
      have cell : ∀ i j, i < len → j < P.cellsOf e → ∃ c, ((q.map (·.2)).getD i []).getD j undef = c ∧ w.cell? ((a.add (i * P.cellsOf e)).add j) = some c ∧ Rd w (fun _ => True) (at2 (q.map fun p => f p.1) i j) c := by
        intro i j hi hj
        have hi' : i < q.length := by omega
        obtain ⟨_, hcl, h1⟩ := hall i hi'
        obtain ⟨_, h2, h3⟩ := World.cells?_some h1
        have h4 := h3 j hj
        have e1 : ((q.map (·.2)).getD i []) = q[i].2 := by simp [List.getD_eq_getElem?_getD, hi']
        have e2 : q[i].2.getD j undef = q[i].2[j]'(by omega) := by simp [List.getD_eq_getElem?_getD, (by omega : j < q[i].2.length)]
        refine ⟨_, rfl, ?_, ?_⟩
        · rw [e1, e2, h4, List.getElem?_eq_getElem (by omega)]
        · have h5 := hcl.2 j (by omega)
          rw [e1]
          have e3 : at2 (q.map fun p => f p.1) i j = (f q[i].1).getD j .undef := by simp [at2, List.getD_eq_getElem?_getD, hi']
          rw [e3]; exact h5
      have addr : ∀ i j, i < len → j < P.cellsOf e → (a.add (i * P.cellsOf e)).add j = ⟨a.block, a.off + i * P.cellsOf e + j, none⟩ ∧ a = ⟨a.block, a.off, none⟩ := by
        intro i j hi hj
        obtain ⟨c, _, h0, _⟩ := cell 0 0 (by omega) hc
        have hsp : a = ⟨a.block, a.off, none⟩ := by
          have : (a.add (0 * P.cellsOf e)).add 0 = a := by simp [Addr.add]
          rw [this] at h0
          exact spot_none h0
        refine ⟨?_, hsp⟩
        rw [hsp, Addr_add, Addr_add]
      have hrd : Rd w (fun _ => True) (.ts .imm (P.cellsOf e) (q.map fun p => f p.1)) (.slice (some a) (q.map fun p => f p.1).length cap) := by
        refine .ts .imm _ _ (some a) cap a.block a.off (fun i j => ((q.map (·.2)).getD i []).getD j undef) (fun r hr => ?_) (by omega) (fun hn => ?_) (fun i j hi hj => ?_) (fun i j hi hj => ?_)
        · obtain ⟨p, hp, rfl⟩ := List.mem_map.1 hr
          obtain ⟨i, hi, rfl⟩ := List.getElem_of_mem hp
          obtain ⟨_, hcl, h1⟩ := hall i hi
          rw [hcl.1]
          exact (World.cells?_some h1).2.1
        · rw [hl2] at hn
          obtain ⟨c, _, h0, _⟩ := cell 0 0 hn hc
          obtain ⟨ha, hb'⟩ := addr 0 0 hn hc
          refine ⟨by rw [hb'], trivial, ?_⟩
          rw [ha] at h0
          exact cell_lt h0
        · rw [hl2] at hi
          obtain ⟨c, hce, h0, _⟩ := cell i j hi hj
          rw [(addr i j hi hj).1] at h0
          simp only [hce]; exact h0
        · rw [hl2] at hi
          obtain ⟨c, hce, _, h1⟩ := cell i j hi hj
          simp only [hce]; exact h1
      rw [hl2] at hrd
      have e : List.map f (List.map (fun p => p.1) q) = q.map fun p => f p.1 := by simp
      simp only [List.getD_cons_zero, e]
      exact hrd

end Go.Pi

/- Pi: structs opened. -/
namespace Go.Pi
open Go
variable {H : Type} {enc : TypeId × Value → H} {P : Program} {w : World} {base : Nat} {spare : Nat → Bool} {held : Bool}

def seg (P : Program) (cs : List Value) (x : TypeId × Nat) : List Value := (cs.drop x.2).take (P.cellsOf x.1)

def SegOpens (enc : TypeId × Value → H) (P : Program) (w : World) (base : Nat) (spare : Nat → Bool) (held : Bool) (L : List (TypeId × Nat)) {α : Type} (good : α → Prop) (f : α → List AV) : Prop :=
  ∀ n cs, (∀ x ∈ L, ∃ y, DataW.trod enc P w base spare held n x.1 (seg P cs x) = some y) → ∃ a, good a ∧ Cells w (f a) (L.flatMap (seg P cs))

theorem Cells.app {a1 a2 : List AV} {c1 c2 : List Value} (h1 : Cells w a1 c1) (h2 : Cells w a2 c2) : Cells w (a1 ++ a2) (c1 ++ c2) := by
  refine ⟨by simp [h1.1, h2.1], fun i hi => ?_⟩
  have e1 := h1.1
  simp only [List.getD_eq_getElem?_getD, List.getElem?_append]
  by_cases hlt : i < c1.length
  · rw [if_pos hlt, if_pos (by omega)]
    simpa [List.getD_eq_getElem?_getD] using h1.2 i hlt
  · rw [if_neg hlt, if_neg (by omega), e1]
    simpa [List.getD_eq_getElem?_getD] using h2.2 (i - c1.length) (by simp at hi; omega)

theorem seg_nil : SegOpens enc P w base spare held [] (fun _ : Unit => True) (fun _ => []) :=
  fun _ _ _ => ⟨(), trivial, rfl, fun i hi => absurd hi (Nat.not_lt_zero i)⟩

theorem seg_cons {t : TypeId} {off : Nat} {L : List (TypeId × Nat)} {α β : Type} {g1 : α → Prop} {f1 : α → List AV} {g2 : β → Prop} {f2 : β → List AV} (h1 : Opens enc P w base spare held t g1 f1) (h2 : SegOpens enc P w base spare held L g2 f2) :
    SegOpens enc P w base spare held ((t, off) :: L) (fun p : α × β => g1 p.1 ∧ g2 p.2) (fun p => f1 p.1 ++ f2 p.2) := by
  intro n cs h
  obtain ⟨y, hy⟩ := h (t, off) (by simp)
  obtain ⟨a, ga, ha⟩ := h1 _ _ _ hy
  obtain ⟨b, gb, hb⟩ := h2 n cs (fun x hx => h x (by simp [hx]))
  exact ⟨(a, b), ⟨ga, gb⟩, by simpa using ha.app hb⟩

def contig (P : Program) : Nat → List (TypeId × Nat) → Nat → Bool
  | acc, [], total => decide (acc = total)
  | acc, (t, off) :: L, total => decide (off = acc) && contig P (acc + P.cellsOf t) L total

theorem contig_flat {cs : List Value} : ∀ {L : List (TypeId × Nat)} {acc : Nat}, contig P acc L cs.length = true → L.flatMap (seg P cs) = cs.drop acc := by
  intro L
  induction L with
  | nil => intro acc h; simp only [contig, decide_eq_true_eq] at h; subst h; simp
  | cons x L ih =>
    obtain ⟨t, off⟩ := x
    intro acc h
    simp only [contig, Bool.and_eq_true, decide_eq_true_eq] at h
    obtain ⟨rfl, h⟩ := h
    rw [List.flatMap_cons, ih h, seg]
    rw [← List.drop_drop, List.take_append_drop]

theorem opens_struct {t : TypeId} {fs : Array Field} {α : Type} {good : α → Prop} {f : α → List AV} (ht : P.underlying t = some (.struct fs)) (hc : contig P 0 (fs.toList.map fun f => (f.type, f.offset)) (P.cellsOf t) = true)
    (h : SegOpens enc P w base spare held (fs.toList.map fun f => (f.type, f.offset)) good f) : Opens enc P w base spare held t good f := by
  intro fuel cs x hx
  obtain ⟨xs, n, rfl, _, hlen, hxl, hfs⟩ := DataW.trod_struct ht hx
  obtain ⟨a, ga, ha⟩ := h n cs (fun y hy => by
    obtain ⟨fl, hfl, rfl⟩ := List.mem_map.1 hy
    obtain ⟨i, hi⟩ := List.getElem?_of_mem hfl
    have hi' : fs[i]? = some fl := by simpa using hi
    have hlt : i < fs.size := (Array.getElem?_eq_some_iff.1 hi').1
    have := hfs i fl hi'
    exact ⟨xs[i]'(by omega), by rw [seg]; simp only; rw [this, List.getElem?_eq_getElem (by omega)]⟩)
  refine ⟨a, ga, ?_⟩
  rw [← hlen] at hc
  rw [contig_flat hc] at ha
  simpa using ha

theorem Opens.map {t : TypeId} {α β : Type} {good : α → Prop} {f : α → List AV} (h : Opens enc P w base spare held t good f) (φ : α → β) {good' : β → Prop} {f' : β → List AV} (hφ : ∀ a, good a → good' (φ a) ∧ f' (φ a) = f a) : Opens enc P w base spare held t good' f' := by
  intro fuel cs x hx
  obtain ⟨a, ga, ha⟩ := h fuel cs x hx
  obtain ⟨h1, h2⟩ := hφ a ga
  exact ⟨φ a, h1, by rw [h2]; exact ha⟩

/-- The labels at a law's start. -/
def Cx.start : Cx := ⟨0, fun _ => none, fun _ => none, fun _ => none, fun _ => False⟩
theorem sr_start (w : World) : SR w Cx.start [] := ⟨rfl, fun _ h => absurd rfl h, fun _ h => h.elim, fun id ob h => by simp [getOb] at h⟩

theorem Rd.start {av : AV} {u : Value} (h : Rd w (fun _ => True) av u) : Rd w (Cx.start.ok .imm) av u :=
  h.keep (Nat.le_refl _) fun _ _ _ => ⟨rfl, rfl, fun h => h⟩

/-- One argument of one cell. -/
theorem arg_cell {t : TypeId} {α : Type} {good : α → Prop} {f : α → AV} (h : Opens enc P w base spare held t good (fun a => [f a])) {v : Value} {d : DataW H} {ps : List MemPlace} (hd : DataW.Trod enc P w base spare held t v d ps) (hv : ∀ cs, v ≠ .agg cs) (ht : ∀ cs, v ≠ .tuple cs) :
    ∃ a, good a ∧ Rd w (Cx.start.ok .imm) (f a) v := by
  obtain ⟨n, hn⟩ := hd
  obtain ⟨a, ga, ha⟩ := h _ _ _ hn
  have e : v.cells.toList = [v] := by cases v <;> first | rfl | exact absurd rfl (hv _) | exact absurd rfl (ht _)
  rw [e] at ha
  exact ⟨a, ga, (by simpa using ha.2 0 (by simp) : Rd w (fun _ => True) (f a) v).start⟩

end Go.Pi

/- Pi: counted loops. -/
namespace Go.Pi
open Go
variable {T : Tab} {m : Nat}

theorem cons_of {α : Type} {l : List α} {n : Nat} (h : l.length = n + 1) : ∃ x t, l = x :: t ∧ t.length = n := by
  cases l with
  | nil => simp at h
  | cons x t => exact ⟨x, t, rfl, by simpa using h⟩

theorem nil_of {α : Type} {l : List α} (h : l.length = 0) : l = [] := List.eq_nil_of_length_eq_zero h

/-- A loop that goes from i to n by an invariant, and ends with r. -/
theorem loop_to {c : PC} (I : Nat → Fr → St → Prop) (R : Option (Ex × Fr × St) → Prop) (n : Nat) (step : ∀ i fr S, i < n → I i fr S → ∃ fr' S', evCL T m c fr S = some (.normal, fr', S') ∧ I (i + 1) fr' S')
    (stop : ∀ fr S, I n fr S → R (andThen (evCL T m c fr S) (evCL T m (.loop c)))) : ∀ k i fr S, n = i + k → I i fr S → R (evCL T m (.loop c) fr S) := by
  intro k
  induction k with
  | zero => intro i fr S hn hI; obtain rfl : n = i := by omega
            rw [evCL_loop]; exact stop fr S hI
  | succ k ih =>
    intro i fr S hn hI
    obtain ⟨fr', S', h1, h2⟩ := step i fr S (by omega) hI
    rw [evCL_loop, h1]
    exact ih (i + 1) fr' S' (by omega) h2

/-- A loop that may leave early: each round either goes on or ends the loop with what R wants. -/
theorem loop_or {c : PC} (I : Nat → Fr → St → Prop) (R : Option (Ex × Fr × St) → Prop) (n : Nat)
    (step : ∀ i fr S, i < n → I i fr S → (∃ fr' S', evCL T m c fr S = some (.normal, fr', S') ∧ I (i + 1) fr' S') ∨ (∃ ex fr' S', evCL T m c fr S = some (ex, fr', S') ∧ ex ≠ .normal ∧ R (some (ex, fr', S'))))
    (stop : ∀ fr S, I n fr S → R (andThen (evCL T m c fr S) (evCL T m (.loop c)))) : ∀ k i fr S, n = i + k → I i fr S → R (evCL T m (.loop c) fr S) := by
  intro k
  induction k with
  | zero => intro i fr S hn hI; obtain rfl : n = i := by omega
            rw [evCL_loop]; exact stop fr S hI
  | succ k ih =>
    intro i fr S hn hI
    rcases step i fr S (by omega) hI with ⟨fr', S', h1, h2⟩ | ⟨ex, fr', S', h1, hne, h2⟩
    · rw [evCL_loop, h1]
      exact ih (i + 1) fr' S' (by omega) h2
    · rw [evCL_loop, h1]
      cases ex with
      | normal => exact absurd rfl hne
      | exit id => exact h2
      | ret => exact h2

end Go.Pi

/- Pi: small parts for reckoning functions: numbers, lists, calls, loops. -/
namespace Go.Pi
open Go

attribute [simp] evCL_seq evCL_reg evCL_fz evCL_skip evCL_ret evCL_exit evCL_block evOp ofVal evBin isShift finish outs outV outCell outL tupOf baseOf rebaseTop rebase rebaseCell evUn evArgs evBuiltin evLen isRow evLoad evStore absorb absorbL setTop AV.cells AV.isCell splice zeroRow evParts fillAgg fillRow evOpt bounds evAppend sourceOf sourceView lend lend1 lendL lendAll lendPtr lendCell mapO freeze kill min2 max2 foldO maxRow

/-! ### Steps: nothing goes on until what it wants is known -/
section
variable {T : Tab} {m : Nat} {C : Nat → List AV → St → Option (AV × St)} {fr : Fr} {S : St}
@[simp] theorem andThen_none (K : Fr → St → Option (Ex × Fr × St)) : andThen none K = none := rfl
@[simp] theorem andThen_go (K : Fr → St → Option (Ex × Fr × St)) : andThen (some (.normal, fr, S)) K = K fr S := rfl
@[simp] theorem andThen_ret (K : Fr → St → Option (Ex × Fr × St)) : andThen (some (.ret, fr, S)) K = some (.ret, fr, S) := rfl
@[simp] theorem andThen_exit (K : Fr → St → Option (Ex × Fr × St)) (i : Nat) : andThen (some (.exit i, fr, S)) K = some (.exit i, fr, S) := rfl
@[simp] theorem inBlock_none (id : Nat) : inBlock id none = none := rfl
@[simp] theorem inBlock_go (id : Nat) : inBlock id (some (.normal, fr, S)) = some (.normal, fr, S) := rfl
@[simp] theorem inBlock_ret (id : Nat) : inBlock id (some (.ret, fr, S)) = some (.ret, fr, S) := rfl
@[simp] theorem inBlock_exit (id i : Nat) : inBlock id (some (.exit i, fr, S)) = if i = id then some (.normal, fr, S) else some (.exit i, fr, S) := rfl
@[simp] theorem norm_none : norm none = none := rfl
@[simp] theorem norm_ok : norm (some (fr, S)) = some (.normal, fr, S) := rfl
@[simp] theorem close_go (fi : FnI) (S0 : St) : close T fi S0 (some (.normal, fr, S)) = finish T fi S0.length fr S := rfl
@[simp] theorem close_ret (fi : FnI) (S0 : St) : close T fi S0 (some (.ret, fr, S)) = finish T fi S0.length fr S := rfl
noncomputable def pickC (T : Tab) (m : Nat) (a b : PC) (fr : Fr) (S : St) (v : Option AV) : Option (Ex × Fr × St) :=
  match v with
  | some (.bool c) => (if c then evCL T m a fr S else evCL T m b fr S)
  | _ => none
@[simp] theorem evCL_cond1 (x : Operand) (a b : PC) : evCL T m (.cond x a b) fr S = pickC T m a b fr S (evO fr x) := by
  rw [evCL_cond]; rfl
@[simp] theorem pickC_true (a b : PC) : pickC T m a b fr S (some (.bool true)) = evCL T m a fr S := rfl
@[simp] theorem pickC_false (a b : PC) : pickC T m a b fr S (some (.bool false)) = evCL T m b fr S := rfl
def bindO (T : Tab) (m : Nat) (C : Nat → List AV → St → Option (AV × St)) (d : Option Nat) (r : List PO) (fr : Fr) (v : Option (AV × St)) : Option (Fr × St) :=
  match v with
  | none => none
  | some (v, S') => evOps T m C r (put fr d v) S'
@[simp] theorem bindO_none (d : Option Nat) (r : List PO) : bindO T m C d r fr none = none := rfl
@[simp] theorem bindO_d (d : Nat) (r : List PO) (v : AV) : bindO T m C (some d) r fr (some (v, S)) = evOps T m C r (fr.set d v) S := rfl
@[simp] theorem bindO_n (r : List PO) (v : AV) : bindO T m C none r fr (some (v, S)) = evOps T m C r fr S := rfl
@[simp] theorem evOps_nil : evOps T m C [] fr S = some (fr, S) := rfl
@[simp] theorem evOps_go (d : Option Nat) (op : Op) (r : List PO) : evOps T m C (⟨d, op, none⟩ :: r) fr S = bindO T m C d r fr (evOp T m C op fr S) := by
  simp only [evOps, want, if_true, bindO]
  cases evOp T m C op fr S <;> rfl
def gate (T : Tab) (m : Nat) (C : Nat → List AV → St → Option (AV × St)) (d : Option Nat) (op : Op) (r : List PO) (fr : Fr) (S : St) (w : Bool) (g : Option AV) : Option (Fr × St) :=
  if (match g with
    | some (.bool b) => b == w
    | _ => false) then bindO T m C d r fr (evOp T m C op fr S) else evOps T m C r (put fr d .undef) S
@[simp] theorem evOps_gate (d : Option Nat) (op : Op) (g : Nat) (w : Bool) (r : List PO) : evOps T m C (⟨d, op, some (g, w)⟩ :: r) fr S = gate T m C d op r fr S w fr[g]? := by
  simp only [evOps, want, gate, bindO]
  cases evOp T m C op fr S <;> rfl
@[simp] theorem gate_tt (d : Option Nat) (op : Op) (r : List PO) : gate T m C d op r fr S true (some (.bool true)) = bindO T m C d r fr (evOp T m C op fr S) := rfl
@[simp] theorem gate_ff (d : Option Nat) (op : Op) (r : List PO) : gate T m C d op r fr S false (some (.bool false)) = bindO T m C d r fr (evOp T m C op fr S) := rfl
@[simp] theorem gate_tf (d : Option Nat) (op : Op) (r : List PO) : gate T m C d op r fr S true (some (.bool false)) = evOps T m C r (put fr d .undef) S := rfl
@[simp] theorem gate_ft (d : Option Nat) (op : Op) (r : List PO) : gate T m C d op r fr S false (some (.bool true)) = evOps T m C r (put fr d .undef) S := rfl
@[simp] theorem gate_un (d : Option Nat) (op : Op) (r : List PO) (w : Bool) (vs : List AV) : gate T m C d op r fr S w (some (.tup vs)) = evOps T m C r (put fr d .undef) S := rfl
@[simp] theorem put_d (d : Nat) (v : AV) : put fr (some d) v = fr.set d v := rfl
@[simp] theorem put_n (v : AV) : put fr none v = fr := rfl
end

/-! ### Frames: what each temp holds -/
def upd (f : Nat → AV) (d : Nat) (v : AV) : Nat → AV := fun e => if d = e then v else f e
@[simp] theorem upd_same (f : Nat → AV) (d : Nat) (v : AV) : upd f d v d = v := by simp [upd]
theorem upd_ne {f : Nat → AV} {d e : Nat} {v : AV} (h : d ≠ e) : upd f d v e = f e := by simp [upd, h]
def frOf (n : Nat) (f : Nat → AV) : Fr := (List.range n).map f
def ini (args : List AV) : Nat → AV := fun e => args.getD e .undef
@[simp] theorem ini_nil (e : Nat) : ini [] e = .tup [] := by simp [ini]
@[simp] theorem ini_zero (a : AV) (r : List AV) : ini (a :: r) 0 = a := rfl
@[simp] theorem ini_succ (a : AV) (r : List AV) (e : Nat) : ini (a :: r) (e + 1) = ini r e := by simp [ini]
theorem frOf_set {n d : Nat} {f : Nat → AV} {v : AV} : (frOf n f).set d v = frOf n (upd f d v) := by
  apply List.ext_getElem
  · simp [frOf]
  · intro i h1 h2
    simp [frOf, List.getElem_set, upd]
theorem frOf_getD {n e : Nat} {f : Nat → AV} {u : AV} (h : e < n) : (frOf n f).getD e u = f e := by
  simp [frOf, List.getD_eq_getElem?_getD, h]
theorem frOf_get {n e : Nat} {f : Nat → AV} (h : e < n) : (frOf n f)[e]? = some (f e) := by
  simp [frOf, h]
theorem args0_frOf {fi : FnI} {args : List AV} (h : args.length ≤ fi.ntmps) : args0 fi args = frOf fi.ntmps (ini args) := by
  apply List.ext_getElem
  · simp [args0, frOf]; omega
  · intro i h1 h2
    simp [frOf, args0, ini, List.getElem_append, List.getD_eq_getElem?_getD]
    split
    · rename_i h3; simp [h3]
    · rename_i h3; simp [List.getElem?_eq_none (Nat.le_of_not_lt h3)]
theorem evFL_at {T : Tab} {f : Nat} {fi : FnI} (hfi : T.fn f = some fi) {a : List AV} (hl : a.length ≤ fi.ntmps) {S : St} : evFL T f a S = close T fi S (evCL T (baseOf fi S) fi.body (frOf fi.ntmps (ini a)) S) := by
  rw [evFL_eq hfi hl, args0_frOf hl]
@[simp] theorem evO_tmp {n t : Nat} {f : Nat → AV} (h : t < n) : evO (frOf n f) (.tmp t) = some (f t) := by
  simp only [evO, frOf_getD h]
@[simp] theorem evO_const (fr : Fr) (v : Value) : evO fr (.const v) = ofVal v := rfl
@[simp] theorem evO_func (fr : Fr) (g : Nat) : evO fr (.func g) = some (.fn g []) := rfl

@[simp] theorem evInt_eql (k : IntKind) (a b : Int) : evInt .eql k a b = some (.bool (decide (a = b))) := rfl
@[simp] theorem evInt_neq (k : IntKind) (a b : Int) : evInt .neq k a b = some (.bool (!decide (a = b))) := rfl
@[simp] theorem evInt_add (k : IntKind) (a b : Int) : evInt .add k a b = some (.int k (k.wrap (a + b))) := rfl
@[simp] theorem evInt_sub (k : IntKind) (a b : Int) : evInt .sub k a b = some (.int k (k.wrap (a - b))) := rfl
@[simp] theorem evInt_mul (k : IntKind) (a b : Int) : evInt .mul k a b = some (.int k (k.wrap (a * b))) := rfl
@[simp] theorem evInt_and (k : IntKind) (a b : Int) : evInt .and k a b = some (.int k (intBits .and k a b)) := rfl
@[simp] theorem evInt_or (k : IntKind) (a b : Int) : evInt .or k a b = some (.int k (intBits .or k a b)) := rfl
@[simp] theorem evInt_xor (k : IntKind) (a b : Int) : evInt .xor k a b = some (.int k (intBits .xor k a b)) := rfl
@[simp] theorem evInt_andNot (k : IntKind) (a b : Int) : evInt .andNot k a b = some (.int k (intBits .andNot k a b)) := rfl
@[simp] theorem evInt_lss (k : IntKind) (a b : Int) : evInt .lss k a b = some (.bool (decide (a < b))) := rfl
@[simp] theorem evInt_leq (k : IntKind) (a b : Int) : evInt .leq k a b = some (.bool (decide (a ≤ b))) := rfl
@[simp] theorem evInt_gtr (k : IntKind) (a b : Int) : evInt .gtr k a b = some (.bool (decide (b < a))) := rfl
@[simp] theorem evInt_geq (k : IntKind) (a b : Int) : evInt .geq k a b = some (.bool (decide (b ≤ a))) := rfl
@[simp] theorem evInt_quo (k : IntKind) (a b : Int) : evInt .quo k a b = if b = 0 then none else some (.int k (k.wrap (a.tdiv b))) := rfl
@[simp] theorem evInt_rem (k : IntKind) (a b : Int) : evInt .rem k a b = if b = 0 then none else some (.int k (a.tmod b)) := rfl
@[simp] theorem evInt_shl (k : IntKind) (a b : Int) : evInt .shl k a b = if b < 0 then none else some (.int k (k.wrap (a * 2 ^ (min b.toNat k.bits)))) := rfl
@[simp] theorem evInt_shr (k : IntKind) (a b : Int) : evInt .shr k a b = if b < 0 then none else some (.int k (a.fdiv (2 ^ (min b.toNat k.bits)))) := rfl

/-! ### Numbers -/
theorem wrap64 {x : Int} (h1 : -9223372036854775808 ≤ x) (h2 : x < 9223372036854775808) : IntKind.i64.wrap x = x := by
  simp [IntKind.wrap, IntKind.bits, IntKind.signed]
  omega

@[simp] theorem int_lt_succ (a : Int) : a < a + 1 := by omega
@[simp] theorem int_le_succ (a : Int) : a ≤ a + 1 := by omega

/-! ### Lists -/
def nth {α : Type} [Inhabited α] (xs : List α) (i : Nat) : α := xs.getD i default

theorem nth_map {α β : Type} [Inhabited α] {xs : List α} {f : α → β} {i : Nat} (h : i < xs.length) : (xs[i]?).map f = some (f (nth xs i)) := by
  simp [nth, h]
theorem map_get {α β : Type} [Inhabited α] {xs : List α} {f : α → β} {i : Nat} (h : i < xs.length) : (xs.map f)[i]? = some (f (nth xs i)) := by
  simp [nth, h]
theorem nth_get {α : Type} [Inhabited α] {xs : List α} {i : Nat} (h : i < xs.length) : xs[i]? = some (nth xs i) := by
  simp [nth, h]
theorem nth_eq {α : Type} [Inhabited α] {xs : List α} {i : Nat} (h : i < xs.length) : nth xs i = xs[i] := by
  simp [nth, h]
theorem nth_mem {α : Type} [Inhabited α] {xs : List α} {i : Nat} (h : i < xs.length) : nth xs i ∈ xs := by
  rw [nth_eq h]; exact List.getElem_mem h
theorem drop_nth {α : Type} [Inhabited α] {xs : List α} {i : Nat} (h : i < xs.length) : xs.drop i = nth xs i :: xs.drop (i + 1) := by
  rw [nth_eq h]; exact List.drop_eq_getElem_cons h
theorem take_nth {α : Type} [Inhabited α] {xs : List α} {i : Nat} (h : i < xs.length) : xs.take (i + 1) = xs.take i ++ [nth xs i] := by
  rw [nth_eq h, List.take_add_one, List.getElem?_eq_getElem h]; rfl

theorem getOb_last (S : St) (b : Option Ob) : getOb (S ++ [b]) S.length = b := by
  simp [getOb]; cases b <;> rfl
@[simp] theorem getOb_at (S S2 : St) (b : Option Ob) : getOb (S ++ b :: S2) S.length = b := by
  simp [getOb]; cases b <;> rfl
@[simp] theorem getOb_nil (n : Nat) : getOb [] n = none := by simp [getOb]
@[simp] theorem getOb_zero (b : Option Ob) (S : St) : getOb (b :: S) 0 = b := by
  simp [getOb]; cases b <;> rfl
@[simp] theorem getOb_succ (b : Option Ob) (S : St) (n : Nat) : getOb (b :: S) (n + 1) = getOb S n := by simp [getOb]
theorem getOb_app {S S2 : St} {n : Nat} (h : n < S.length) : getOb (S ++ S2) n = getOb S n := by simp [getOb, List.getElem?_append_left h]
@[simp] theorem getOb_plus (S L : St) (k : Nat) : getOb (S ++ L) (S.length + k) = getOb L k := by simp [getOb, List.getElem?_append_right]
@[simp] theorem set_plus {α : Type} (S L : List α) (k : Nat) (v : α) : (S ++ L).set (S.length + k) v = S ++ L.set k v := by
  simp
@[simp] theorem set_at (S S2 : St) (b c : Option Ob) : (S ++ b :: S2).set S.length c = S ++ c :: S2 := by simp

/-- A row that is being filled from the left. -/
def filled {α β : Type} (f : α → β) (z : β) (xs : List α) (i : Nat) : List β := (xs.take i).map f ++ List.replicate (xs.length - i) z
theorem filled_zero {α β : Type} (f : α → β) (z : β) (xs : List α) : List.replicate xs.length z = filled f z xs 0 := by simp [filled]
theorem filled_end {α β : Type} (f : α → β) (z : β) (xs : List α) : filled f z xs xs.length = xs.map f := by simp [filled]
@[simp] theorem filled_length {α β : Type} (f : α → β) (z : β) (xs : List α) (i : Nat) : (filled f z xs i).length = xs.length := by simp [filled]; omega
theorem filled_get {α β : Type} {f : α → β} {z : β} {xs : List α} {i : Nat} (h : i < xs.length) : (filled f z xs i)[i]? = some z := by
  have e : xs.length - i = (xs.length - i - 1) + 1 := by omega
  simp only [filled]
  rw [List.getElem?_append_right (by simp; omega), e, List.replicate_succ]
  simp [Nat.min_eq_left (Nat.le_of_lt h)]
theorem filled_set {α β : Type} [Inhabited α] {f : α → β} {z : β} {xs : List α} {i : Nat} (h : i < xs.length) : (filled f z xs i).set i (f (nth xs i)) = filled f z xs (i + 1) := by
  have e : xs.length - i = (xs.length - (i + 1)) + 1 := by omega
  simp only [filled]
  rw [e, List.replicate_succ, take_nth h]
  simp [Nat.min_eq_left (Nat.le_of_lt h)]

/-! ### Tests of all, and the first -/
def inR (n lo hi : Int) : Bool := decide (lo ≤ n) && decide (n ≤ hi)
def allB (n : Nat) (p : Nat → Bool) : Bool := (List.range n).all p
@[simp] theorem allB_zero (p : Nat → Bool) : allB 0 p = true := rfl
theorem allB_succ (n : Nat) (p : Nat → Bool) : allB (n + 1) p = (allB n p && p n) := by simp [allB, List.range_succ]
theorem allB_no {n i : Nat} {p : Nat → Bool} (h : i < n) (hp : p i = false) : allB n p = false := by
  simp [allB]; exact ⟨i, h, hp⟩
theorem allB_iff {n : Nat} {p : Nat → Bool} : allB n p = true ↔ ∀ i, i < n → p i = true := by simp [allB]
theorem allB_congr {n : Nat} {p q : Nat → Bool} (h : ∀ i, i < n → p i = q i) : allB n p = allB n q := by
  rw [Bool.eq_iff_iff, allB_iff, allB_iff]
  exact forall_congr' fun i => forall_congr' fun hi => by rw [h i hi]
theorem allB_list {α : Type} [Inhabited α] (xs : List α) (p : α → Bool) : allB xs.length (fun i => p (nth xs i)) = xs.all p := by
  rw [Bool.eq_iff_iff, allB_iff, List.all_eq_true]
  constructor
  · intro h x hx
    obtain ⟨i, hi, rfl⟩ := List.getElem_of_mem hx
    rw [← nth_eq hi]; exact h i hi
  · intro h i hi; exact h _ (nth_mem hi)
/-- The index of the first that passes, else -1. -/
def idxF {α : Type} (p : α → Bool) : List α → Int
  | [] => -1
  | x :: r => if p x then 0 else if idxF p r < 0 then -1 else idxF p r + 1
theorem idxF_ge {α : Type} (p : α → Bool) (xs : List α) : -1 ≤ idxF p xs ∧ idxF p xs < xs.length := by
  induction xs with
  | nil => simp [idxF]
  | cons x r ih =>
    simp only [idxF, List.length_cons]
    by_cases h : p x = true
    · simp [h] <;> omega
    · by_cases h2 : idxF p r < 0
      · simp [h, h2]; omega
      · simp only [h, h2, if_false]; simp; omega
theorem idxF_any {α : Type} (p : α → Bool) (xs : List α) : decide (0 ≤ idxF p xs) = xs.any p := by
  induction xs with
  | nil => simp [idxF]
  | cons x r ih =>
    simp only [idxF, List.any_cons, ← ih]
    have := idxF_ge p r
    by_cases h : p x = true
    · simp [h]
    · by_cases h2 : idxF p r < 0
      · simp [h, h2]
      · have h3 : 0 ≤ idxF p r + 1 := by omega
        have h4 : 0 ≤ idxF p r := by omega
        simp [h, h2, h3, h4]
theorem idxF_hit {α : Type} [Inhabited α] {p : α → Bool} : ∀ {xs : List α} {i : Nat}, i < xs.length → (∀ j, j < i → p (nth xs j) = false) → p (nth xs i) = true → idxF p xs = i := by
  intro xs
  induction xs with
  | nil => intro i hi; simp at hi
  | cons x r ih =>
    intro i hi hf hp
    cases i with
    | zero => simp [nth] at hp; simp [idxF, hp]
    | succ i =>
      have h0 := hf 0 (by omega)
      simp [nth] at h0
      have h := ih (i := i) (by simpa using hi) (fun j hj => by have := hf (j + 1) (by omega); simpa [nth] using this) (by simpa [nth] using hp)
      simp [idxF, h0, h]; omega
theorem idxF_miss {α : Type} [Inhabited α] {p : α → Bool} : ∀ {xs : List α}, (∀ j, j < xs.length → p (nth xs j) = false) → idxF p xs = -1 := by
  intro xs
  induction xs with
  | nil => intro _; rfl
  | cons x r ih =>
    intro hf
    have h0 := hf 0 (by simp)
    simp [nth] at h0
    have h := ih (fun j hj => by have := hf (j + 1) (by simpa using hj); simpa [nth] using this)
    simp [idxF, h0, h]
theorem fa_succ {p : Nat → Prop} {i : Nat} (hf : ∀ j, j < i → p j) (hp : p i) : ∀ j, j < i + 1 → p j := by
  intro j hj
  rcases Nat.lt_succ_iff_lt_or_eq.1 hj with h | rfl
  · exact hf j h
  · exact hp
theorem fa_all {α : Type} [Inhabited α] {xs : List α} {p : α → Bool} (hf : ∀ j, j < xs.length → p (nth xs j) = true) : xs.all p = true := by
  rw [← allB_list, allB_iff]; exact hf
theorem fa_no {α : Type} [Inhabited α] {xs : List α} {p : α → Bool} {i : Nat} (hi : i < xs.length) (hp : p (nth xs i) = false) : xs.all p = false := by
  rw [← allB_list]; exact allB_no hi hp
theorem any_no {α : Type} [Inhabited α] {xs : List α} {p : α → Bool} (hf : ∀ j, j < xs.length → p (nth xs j) = false) : xs.any p = false := by
  rw [List.any_eq_false]
  intro x hx
  obtain ⟨i, hi, rfl⟩ := List.getElem_of_mem hx
  rw [← nth_eq hi, hf i hi]; simp
theorem any_hit {α : Type} [Inhabited α] {xs : List α} {p : α → Bool} {i : Nat} (hi : i < xs.length) (hp : p (nth xs i) = true) : xs.any p = true :=
  List.any_eq_true.2 ⟨_, nth_mem hi, hp⟩
theorem take_map {α β : Type} (f : α → β) (xs : List α) (i : Nat) : (xs.map f).take i = (xs.take i).map f := by simp
theorem drop_map {α β : Type} (f : α → β) (xs : List α) (i : Nat) : (xs.map f).drop i = (xs.drop i).map f := by simp
theorem nth_take {α : Type} [Inhabited α] {xs : List α} {i j : Nat} (h : j < i) : nth (xs.take i) j = nth xs j := by
  simp [nth, List.getD_eq_getElem?_getD, h]
theorem any_neg {α : Type} (p : α → Bool) (xs : List α) : (xs.any fun x => !p x) = !xs.all p := by
  induction xs with
  | nil => rfl
  | cons x r ih => simp [ih]
theorem none_succ {p : Nat → Bool} {i : Nat} (hf : ∀ j, j < i → p j = false) (hp : p i = false) : ∀ j, j < i + 1 → p j = false := by
  intro j hj
  rcases Nat.lt_succ_iff_lt_or_eq.1 hj with h | rfl
  · exact hf j h
  · exact hp

/-! ### Trees -/
@[simp] theorem setQL_nil (q : Ql) : setQL q [] = [] := rfl
@[simp] theorem setQL_cons (q : Ql) (c : AV) (r : List AV) : setQL q (c :: r) = setQ q c :: setQL q r := rfl
@[simp] theorem setQ_int (q : Ql) (k : IntKind) (n : Int) : setQ q (.int k n) = .int k n := rfl
@[simp] theorem setQ_bool (q : Ql) (b : Bool) : setQ q (.bool b) = .bool b := rfl
@[simp] theorem setQ_str (q : Ql) (s : ByteArray) : setQ q (.str s) = .str s := rfl
attribute [simp] setQ_ts
@[simp] theorem setQLL_map {α : Type} (q : Ql) (f : α → List AV) (xs : List α) : setQLL q (xs.map f) = xs.map fun x => setQL q (f x) := by
  induction xs with
  | nil => rfl
  | cons x r ih => simp [setQLL, ih]
@[simp] theorem window_all {α : Type} (f : α → List AV) (xs : List α) : window (xs.map f) 0 xs.length = xs.map f := by
  simp only [window, List.drop_zero]
  exact List.take_of_length_le (by simp)

attribute [simp] ownOnly ownOnlyL ownOnlyLL
@[simp] theorem ownOnlyLL_map {α : Type} (f : α → List AV) (xs : List α) : ownOnlyLL (xs.map f) = xs.all fun x => ownOnlyL (f x) := by
  induction xs with
  | nil => rfl
  | cons x r ih => simp [ownOnlyLL, ih]

/-! ### Calls -/
def afterC (S : St) (r : Option (AV × St)) : Option (AV × St) :=
  match r with
  | none => none
  | some (res, S') => some (rebaseTop 0 S.length res, S ++ S')
def lendC (F : List AV → St → Option (AV × St)) (S : St) (l : Option (List AV)) : Option (AV × St) :=
  match l with
  | none => none
  | some args' => afterC S (F args' [])
@[simp] theorem lendC_some (F : List AV → St → Option (AV × St)) (S : St) (l : List AV) : lendC F S (some l) = afterC S (F l []) := rfl
@[simp] theorem afterC_int (S S' : St) (k : IntKind) (n : Int) : afterC S (some (.int k n, S')) = some (.int k n, S ++ S') := by simp [afterC]
@[simp] theorem afterC_bool (S S' : St) (b : Bool) : afterC S (some (.bool b, S')) = some (.bool b, S ++ S') := by simp [afterC]
@[simp] theorem afterC_str (S S' : St) (b : ByteArray) : afterC S (some (.str b, S')) = some (.str b, S ++ S') := by simp [afterC]
@[simp] theorem afterC_sl (S S' : St) (id lo n : Nat) : afterC S (some (.sl id lo n, S')) = some (.sl (S.length + id) lo n, S ++ S') := by
  simp [afterC]; intro h; have h := List.eq_nil_of_length_eq_zero h.symm; subst h; simp
@[simp] theorem afterC_agg (S S' : St) (cs : List AV) : afterC S (some (.agg cs, S')) = some (.agg (cs.map (rebaseCell 0 S.length)), S ++ S') := by
  simp [afterC]; intro h; have h := List.eq_nil_of_length_eq_zero h.symm; subst h; simp
  have e : rebaseCell 0 0 = id := by funext c; cases c <;> simp
  rw [e]; simp
@[simp] theorem afterC_tup (S S' : St) (vs : List AV) : afterC S (some (.tup vs, S')) = some (.tup (vs.map (rebase 0 S.length)), S ++ S') := by
  simp [afterC]; intro h; have h := List.eq_nil_of_length_eq_zero h.symm; subst h; simp
  have e : rebase 0 0 = id := by
    have e : rebaseCell 0 0 = id := by funext c; cases c <;> simp
    funext v; cases v <;> simp [e]
  rw [e]; simp

theorem evCall0 {T : Tab} {m : Nat} {F : Nat → List AV → St → Option (AV × St)} {f : Nat} {fi : FnI} (h : T.fn f = some fi) (hk : fi.kind = 0) (ht : fi.tree = false) (args : List AV) (S : St) :
    evCall T m F f args S = lendC (F f) S (lendAll S fi.pes args) := by
  simp only [evCall, h, hk, ht, lendC]
  cases lendAll S fi.pes args with
  | none => rfl
  | some a => simp only [afterC]; cases F f a [] with
    | none => rfl
    | some p => simp

def afterZ (S : St) (res : List (List Nat)) (r : Option (AV × St)) : Option (AV × St) :=
  match r with
  | none => none
  | some (v, Sr) => match freeze Sr res v with
    | none => none
    | some v => some (v, S)
def lendZ (F : List AV → St → Option (AV × St)) (S : St) (res : List (List Nat)) (l : Option (List AV)) : Option (AV × St) :=
  match l with
  | none => none
  | some args' => afterZ S res (F args' [])
@[simp] theorem lendZ_some (F : List AV → St → Option (AV × St)) (S : St) (res : List (List Nat)) (l : List AV) : lendZ F S res (some l) = afterZ S res (F l []) := rfl
@[simp] theorem afterZ_int (S S' : St) (k : IntKind) (n : Int) (e : Nat) : afterZ S [[e]] (some (.int k n, S')) = some (.int k n, S) := by simp [afterZ]
@[simp] theorem afterZ_bool (S S' : St) (b : Bool) (e : Nat) : afterZ S [[e]] (some (.bool b, S')) = some (.bool b, S) := by simp [afterZ]
@[simp] theorem afterZ_str (S S' : St) (b : ByteArray) (e : Nat) : afterZ S [[e]] (some (.str b, S')) = some (.str b, S) := by simp [afterZ]

def bindZ (S : St) (v : Option AV) : Option (AV × St) :=
  match v with
  | none => none
  | some v => some (v, S)
def bindZt (S : St) (v : Option (List AV)) : Option (AV × St) :=
  match v with
  | none => none
  | some v => some (.tup v, S)
@[simp] theorem bindZ_some (S : St) (v : AV) : bindZ S (some v) = some (v, S) := rfl
@[simp] theorem bindZt_some (S : St) (v : List AV) : bindZt S (some v) = some (.tup v, S) := rfl
@[simp] theorem afterZ_sl (S S' : St) (id lo n e : Nat) : afterZ S [[e]] (some (.sl id lo n, S')) = bindZ S (lend S' [e] (.sl id lo n)) := by
  simp only [afterZ, freeze, bindZ]
@[simp] theorem afterZ_agg (S S' : St) (cs : List AV) (es : List Nat) : afterZ S [es] (some (.agg cs, S')) = bindZ S (lend S' es (.agg cs)) := by
  simp only [afterZ, freeze, bindZ]
@[simp] theorem afterZ_tup (S S' : St) (vs : List AV) (es : List (List Nat)) : afterZ S es (some (.tup vs, S')) = bindZt S (lendAll S' es vs) := by
  simp only [afterZ, freeze, bindZt]
  cases lendAll S' es vs <;> rfl

theorem evCallFz0 {T : Tab} {F : Nat → List AV → St → Option (AV × St)} {f : Nat} {fi : FnI} (h : T.fn f = some fi) (hk : fi.kind = 0) (ht : fi.tree = false) (args : List AV) (S : St) :
    evCallFz T F f args S = lendZ (F f) S fi.res (lendAll S fi.pes args) := by
  simp only [evCallFz, h, hk, ht, lendZ]
  simp only [Nat.zero_ne_one, Bool.false_eq_true, or_self, if_false, reduceCtorEq]
  cases lendAll S fi.pes args with
  | none => simp
  | some a =>
    simp only [afterZ]
    cases F f a [] with
    | none => simp
    | some p => obtain ⟨v, Sr⟩ := p
                simp only []
                cases freeze Sr fi.res v <;> simp

/-! ### Budgets -/
def szL (n : Nat) (l : Int) : Int := if l - n < 0 then -1 else l - n
def szThen (l : Int) (k : Int → Int) : Int := if l < 0 then -1 else k l
def szGo {α : Type} (f : α → Int → Int) : List α → Int → Int
  | [], l => l
  | x :: r, l => if f x l < 0 then -1 else szGo f r (f x l)
def szS {α : Type} (f : α → Int → Int) (xs : List α) (l : Int) : Int := if l - xs.length < 0 then -1 else szGo f xs (l - xs.length)
theorem szL_le (n : Nat) (l : Int) (h : 0 ≤ l) : szL n l ≤ l ∧ -1 ≤ szL n l ∧ (0 ≤ szL n l → l ≤ 1048576 → n ≤ 1048576) := by
  unfold szL; split <;> refine ⟨by omega, by omega, fun _ _ => by omega⟩
theorem szGo_le {α : Type} {f : α → Int → Int} {sm : α → Prop} {xs : List α} (hf : ∀ x ∈ xs, ∀ l, 0 ≤ l → f x l ≤ l ∧ -1 ≤ f x l ∧ (0 ≤ f x l → l ≤ 1048576 → sm x)) : ∀ l, 0 ≤ l → szGo f xs l ≤ l ∧ -1 ≤ szGo f xs l ∧ (0 ≤ szGo f xs l → l ≤ 1048576 → ∀ x ∈ xs, sm x) := by
  induction xs with
  | nil => intro l hl; simp [szGo]; omega
  | cons x r ih =>
    intro l hl
    have h1 := hf x (by simp) l hl
    simp only [szGo]
    split
    · refine ⟨by omega, by omega, fun h => by omega⟩
    · have h2 := ih (fun y hy => hf y (by simp [hy])) (f x l) (by omega)
      refine ⟨by omega, by omega, fun h hl2 y hy => ?_⟩
      rcases List.mem_cons.1 hy with rfl | hy
      · exact h1.2.2 (by omega) hl2
      · exact h2.2.2 h (by omega) y hy
theorem szS_le {α : Type} {f : α → Int → Int} {sm : α → Prop} {xs : List α} (hf : ∀ x ∈ xs, ∀ l, 0 ≤ l → f x l ≤ l ∧ -1 ≤ f x l ∧ (0 ≤ f x l → l ≤ 1048576 → sm x)) (l : Int) (hl : 0 ≤ l) : szS f xs l ≤ l ∧ -1 ≤ szS f xs l ∧ (0 ≤ szS f xs l → l ≤ 1048576 → xs.length ≤ 1048576 ∧ ∀ x ∈ xs, sm x) := by
  unfold szS
  split
  · refine ⟨by omega, by omega, fun h => by omega⟩
  · have h2 := szGo_le hf (l - xs.length) (by omega)
    exact ⟨by omega, by omega, fun h hl2 => ⟨by omega, h2.2.2 h (by omega)⟩⟩

/-! ### Loops -/
inductive Step1 (I : Nat → Fr → St → Prop) (R : Option (Ex × Fr × St) → Prop) (i : Nat) : Option (Ex × Fr × St) → Prop where
  | go (fr S) (h : I (i + 1) fr S) : Step1 I R i (some (.normal, fr, S))
  | ret (fr S) (h : R (some (.ret, fr, S))) : Step1 I R i (some (.ret, fr, S))
  | exit (id fr S) (h : R (some (.exit id, fr, S))) : Step1 I R i (some (.exit id, fr, S))
inductive End1 (R : Option (Ex × Fr × St) → Prop) : Option (Ex × Fr × St) → Prop where
  | ret (fr S) (h : R (some (.ret, fr, S))) : End1 R (some (.ret, fr, S))
  | exit (id fr S) (h : R (some (.exit id, fr, S))) : End1 R (some (.exit id, fr, S))

theorem loopQ {T : Tab} {m : Nat} {c : PC} (I : Nat → Fr → St → Prop) (R : Option (Ex × Fr × St) → Prop) (n : Nat) (step : ∀ i fr S, i < n → I i fr S → Step1 I R i (evCL T m c fr S)) (stop : ∀ fr S, I n fr S → End1 R (evCL T m c fr S)) :
    ∀ i fr S, i ≤ n → I i fr S → R (evCL T m (.loop c) fr S) := by
  intro i fr S hi
  obtain ⟨k, hk⟩ := Nat.exists_eq_add_of_le hi
  refine loop_or I R n (fun i fr S hi hI => ?_) (fun fr S hI => ?_) k i fr S hk
  · have h := step i fr S hi hI
    revert h
    generalize evCL T m c fr S = r
    intro h
    cases h with
    | go fr' S' h => exact .inl ⟨fr', S', rfl, h⟩
    | ret fr' S' h => exact .inr ⟨_, fr', S', rfl, nofun, h⟩
    | exit id fr' S' h => exact .inr ⟨_, fr', S', rfl, nofun, h⟩
  · have h := stop fr S hI
    revert h
    generalize evCL T m c fr S = r
    intro h
    cases h with
    | ret fr' S' h => exact h
    | exit id fr' S' h => exact h

/-- A round of a loop that ends by a measure that falls. -/
inductive StepM (I : Nat → Fr → St → Prop) (R : Option (Ex × Fr × St) → Prop) (k : Nat) : Option (Ex × Fr × St) → Prop where
  | go (fr S) (k' : Nat) (hk : k' < k) (h : I k' fr S) : StepM I R k (some (.normal, fr, S))
  | ret (fr S) (h : R (some (.ret, fr, S))) : StepM I R k (some (.ret, fr, S))
  | exit (id fr S) (h : R (some (.exit id, fr, S))) : StepM I R k (some (.exit id, fr, S))

theorem loopM {T : Tab} {m : Nat} {c : PC} (I : Nat → Fr → St → Prop) (R : Option (Ex × Fr × St) → Prop) (step : ∀ k fr S, I k fr S → StepM I R k (evCL T m c fr S)) :
    ∀ k fr S, I k fr S → R (evCL T m (.loop c) fr S) := by
  intro k
  induction k using Nat.strongRecOn with
  | _ k ih =>
    intro fr S hI
    rw [evCL_loop]
    have h := step k fr S hI
    revert h
    generalize evCL T m c fr S = r
    intro h
    cases h with
    | go fr' S' k' hk h => exact ih k' hk fr' S' h
    | ret fr' S' h => exact h
    | exit id fr' S' h => exact h

end Go.Pi

/- Pi: a row's end. -/
namespace Go.Pi
open Go Go.RowKit

theorem row_calls {P : Program} {T : Tab} (ht : TabOk P T) {f : Nat} {args : List AV} {w : World} {us : List Value} (h : evFL T f args [] = some (.bool true, [])) (hl : args.length = us.length)
    (hv : ∀ i, i < args.length → VR w Cx.start (args.getD i .undef) (us.getD i Go.undef)) : Calls P f us.toArray w (fun e w' => e = .returned (.bool true) ∧ Below w.heap.size w w') := by
  obtain ⟨fi, _, _, hc⟩ := fokL ht f args [] _ _ h
  refine (hc w Cx.start us (sr_start w) hl hv).mono fun e w' ⟨v, X', he, hs, _, hr⟩ => ?_
  subst he
  cases hr
  exact ⟨rfl, hs.os, hs.tape, hs.output, hs.size, fun b hb => (hs.keep b hb (not_root_of_none rfl)).1⟩

def immTop : AV → Bool
  | .int _ _ | .bool _ | .str _ => true
  | .ts .imm _ _ => true
  | _ => false

theorem vr_imm {w : World} {c : AV} {v : Value} (h : Rd w (Cx.start.ok .imm) c v) (hc : immTop c = true) : VR w Cx.start c v := by
  cases c with
  | int k n => cases h; exact .int k n
  | bool b => cases h; exact .bool b
  | str s => cases h; exact .str s
  | ts q sz els =>
    cases q with
    | imm => exact .ts .imm (by simp) sz els v h
    | own => simp [immTop] at hc
    | bor => simp [immTop] at hc
  | _ => simp [immTop] at hc

variable {H : Type} {enc : TypeId × Value → H} {P : Program} {w : World} {base : Nat} {spare : Nat → Bool} {held : Bool}
theorem arg_cell1 {t : TypeId} {α : Type} {good : α → Prop} {f : α → List AV} (h : Opens enc P w base spare held t good f) {v : Value} {d : DataW H} {ps : List MemPlace} (hd : DataW.Trod enc P w base spare held t v d ps) (hv : v.cells.toList = [v]) (hi : ∀ a, ∃ c, f a = [c] ∧ immTop c = true) :
    ∃ a c, good a ∧ f a = [c] ∧ VR w Cx.start c v := by
  obtain ⟨n, hn⟩ := hd
  obtain ⟨a, ga, ha⟩ := h _ _ _ hn
  rw [hv] at ha
  obtain ⟨c, hc, hi⟩ := hi a
  rw [hc] at ha
  exact ⟨a, c, ga, hc, vr_imm ((by simpa using ha.2 0 (by simp) : Rd w (fun _ => True) c v).start) hi⟩

theorem arg_agg {t : TypeId} {α : Type} {good : α → Prop} {f : α → List AV} (h : Opens enc P w base spare held t good f) {cs : Array Value} {d : DataW H} {ps : List MemPlace} (hd : DataW.Trod enc P w base spare held t (.agg cs) d ps) (hi : ∀ a, (f a).all immTop = true) :
    ∃ a, good a ∧ VR w Cx.start (.agg (f a)) (.agg cs) := by
  obtain ⟨n, hn⟩ := hd
  obtain ⟨a, ga, ha⟩ := h _ _ _ hn
  refine ⟨a, ga, ?_⟩
  have e : (Value.agg cs).cells.toList = cs.toList := rfl
  rw [e] at ha
  have h1 : VR w Cx.start (.agg (f a)) (.agg cs.toList.toArray) := by
    refine .agg _ _ ha.1 fun i hi' => ?_
    refine vr_imm (ha.2 i (by rw [← ha.1]; exact hi')).start ?_
    have := List.all_eq_true.1 (hi a) ((f a).getD i .undef) (by rw [List.getD_eq_getElem?_getD, List.getElem?_eq_getElem hi']; exact List.getElem_mem hi')
    exact this
  simpa using h1

end Go.Pi
