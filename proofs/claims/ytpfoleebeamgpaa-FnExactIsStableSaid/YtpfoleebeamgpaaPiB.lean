/- An evaluator of the loaded program's code over trees and rows, proved sound for the machine; no condition -/
import Derived.Test.YtpfoleebeamgpaaPiA
set_option linter.all false
/- Pi: what is lent. -/
namespace Go.Pi
open Go
variable {P : Program} {T : Tab} {o : Oper} {a : Act} {w w' : World} {X X' : Cx} {fr : Fr} {S S' : St} {v : AV}

/-- The labels inside a call that is lent its arguments: no rows; trees may lead to A's blocks alone. -/
def Cx.inner (X : Cx) (sz : Nat) (A : Nat → Prop) : Cx where
  N := 0
  root _ := none
  par := X.par
  φ _ := none
  pro b := X.pro b ∨ (b < sz ∧ ¬ A b)

theorem sr_inner (hS : SR w X S) (A : Nat → Prop) : SR w (X.inner w.heap.size A) [] :=
  ⟨rfl, fun b hb => absurd rfl hb, fun b hb => by
    rcases hb with h | h
    · exact hS.pro b h
    · exact h.1, fun id ob h => by simp [getOb] at h⟩

theorem Rd.inner {A : Nat → Prop} {q : Ql} {av : AV} {u : Value} (h : Rd w (X.ok q) av u) (hA : ∀ b, b < w.heap.size → X.ok q b → A b) : Rd w ((X.inner w.heap.size A).ok .imm) av u :=
  h.keep (Nat.le_refl _) fun b hb hok => ⟨rfl, rfl, fun hp => by
    rcases hp with h | h
    · exact Cx.ok_npro hok h
    · exact h.2 (hA b hb hok)⟩

theorem ownOnlyL_mem {l : List AV} (h : ownOnlyL l = true) : ∀ x ∈ l, ownOnly x = true := by
  induction l with
  | nil => simp
  | cons a l ih =>
    simp only [ownOnlyL, Bool.and_eq_true] at h
    intro x hx
    rcases List.mem_cons.1 hx with rfl | hx
    · exact h.1
    · exact ih h.2 x hx

theorem ownOnlyLL_rows {l : List (List AV)} (h : ownOnlyLL l = true) : ∀ r ∈ l, ownOnlyL r = true := by
  induction l with
  | nil => simp
  | cons a l ih =>
    simp only [ownOnlyLL, Bool.and_eq_true] at h
    intro x hx
    rcases List.mem_cons.1 hx with rfl | hx
    · exact h.1
    · exact ih h.2 x hx

theorem ownOnlyLL_mem {l : List (List AV)} (h : ownOnlyLL l = true) {i j : Nat} {sz : Nat} (hrow : ∀ r ∈ l, r.length = sz) (hi : i < l.length) (hj : j < sz) : ownOnly (at2 l i j) = true := by
  have h1 := ownOnlyLL_rows h l[i] (List.getElem_mem hi)
  have hlen : l[i].length = sz := hrow _ (List.getElem_mem hi)
  have := ownOnlyL_mem h1 (l[i][j]'(by omega)) (List.getElem_mem _)
  simpa [at2, List.getD_eq_getElem?_getD, hi, hlen, hj] using this

/-- The blocks of a row that owns all it holds. -/
theorem CR.own_read {rid : Nat} {loc : Nat × Nat} {av : AV} {u : Value} (h : CR w X rid loc av u) (ho : ownOnly av = true) : Rd w (fun b => X.root b = some rid ∧ ¬ X.pro b) av u := by
  induction h with
  | int loc k n => exact .int k n
  | bool loc b => exact .bool b
  | str loc s => exact .str s
  | nil loc => exact .nil
  | nilp loc => exact .nilp
  | fn loc f => exact .fn f
  | ts loc q hq sz els v h => cases q <;> simp [ownOnly] at ho hq
  | tp loc q hq sz els i j v h => simp [ownOnly] at ho
  | own loc sz els A cap g o c hrow hcap hA hc _ ih =>
    have hall : ∀ i j, i < els.length → j < sz → ownOnly (at2 els i j) = true := by
      intro i j hi hj
      simp only [ownOnly, Bool.and_eq_true] at ho
      exact ownOnlyLL_mem ho.2 hrow hi hj
    refine .ts _ sz els A cap g o c hrow hcap (fun hn => ?_) hc (fun i j hi hj => ih i j hi hj (hall i j hi hj))
    obtain ⟨h1, h2, h3, hnp, cur, e, h4⟩ := hA hn
    exact ⟨h1, ⟨h2, hnp⟩, (Array.getElem?_eq_some_iff.1 h4).1⟩

/-- What may be lent: A holds what a row's own trees lead to. -/
structure Lets (w : World) (X : Cx) (S : St) (A : Nat → Prop) (ids : List Nat) : Prop where
  none : ∀ b, X.root b = none → A b
  ids : ∀ b id, id ∈ ids → X.root b = some id → A b

/-- A row that is lent, whole or a window of it. -/
theorem lend_row (hS : SR w X S) {A : Nat → Prop} {id lo n : Nat} {ob : Ob} {u : Value} (hrow : isRow S id = some ob) (hln : lo + n ≤ ob.els.length) (hv : VR w X (.sl id lo n) u)
    (hid : ∀ b, X.root b = some id → A b) (hbor : (∀ b, ¬ X.isRoot b → A b) ∨ ownOnlyLL (window ob.els lo n) = true) :
    Rd w ((X.inner w.heap.size A).ok .imm) (.ts .imm ob.sz (setQLL .imm (window ob.els lo n))) u := by
  obtain ⟨hob, hkd⟩ := isRow_ob hrow
  have hwl := window_length (els := ob.els) hln
  cases hv with
  | slz id lo A' hid' =>
    have : window ob.els lo 0 = [] := by simp [window]
    rw [this]
    exact .ts .imm ob.sz [] A' 0 0 0 (fun _ _ => undef) (by simp) (by simp) (by simp) (by simp) (by simp)
  | sl id lo n cap I hid' hI hn hcap hm =>
    obtain ⟨c, hor⟩ := row_of hS hob hI
    have hwr : ∀ r ∈ window ob.els lo n, r.length = ob.sz := fun r hr => hor.rows r (window_mem hr)
    have hml : (setQLL .imm (window ob.els lo n)).length = n := by rw [setQLL_eq]; simpa using hwl
    have key : Rd w ((X.inner w.heap.size A).ok .imm) (.ts .imm ob.sz (setQLL .imm (window ob.els lo n))) (.slice (some ⟨I.g, I.o + lo * I.sz, none⟩) (setQLL .imm (window ob.els lo n)).length cap) := by
      refine .ts .imm ob.sz _ _ cap I.g (I.o + lo * I.sz) (fun i j => c (lo + i) j) (by rw [setQLL_eq]; exact rows_map _ _ hwr) (by omega) (fun _ => ⟨rfl, ⟨rfl, fun hp => ?_⟩, ?_⟩) (fun i j hi hj => ?_) (fun i j hi hj => ?_)
      · rcases hp with h | h
        · exact hor.npro h
        · exact h.2 (hid _ hor.root)
      · obtain ⟨cur, e, hb, _⟩ := hor.blk
        exact (Array.getElem?_eq_some_iff.1 hb).1
      · rw [hml] at hi
        have := hor.cell (lo + i) j (by omega) hj
        have e1 : I.o + lo * I.sz + i * ob.sz + j = I.o + (lo + i) * I.sz + j := by rw [Nat.add_mul, hor.sz]; omega
        rw [e1]; exact this
      · rw [hml] at hi
        rw [setQLL_eq, at2_map _ _ hwr (by omega) hj]
        have h0 := hor.val (lo + i) j (by omega) hj
        rw [if_neg hkd] at h0
        refine Rd.setQ ?_
        rw [at2_window hi]
        rcases hbor with hbor | hown
        · exact h0.look.inner (fun b hb hok => hbor b hok.1)
        · have ho := ownOnlyLL_mem hown hwr (i := i) (j := j) (by omega) hj
          rw [at2_window hi] at ho
          refine (h0.own_read ho).keep (Nat.le_refl _) (fun b hb hok => ⟨rfl, rfl, fun hp => ?_⟩)
          rcases hp with h | h
          · exact hok.2 h
          · exact h.2 (hid b hok.1)
    rw [hml] at key
    exact key

end Go.Pi

/- Pi: arguments that are lent. -/
namespace Go.Pi
open Go
variable {P : Program} {T : Tab} {o : Oper} {a : Act} {w w' : World} {X X' : Cx} {fr : Fr} {S S' : St} {v : AV}

theorem mapO_get {α β : Type} {f : α → Option β} : ∀ {l : List α} {l' : List β}, mapO f l = some l' → l'.length = l.length ∧ ∀ i (h : i < l.length) (h' : i < l'.length), f l[i] = some l'[i] := by
  intro l
  induction l with
  | nil => intro l' h; simp only [mapO, Option.some.injEq] at h; subst h; exact ⟨rfl, fun i h => absurd h (Nat.not_lt_zero i)⟩
  | cons a l ih =>
    intro l' h
    simp only [mapO] at h
    split at h
    · cases h
    · rename_i b hb
      split at h <;> cases h
      rename_i bs hbs
      obtain ⟨h1, h2⟩ := ih hbs
      refine ⟨by simp [h1], fun i hi hi' => ?_⟩
      cases i with
      | zero => simpa using hb
      | succ i => simpa using h2 i (by simpa using hi) (by simpa using hi')

theorem setQ_ts (q q' : Ql) (sz : Nat) (els : List (List AV)) : setQ q (.ts q' sz els) = .ts q sz (setQLL q els) := rfl
theorem setQ_tp (q q' : Ql) (sz : Nat) (els : List (List AV)) (i j : Nat) : setQ q (.tp q' sz els i j) = .tp q sz (setQLL q els) i j := rfl

/-- What a cell needs to be lent. -/
structure MayLend (w : World) (X : Cx) (S : St) (A : Nat → Prop) (ids : List Nat) (clean : Bool) : Prop where
  none : ∀ b, X.root b = none → A b
  ids : ∀ id ∈ ids, ∀ b, X.root b = some id → A b
  bor : (∀ b, ¬ X.isRoot b → A b) ∨ clean = true

theorem rd_imm {A : Nat → Prop} {av : AV} {u : Value} (hn : ∀ b, X.root b = none → A b) (h : Rd w (X.ok .imm) av u) : Rd w ((X.inner w.heap.size A).ok .imm) av u :=
  h.inner (fun b _ hok => hn b hok.1)
theorem rd_bor {A : Nat → Prop} {av : AV} {u : Value} (hn : ∀ b, ¬ X.isRoot b → A b) (h : Rd w (X.ok .bor) av u) : Rd w ((X.inner w.heap.size A).ok .imm) av u :=
  h.inner (fun b _ hok => hn b hok.1)

theorem lendCell_ok (hS : SR w X S) {A : Nat → Prop} {c c' : AV} {u : Value} (hv : VR w X c u) (h : lendCell S c = some c') (hl : MayLend w X S A (idsCell c) (cleanCell S c)) :
    Rd w ((X.inner w.heap.size A).ok .imm) c' u := by
  unfold lendCell at h
  split at h
  · cases h; cases hv; exact .nil
  · rename_i id lo n
    split at h
    · cases h
    · rename_i ob hrow
      split at h <;> cases h
      rename_i hln
      refine lend_row hS hrow hln hv (hl.ids id (by simp [idsCell])) ?_
      rcases hl.bor with h1 | h1
      · exact .inl h1
      · simp only [cleanCell, hrow] at h1
        exact .inr h1
  · cases h; cases hv with | ts q hq sz els v hr => exact rd_imm hl.none hr
  · cases h
    rcases hl.bor with h1 | h1
    · cases hv with | ts q hq sz els v hr => exact (rd_bor h1 hr).setQ (q := .imm)
    · simp [cleanCell] at h1
  · cases h; cases hv with | tp q hq sz els i j v hr => exact rd_imm hl.none hr
  · cases h
    rcases hl.bor with h1 | h1
    · cases hv with | tp q hq sz els i j v hr => exact (rd_bor h1 hr).setQ (q := .imm)
    · simp [cleanCell] at h1
  · cases h; cases hv; exact .int _ _
  · cases h; cases hv; exact .bool _
  · cases h; cases hv; exact .str _
  · cases h; cases hv; exact .nilp
  · cases h
    obtain ⟨cv, rfl, hl', _⟩ := hv.fn_inv
    have : cv = [] := List.eq_nil_of_length_eq_zero hl'.symm
    subst this
    exact .fn _
  · cases h

/-- What is read in an inner call's labels, as a slot's value there. -/
theorem rd_slot {A : Nat → Prop} {c : AV} {u : Value} (h : Rd w ((X.inner w.heap.size A).ok .imm) c u) (hc : setTop .imm c = c) : VR w (X.inner w.heap.size A) c u := by
  have := h.slot (q := .imm) (by simp)
  rw [hc] at this; exact this

theorem lendCell_top {c c' : AV} (h : lendCell S c = some c') : setTop .imm c' = c' := by
  unfold lendCell at h
  split at h <;> try (cases h; first | rfl | done)
  split at h
  · cases h
  · split at h <;> cases h
    rfl

theorem lend1_ok (hS : SR w X S) {A : Nat → Prop} {e : Nat} {c c' : AV} {u : Value} (hv : VR w X c u) (h : lend1 S e c = some c') (hl : MayLend w X S A (idsCell c) (cleanCell S c)) :
    VR w (X.inner w.heap.size A) c' u := by
  have other : ∀ {d : AV}, lendCell S c = some d → lend1 S e c = some d → VR w (X.inner w.heap.size A) c' u := by
    intro d h1 h2
    rw [h] at h2; injection h2 with h2; subst h2
    exact rd_slot (lendCell_ok hS hv h1 hl) (lendCell_top h1)
  cases c with
  | nil =>
    simp only [lend1, Option.some.injEq] at h; subst h
    cases hv
    exact .ts .imm (by simp) e [] _ (.ts .imm e [] none 0 0 0 (fun _ _ => undef) (by simp) (by simp) (by simp) (by simp) (by simp))
  | sl id lo n =>
    simp only [lend1] at h
    split at h
    · cases h
    · rename_i ob hrow
      split at h <;> cases h
      rename_i hc
      have hlc : lendCell S (.sl id lo n) = some (.ts .imm ob.sz (setQLL .imm (window ob.els lo n))) := by simp only [lendCell, hrow, hc.2, if_true]
      have := rd_slot (lendCell_ok hS hv hlc hl) rfl
      rw [hc.1] at this
      exact this
  | ts q sz els => cases q <;> first | (simp [lend1] at h; done) | exact other rfl rfl
  | tp q sz els i j => cases q <;> first | (simp [lend1] at h; done) | exact other rfl rfl
  | int k n => exact other rfl rfl
  | bool b => exact other rfl rfl
  | str s => exact other rfl rfl
  | nilp => exact other rfl rfl
  | fn f caps => cases caps with
    | nil => exact other rfl rfl
    | cons _ _ => simp [lend1] at h
  | agg cs => simp [lend1] at h
  | tup cs => simp [lend1] at h
  | ptr id i j => simp [lend1] at h

theorem mem_idsDeep {v : AV} {id : Nat} (h : id ∈ idsOf v) : id ∈ idsDeep S v := by
  unfold idsDeep
  exact List.mem_flatMap.2 ⟨id, h, List.mem_cons_self ..⟩

theorem mem_idsDeep_box {v : AV} {id id' : Nat} {ob : Ob} (h : id ∈ idsOf v) (hob : getOb S id = some ob) (hk : ob.kd = .box) {r : List AV} (hr : r ∈ ob.els) {c : AV} (hc : c ∈ r) (h' : id' ∈ idsCell c) : id' ∈ idsDeep S v := by
  unfold idsDeep
  refine List.mem_flatMap.2 ⟨id, h, List.mem_cons_of_mem _ ?_⟩
  simp only [hob, hk, if_true]
  exact List.mem_flatMap.2 ⟨r, hr, List.mem_flatMap.2 ⟨c, hc, h'⟩⟩

theorem lendPtr_ok (hS : SR w X S) {A : Nat → Prop} {c c' : AV} {u : Value} (hv : VR w X c u) (h : lendPtr S c = some c') (hn : ∀ b, X.root b = none → A b) (hb : ∀ b, ¬ X.isRoot b → A b)
    (hids : ∀ id ∈ idsCell c, (∀ b, X.root b = some id → A b) ∧ ∀ ob, getOb S id = some ob → ob.kd = .box → ∀ r ∈ ob.els, ∀ d ∈ r, ∀ id' ∈ idsCell d, ∀ b, X.root b = some id' → A b) :
    VR w (X.inner w.heap.size A) c' u := by
  unfold lendPtr at h
  split at h
  · rename_i id i j
    split at h
    · cases h
    · rename_i ob hob
      split at h
      · rename_i hkd
        split at h <;> cases h
        rename_i els hels
        cases hv with
        | ptr id i j I hid hI =>
          obtain ⟨cc, hor⟩ := row_of hS hob hI
          obtain ⟨hl1, hl2⟩ := mapO_get hels
          obtain ⟨hi1, hi2⟩ := hids id (by simp [idsCell])
          have hrows : ∀ r ∈ els, r.length = ob.sz := by
            intro r hr
            obtain ⟨k, hk, rfl⟩ := List.mem_iff_getElem.1 hr
            have := (mapO_get (hl2 k (by omega) hk)).1
            rw [this]
            exact hor.rows _ (List.getElem_mem _)
          have : Rd w ((X.inner w.heap.size A).ok .imm) (.tp .imm ob.sz els i j) (.pointer (some ⟨I.g, I.o + i * ob.sz + j, none⟩)) := by
            refine .tp .imm ob.sz els i j I.g I.o cc hrows ⟨⟨rfl, fun hp => ?_⟩, ?_⟩ (fun i' j' hi' hj' => ?_) (fun i' j' hi' hj' => ?_)
            · rcases hp with h | h
              · exact hor.npro h
              · exact h.2 (hi1 _ hor.root)
            · obtain ⟨cur, e, hb, _⟩ := hor.blk
              exact (Array.getElem?_eq_some_iff.1 hb).1
            · have := hor.cell i' j' (by omega) hj'
              rw [hor.sz] at this; exact this
            · have hi'' : i' < ob.els.length := by omega
              have h0 := hor.val i' j' hi'' hj'
              rw [if_pos hkd] at h0
              have hrl : ob.els[i'].length = ob.sz := hor.rows _ (List.getElem_mem hi'')
              obtain ⟨m1, m2⟩ := mapO_get (hl2 i' hi'' hi')
              have h3 := m2 j' (by omega) (by rw [m1]; omega)
              have e1 : at2 ob.els i' j' = ob.els[i'][j']'(by omega) := by simp [at2, List.getD_eq_getElem?_getD, hi'', hrl, hj']
              have e2 : at2 els i' j' = els[i'][j']'(by rw [m1]; omega) := by
                have : j' < els[i'].length := by rw [m1]; omega
                simp [at2, List.getD_eq_getElem?_getD, hi', this]
              rw [e1] at h0
              rw [e2]
              exact lendCell_ok hS h0 h3 ⟨hn, fun id' hid' b hb' => hi2 ob hob hkd _ (List.getElem_mem hi'') _ (List.getElem_mem _) id' hid' b hb', .inl hb⟩
          rw [hor.sz]
          exact .tp .imm (by simp) _ _ _ _ _ this
      · cases h
  · exact rd_slot (lendCell_ok hS hv h ⟨hn, fun id hid => (hids id hid).1, .inl hb⟩) (lendCell_top h)

theorem lendL_ok (hS : SR w X S) {A : Nat → Prop} : ∀ {cs : List AV} {es : List Nat} {cs' : List AV} {us : List Value}, lendL S es cs = some cs' → cs.length = us.length → (∀ i, i < cs.length → VR w X (cs.getD i .undef) (us.getD i Go.undef)) →
    (∀ c ∈ cs, MayLend w X S A (idsCell c) (cleanCell S c)) → cs'.length = cs.length ∧ ∀ i, i < cs.length → VR w (X.inner w.heap.size A) (cs'.getD i .undef) (us.getD i Go.undef) := by
  intro cs
  induction cs with
  | nil => intro es cs' us h hl hv hm; cases es <;> (simp only [lendL, Option.some.injEq] at h; subst h; exact ⟨rfl, fun i hi => absurd hi (Nat.not_lt_zero i)⟩)
  | cons c cs ih =>
    intro es cs' us h hl hv hm
    cases es with
    | nil => simp [lendL] at h
    | cons e es =>
      cases us with
      | nil => simp at hl
      | cons u us =>
        simp only [lendL] at h
        split at h
        · cases h
        · rename_i c1 h1
          split at h <;> cases h
          rename_i cs1 h2
          obtain ⟨k1, k2⟩ := ih h2 (by simpa using hl) (fun i hi => by simpa using hv (i + 1) (by simpa using hi)) (fun c hc => hm c (List.mem_cons_of_mem _ hc))
          refine ⟨by simp [k1], fun i hi => ?_⟩
          cases i with
          | zero => simpa using lend1_ok hS (by simpa using hv 0 (by simp)) h1 (hm c (List.mem_cons_self ..))
          | succ i => simpa using k2 i (by simpa using hi)

theorem lend_ok (hS : SR w X S) {A : Nat → Prop} {es : List Nat} {v v' : AV} {u : Value} (hv : VR w X v u) (h : lend S es v = some v') (hl : MayLend w X S A (idsDeep S v) (cleanArg S v)) :
    VR w (X.inner w.heap.size A) v' u := by
  have one : ∀ {e : Nat}, es = [e] → idsOf v = idsCell v → cleanArg S v = cleanCell S v → lend1 S e v = some v' → VR w (X.inner w.heap.size A) v' u := by
    intro e _ h1 h2 h3
    exact lend1_ok hS hv h3 ⟨hl.none, fun id hid => hl.ids id (mem_idsDeep (h1 ▸ hid)), h2 ▸ hl.bor⟩
  have ptrs : ∀ {c d : AV} {z : Value}, (∀ b, ¬ X.isRoot b → A b) → (∀ id ∈ idsCell c, id ∈ idsOf v) → VR w X c z → lendPtr S c = some d → VR w (X.inner w.heap.size A) d z := by
    intro c d z hb hsub hvc h3
    exact lendPtr_ok hS hvc h3 hl.none hb (fun id hid => ⟨hl.ids id (mem_idsDeep (hsub id hid)), fun ob hob hk r hr c' hc' id' hid' => hl.ids id' (mem_idsDeep_box (hsub id hid) hob hk hr hc' hid')⟩)
  cases v with
  | agg cs =>
    simp only [lend] at h
    split at h <;> cases h
    rename_i cs' h1
    obtain ⟨cv, rfl, hlen, hcv⟩ := hv.agg_inv
    obtain ⟨k1, k2⟩ := lendL_ok (A := A) hS h1 hlen hcv (fun c hc => ⟨hl.none, fun id hid => hl.ids id (mem_idsDeep (by simp only [idsOf]; exact List.mem_flatMap.2 ⟨c, hc, hid⟩)), by
      rcases hl.bor with hb | hb
      · exact .inl hb
      · simp only [cleanArg] at hb
        exact .inr (List.all_eq_true.1 hb c hc)⟩)
    exact .agg cs' cv (by omega) (fun i hi => k2 i (by omega))
  | fn f caps =>
    simp only [lend] at h
    split at h <;> cases h
    rename_i caps' h1
    obtain ⟨cv, rfl, hlen, hcv⟩ := hv.fn_inv
    have hb : ∀ b, ¬ X.isRoot b → A b := by
      rcases hl.bor with hb | hb
      · exact hb
      · simp [cleanArg, cleanCell] at hb
    obtain ⟨m1, m2⟩ := mapO_get h1
    refine .fn f caps' cv (by omega) (fun i hi => ?_)
    have h3 := m2 i (by omega) hi
    have h4 := hcv i (by omega)
    have e1 : caps.getD i .undef = caps[i]'(by omega) := by simp [List.getD_eq_getElem?_getD, show i < caps.length by omega]
    have e2 : caps'.getD i .undef = caps'[i] := by simp [List.getD_eq_getElem?_getD, hi]
    rw [e1] at h4
    rw [e2]
    exact ptrs hb (fun id hid => by simp only [idsOf]; exact List.mem_flatMap.2 ⟨_, List.getElem_mem _, hid⟩) h4 h3
  | ptr id i j =>
    simp only [lend] at h
    have hb : ∀ b, ¬ X.isRoot b → A b := by
      rcases hl.bor with hb | hb
      · exact hb
      · simp [cleanArg, cleanCell] at hb
    exact ptrs hb (fun id hid => by simpa [idsOf] using hid) hv h
  | tup vs =>
    simp only [lend] at h
    split at h
    · simp [lend1] at h
    · cases h
  | _ =>
    simp only [lend] at h
    split at h
    · exact one rfl rfl rfl h
    · cases h

end Go.Pi

/- Pi: behind a call that was lent its arguments. -/
namespace Go.Pi
open Go
variable {P : Program} {T : Tab} {o : Oper} {a : Act} {w w' : World} {X X' Xc : Cx} {fr : Fr} {S S' : St} {v : AV}

/-- What a call may hand back. -/
def cellOk (tree : Bool) (m : Nat) : AV → Bool
  | .int _ _ | .bool _ | .str _ | .nilp => true
  | .sl id _ _ => decide (m ≤ id)
  | .ts q _ _ => tree && decide (q = .imm)
  | .tp q _ _ _ _ => tree && decide (q = .imm)
  | _ => false
def valOk (tree : Bool) (m : Nat) : AV → Bool
  | .agg cs => cs.all (cellOk tree m)
  | c => cellOk tree m c
def topOk (tree : Bool) (m : Nat) : AV → Bool
  | .tup vs => vs.all (valOk tree m)
  | v => valOk tree m v

/-- The labels behind such a call: those from before, K's rows struck, and those of the rows that came. -/
def Cx.outer (X Xc : Cx) (sz n : Nat) (K : List Nat) : Cx where
  N := X.N + n
  root b := if b < sz then (match X.root b with | some id => if id ∈ K then none else some id | none => none) else (Xc.root b).map (· + X.N)
  par b := if b < sz then X.par b else Xc.par b
  φ id := if id < X.N then X.φ id else Xc.φ (id - X.N)
  pro := X.pro

theorem outer_root_old {sz n b : Nat} {K : List Nat} (hb : b < sz) (h : X.root b = none) : (X.outer Xc sz n K).root b = none := by simp [Cx.outer, hb, h]
theorem outer_root_keep {sz n b id : Nat} {K : List Nat} (hb : b < sz) (h : X.root b = some id) (hK : id ∉ K) : (X.outer Xc sz n K).root b = some id := by simp [Cx.outer, hb, h, hK]
theorem outer_root_kill {sz n b id : Nat} {K : List Nat} (hb : b < sz) (h : X.root b = some id) (hK : id ∈ K) : (X.outer Xc sz n K).root b = none := by simp [Cx.outer, hb, h, hK]
theorem outer_root_new {sz n b : Nat} {K : List Nat} (hb : ¬ b < sz) : (X.outer Xc sz n K).root b = (Xc.root b).map (· + X.N) := by simp [Cx.outer, hb]
theorem outer_par_old {sz n b : Nat} {K : List Nat} (hb : b < sz) : (X.outer Xc sz n K).par b = X.par b := by simp [Cx.outer, hb]
theorem outer_par_new {sz n b : Nat} {K : List Nat} (hb : ¬ b < sz) : (X.outer Xc sz n K).par b = Xc.par b := by simp [Cx.outer, hb]

theorem outer_not_root {sz n b : Nat} {K : List Nat} (hb : b < sz) (h : ¬ X.isRoot b) : ¬ (X.outer Xc sz n K).isRoot b := by
  rintro ⟨h1, h2⟩
  rw [outer_par_old hb] at h2
  cases hr : X.root b with
  | none => exact h1 (outer_root_old hb hr)
  | some id => exact h ⟨by rw [hr]; simp, h2⟩

theorem stn_outer {A : Nat → Prop} {n : Nat} {K : List Nat} (s : Stp w (X.inner w.heap.size A) w' Xc) : Stn w X w' (X.outer Xc w.heap.size n K) := by
  refine ⟨⟨s.os, s.tape, s.output, s.size, fun b hb hr => ⟨(s.keep b hb (fun k => k.1 rfl)).1, outer_not_root hb hr⟩, fun b hb hr => outer_root_old hb hr, rfl⟩, by simp [Cx.outer], fun id hid => by simp [Cx.outer, hid]⟩

theorem inner_new {A : Nat → Prop} (s : Stp w (X.inner w.heap.size A) w' Xc) {b k : Nat} (h : Xc.root b = some k) : ¬ b < w.heap.size := by
  intro hb
  have := s.none b hb rfl
  rw [this] at h; cases h

theorem getOb_kill_list : ∀ {K : List Nat} {S : St} {id : Nat} {ob : Ob}, getOb (kill S K) id = some ob → id ∉ K ∧ getOb S id = some ob := by
  intro K
  induction K with
  | nil => intro S id ob h; exact ⟨by simp, h⟩
  | cons k K ih =>
    intro S id ob h
    obtain ⟨h1, h2⟩ := ih h
    obtain ⟨h3, h4⟩ := getOb_kill h2
    exact ⟨by simp [h1, h3], h4⟩

theorem kill_length : ∀ {K : List Nat} {S : St}, (kill S K).length = S.length := by
  intro K
  induction K with
  | nil => intro S; rfl
  | cons k K ih => intro S; simp [kill, ih]

theorem getOb_two {A B : St} {id : Nat} {ob : Ob} (h : getOb (A ++ B) id = some ob) : (id < A.length ∧ getOb A id = some ob) ∨ (A.length ≤ id ∧ getOb B (id - A.length) = some ob) := by
  unfold getOb at h ⊢
  by_cases hlt : id < A.length
  · rw [List.getElem?_append_left hlt] at h
    exact .inl ⟨hlt, h⟩
  · rw [List.getElem?_append_right (by omega)] at h
    exact .inr ⟨by omega, h⟩

/-- Flags that hold inside hold outside. -/
def Keeps (w' : World) (Xc Xo : Cx) : Prop := ∀ q b, b < w'.heap.size → Xc.ok q b → Xo.ok q b

theorem CR.outer {A : Nat → Prop} {n : Nat} {K : List Nat} (s : Stp w (X.inner w.heap.size A) w' Xc) {k : Nat} {loc : Nat × Nat} {av : AV} {u : Value} (h : CR w' Xc k loc av u)
    (ho : ownOnly av = true ∨ Keeps w' Xc (X.outer Xc w.heap.size n K)) : CR w' (X.outer Xc w.heap.size n K) (k + X.N) loc av u := by
  induction h with
  | int loc k n => exact .int _ k n
  | bool loc b => exact .bool _ b
  | str loc s => exact .str _ s
  | nil loc => exact .nil _
  | nilp loc => exact .nilp _
  | fn loc f => exact .fn _ f
  | ts loc q hq sz els v h =>
    rcases ho with ho | ho
    · cases q <;> simp [ownOnly] at ho hq
    · exact .ts _ q hq sz els v (h.keep (Nat.le_refl _) (fun b hb hok => ⟨rfl, ho q b hb hok⟩))
  | tp loc q hq sz els i j v h =>
    rcases ho with ho | ho
    · simp [ownOnly] at ho
    · exact .tp _ q hq sz els i j v (h.keep (Nat.le_refl _) (fun b hb hok => ⟨rfl, ho q b hb hok⟩))
  | own loc sz els A' cap g o c hrow hcap hA hc _ ih =>
    refine .own _ sz els A' cap g o c hrow hcap (fun hn => ?_) hc (fun i j hi hj => ih i j hi hj ?_)
    · obtain ⟨h1, h2, h3, hnp, hb⟩ := hA hn
      have hnew := inner_new s h2
      refine ⟨h1, by rw [outer_root_new hnew, h2]; rfl, by rw [outer_par_new hnew]; exact h3, fun hp => hnp ?_, hb⟩
      rw [s.pro]
      exact .inl hp
    · rcases ho with ho | ho
      · simp only [ownOnly, Bool.and_eq_true] at ho
        exact .inl (ownOnlyLL_mem ho.2 hrow hi hj)
      · exact .inr ho

theorem sr_outer {A : Nat → Prop} {K : List Nat} (hS : SR w X S) (hSc : SR w' Xc S') (s : Stp w (X.inner w.heap.size A) w' Xc) (hkd : ∀ id ob, getOb S' id = some ob → ob.kd = .arr)
    (ho : (∀ id ob, getOb S' id = some ob → ownOnlyLL ob.els = true) ∨ Keeps w' Xc (X.outer Xc w.heap.size S'.length K)) :
    SR w' (X.outer Xc w.heap.size S'.length K) (kill S K ++ S') := by
  have hN := hS.n
  have hNc := hSc.n
  refine ⟨by simp [Cx.outer, kill_length, hN], fun b hb => ?_, fun b hb => Nat.lt_of_lt_of_le (hS.pro b hb) s.size, fun id ob h => ?_⟩
  · by_cases hlt : b < w.heap.size
    · exact Nat.lt_of_lt_of_le hlt s.size
    · rw [outer_root_new hlt] at hb
      exact hSc.lab b (fun hn => by simp [hn] at hb)
  · rcases getOb_two h with ⟨hlt, h'⟩ | ⟨hge, h'⟩
    · obtain ⟨hK, h''⟩ := getOb_kill_list h'
      rw [kill_length] at hlt
      refine (hS.obs id ob h'').keep (stn_outer s) (by omega) (fun b hb hr => ⟨outer_root_keep hb hr hK, outer_par_old hb⟩) (fun I hI => ?_)
      obtain ⟨c, hor⟩ := row_of hS h'' hI
      obtain ⟨cur, e, hb, _⟩ := hor.blk
      exact (s.keep I.g (Array.getElem?_eq_some_iff.1 hb).1 (fun k => k.1 rfl)).1
    · rw [kill_length] at hge h'
      have hk := hkd _ _ h'
      have hok := hSc.obs _ _ h'
      unfold OK at hok ⊢
      have e1 : (X.outer Xc w.heap.size S'.length K).φ id = Xc.φ (id - S.length) := by
        have : ¬ id < X.N := by omega
        simp [Cx.outer, hN]
        omega
      rw [e1]
      cases hI : Xc.φ (id - S.length) with
      | none => rw [hI] at hok; exact hok
      | some I =>
        rw [hI] at hok
        obtain ⟨c, hor⟩ := hok
        have hnew := inner_new s hor.root
        have hidN : id - S.length + X.N = id := by omega
        refine ⟨c, hor.sz, hor.rows, by rw [outer_root_new hnew, hor.root]; simp [hidN], by rw [outer_par_new hnew]; exact hor.par, fun hp => hor.npro (by rw [s.pro]; exact .inl hp), hor.blk, hor.fits, hor.cell, fun i j hi hj => ?_⟩
        have h0 := hor.val i j hi hj
        have hnb : ¬ ob.kd = .box := by rw [hk]; simp
        rw [if_neg hnb] at h0 ⊢
        have := h0.outer (n := S'.length) (K := K) s (by
          rcases ho with ho | ho
          · exact .inl (ownOnlyLL_mem (ho _ _ h') hor.rows hi hj)
          · exact .inr ho)
        rw [hidN] at this
        exact this

/-- A result's cell, outside. -/
theorem VR.outCell {n : Nat} {K : List Nat} {tree : Bool} {c : AV} {u : Value} (h : VR w' Xc c u) (hN : Xc.N = n) (hc : cellOk tree 0 c = true) (g : AV → AV)
    (hg1 : ∀ id lo k, g (.sl id lo k) = .sl (X.N + id) lo k) (hg0 : ∀ d, (∀ id lo k, d ≠ .sl id lo k) → (∀ q sz els, d ≠ .ts q sz els) → (∀ q sz els i j, d ≠ .tp q sz els i j) → g d = d)
    (q' : Ql) (hq' : q' ≠ .own) (hgt : ∀ q sz els, tree = true → g (.ts q sz els) = .ts q' sz els) (hgp : ∀ q sz els i j, tree = true → g (.tp q sz els i j) = .tp q' sz els i j)
    (hok : tree = true → ∀ b, b < w'.heap.size → Xc.ok .imm b → (X.outer Xc w.heap.size n K).ok q' b) : VR w' (X.outer Xc w.heap.size n K) (g c) u := by
  cases c with
  | int k m => rw [hg0 _ (by simp) (by simp) (by simp)]; cases h; exact .int _ _
  | bool b => rw [hg0 _ (by simp) (by simp) (by simp)]; cases h; exact .bool _
  | str s => rw [hg0 _ (by simp) (by simp) (by simp)]; cases h; exact .str _
  | nilp => rw [hg0 _ (by simp) (by simp) (by simp)]; cases h; exact .nilp
  | sl id lo k =>
    rw [hg1]
    cases h with
    | sl id lo k cap I hid hI hn hcap hm =>
      refine .sl (X.N + id) lo k cap I (by simp only [Cx.outer]; omega) ?_ hn hcap hm
      have : ¬ X.N + id < X.N := by omega
      show (if X.N + id < X.N then _ else _) = _
      rw [if_neg this, Nat.add_sub_cancel_left]
      exact hI
    | slz id lo A hid => exact .slz _ lo A (by simp only [Cx.outer]; omega)
  | ts q sz els =>
    simp only [cellOk, Bool.and_eq_true, decide_eq_true_eq] at hc
    obtain ⟨ht, rfl⟩ := hc
    rw [hgt _ _ _ ht]
    cases h with
    | ts q hq sz els v hr => exact .ts q' hq' sz els _ ((hr.keep (Nat.le_refl _) (fun b hb hok' => ⟨rfl, hok ht b hb hok'⟩)).setTop (q := q'))
  | tp q sz els i j =>
    simp only [cellOk, Bool.and_eq_true, decide_eq_true_eq] at hc
    obtain ⟨ht, rfl⟩ := hc
    rw [hgp _ _ _ _ _ ht]
    cases h with
    | tp q hq sz els i j v hr => exact .tp q' hq' sz els i j _ ((hr.keep (Nat.le_refl _) (fun b hb hok' => ⟨rfl, hok ht b hb hok'⟩)).setTop (q := q'))
  | nil => simp [cellOk] at hc
  | fn f caps => simp [cellOk] at hc
  | agg cs => simp [cellOk] at hc
  | tup cs => simp [cellOk] at hc
  | ptr id i j => simp [cellOk] at hc

theorem VR.mapCells {w1 w2 : World} {X1 X2 : Cx} {g : AV → AV} {cs : List AV} {cv : List Value} (hl : cs.length = cv.length) (h : ∀ i, i < cs.length → VR w1 X1 (cs.getD i .undef) (cv.getD i Go.undef))
    (hg : ∀ c u, c ∈ cs → VR w1 X1 c u → VR w2 X2 (g c) u) : (cs.map g).length = cv.length ∧ ∀ i, i < (cs.map g).length → VR w2 X2 ((cs.map g).getD i .undef) (cv.getD i Go.undef) := by
  refine ⟨by simpa using hl, fun i hi => ?_⟩
  have hi' : i < cs.length := by simpa using hi
  have h0 := h i hi'
  have e1 : cs.getD i .undef = cs[i] := by simp [List.getD_eq_getElem?_getD, hi']
  have e2 : (cs.map g).getD i .undef = g cs[i] := by simp [List.getD_eq_getElem?_getD, hi']
  rw [e1] at h0
  rw [e2]
  exact hg _ _ (List.getElem_mem hi') h0

/-- A result's values, outside: 'g' on each cell. -/
theorem VR.outTop {w1 w2 : World} {X1 X2 : Cx} {tree : Bool} {m : Nat} {g g1 g2 : AV → AV} (hg : ∀ c u, cellOk tree m c = true → VR w1 X1 c u → VR w2 X2 (g c) u)
    (h1a : ∀ cs, g1 (.agg cs) = .agg (cs.map g)) (h1c : ∀ c, cellOk tree m c = true → g1 c = g c) (h2a : ∀ vs, g2 (.tup vs) = .tup (vs.map g1)) (h2c : ∀ v, valOk tree m v = true → g2 v = g1 v)
    {v : AV} {u : Value} (h : VR w1 X1 v u) (hv : topOk tree m v = true) : VR w2 X2 (g2 v) u := by
  have val : ∀ c u, valOk tree m c = true → VR w1 X1 c u → VR w2 X2 (g1 c) u := by
    intro c u hc h
    have cell : cellOk tree m c = true → VR w2 X2 (g1 c) u := fun hc => by rw [h1c c hc]; exact hg c u hc h
    cases c with
    | agg cs =>
      obtain ⟨cv, rfl, hl, hcv⟩ := h.agg_inv
      rw [h1a]
      obtain ⟨k1, k2⟩ := VR.mapCells hl hcv (fun c u hm hcu => hg c u (List.all_eq_true.1 hc c hm) hcu)
      exact .agg _ cv k1 k2
    | _ => exact cell hc
  have nt : valOk tree m v = true → VR w2 X2 (g2 v) u := fun hv => by rw [h2c v hv]; exact val v u hv h
  cases v with
  | tup vs =>
    obtain ⟨cv, rfl, hl, hcv⟩ := h.tup_inv
    rw [h2a]
    obtain ⟨k1, k2⟩ := VR.mapCells hl hcv (fun c u hm hcu => val c u (List.all_eq_true.1 hv c hm) hcu)
    exact .tup _ cv k1 k2
  | _ => exact nt hv

/-- The variables below m have stayed (or gone), and the store hasn't shrunk. -/
def BK (m : Nat) (S S' : St) : Prop := S.length ≤ S'.length ∧ ∀ id ob, id < m → getOb S' id = some ob → ob.kd = .box → getOb S id = some ob

/-- What a function's answer looks like, whoever asks. -/
structure Shape (fi : FnI) (S0 : St) (res : AV) (S' : St) : Prop where
  top : topOk fi.tree S0.length res = true
  len : S0.length ≤ S'.length
  kd : fi.kind ≠ 2 → ∀ id ob, S0.length ≤ id → getOb S' id = some ob → ob.kd = .arr
  own : fi.kind ≠ 2 → fi.tree = false → ∀ id ob, S0.length ≤ id → getOb S' id = some ob → ownOnlyLL ob.els = true
  box : fi.kind = 1 → BK S0.length S0 S'

/-- The evaluator's functions do what the machine does. -/
def FOK (P : Program) (T : Tab) (F : Nat → List AV → St → Option (AV × St)) : Prop :=
  ∀ f args S0 res S', F f args S0 = some (res, S') → ∃ fi, T.fn f = some fi ∧ Shape fi S0 res S' ∧
    ∀ w X (us : List Value), SR w X S0 → args.length = us.length → (∀ i, i < args.length → VR w X (args.getD i .undef) (us.getD i Go.undef)) →
      Calls P f us.toArray w (fun e w' => ∃ v X', e = .returned v ∧ Stn w X w' X' ∧ SR w' X' S' ∧ VR w' X' res v)

theorem lendAll_ok (hS : SR w X S) {A : Nat → Prop} : ∀ {vs : List AV} {ess : List (List Nat)} {vs' : List AV} {us : List Value}, lendAll S ess vs = some vs' → vs.length = us.length → (∀ i, i < vs.length → VR w X (vs.getD i .undef) (us.getD i Go.undef)) →
    (∀ v ∈ vs, MayLend w X S A (idsDeep S v) (cleanArg S v)) → vs'.length = vs.length ∧ ∀ i, i < vs.length → VR w (X.inner w.heap.size A) (vs'.getD i .undef) (us.getD i Go.undef) := by
  intro vs
  induction vs with
  | nil => intro ess vs' us h hl hv hm; cases ess <;> (simp only [lendAll, Option.some.injEq] at h; subst h; exact ⟨rfl, fun i hi => absurd hi (Nat.not_lt_zero i)⟩)
  | cons v vs ih =>
    intro ess vs' us h hl hv hm
    cases ess with
    | nil => simp [lendAll] at h
    | cons es ess =>
      cases us with
      | nil => simp at hl
      | cons u us =>
        simp only [lendAll] at h
        split at h
        · cases h
        · rename_i v1 h1
          split at h <;> cases h
          rename_i vs1 h2
          obtain ⟨k1, k2⟩ := ih h2 (by simpa using hl) (fun i hi => by simpa using hv (i + 1) (by simpa using hi)) (fun c hc => hm c (List.mem_cons_of_mem _ hc))
          refine ⟨by simp [k1], fun i hi => ?_⟩
          cases i with
          | zero => simpa using lend_ok hS (by simpa using hv 0 (by simp)) h1 (hm v (List.mem_cons_self ..))
          | succ i => simpa using k2 i (by simpa using hi)

end Go.Pi

/- Pi: calls that are lent their arguments are sound. -/
namespace Go.Pi
open Go
variable {P : Program} {T : Tab} {o : Oper} {a : Act} {w w' : World} {X X' Xc : Cx} {fr : Fr} {S S' : St} {v : AV}

def rebaseAll (m len : Nat) : AV → AV
  | .tup vs => .tup (vs.map (rebase m len))
  | v => rebase m len v

theorem map_id_of {f : AV → AV} {l : List AV} (h : ∀ a ∈ l, f a = a) : l.map f = l := by
  induction l with
  | nil => rfl
  | cons a l ih => simp [h a (by simp), ih (fun b hb => h b (by simp [hb]))]

theorem rebaseCell_self {tree : Bool} {m : Nat} {c : AV} (h : cellOk tree m c = true) : rebaseCell m m c = c := by
  cases c with
  | sl id lo n =>
    simp only [cellOk, decide_eq_true_eq] at h
    simp only [rebaseCell]
    congr 1; omega
  | _ => rfl

theorem rebase_self {tree : Bool} {m : Nat} {c : AV} (h : valOk tree m c = true) : rebase m m c = c := by
  have hc : cellOk tree m c = true → rebase m m c = rebaseCell m m c → rebase m m c = c := fun h1 h2 => h2.trans (rebaseCell_self h1)
  cases c with
  | agg cs =>
    simp only [rebase]
    rw [map_id_of (fun a ha => rebaseCell_self (List.all_eq_true.1 h a ha))]
  | _ => exact hc h rfl

theorem rebaseTop_eq {tree : Bool} {m len : Nat} {v : AV} (h : topOk tree m v = true) : rebaseTop m len v = rebaseAll m len v := by
  unfold rebaseTop
  split
  · rename_i he
    subst he
    have hc : valOk tree m v = true → rebaseAll m m v = rebase m m v → v = rebaseAll m m v := fun h1 h2 => (h2.trans (rebase_self h1)).symm
    cases v with
    | tup vs =>
      simp only [rebaseAll]
      rw [map_id_of (fun a ha => rebase_self (List.all_eq_true.1 h a ha))]
    | _ => exact hc h rfl
  · rfl

theorem rebase_cell {tree : Bool} {m len : Nat} {c : AV} (h : cellOk tree m c = true) : rebase m len c = rebaseCell m len c := by
  cases c <;> first | rfl | (simp [cellOk] at h)
theorem rebaseAll_val {tree : Bool} {m len : Nat} {v : AV} (h : valOk tree m v = true) : rebaseAll m len v = rebase m len v := by
  cases v <;> first | rfl | (simp [valOk, cellOk] at h)
theorem weak1_cell {tree : Bool} {m : Nat} {c : AV} (h : cellOk tree m c = true) : weak1 c = setTop .bor c := by
  cases c <;> first | rfl | (simp [cellOk] at h)
theorem weak_val {tree : Bool} {m : Nat} {v : AV} (h : valOk tree m v = true) : weak v = weak1 v := by
  cases v <;> first | rfl | (simp [valOk, cellOk] at h)

/-- Without trees and rows: a result's cells when no row comes. -/
theorem cellOk_norow {c : AV} {u : Value} (hN : Xc.N = 0) (h : VR w' Xc c u) : ∀ id lo n, c ≠ .sl id lo n := by
  rintro id lo n rfl
  cases h with
  | sl id lo n cap I hid => omega
  | slz id lo A hid => omega

theorem call_lent_ok {F : Nat → List AV → St → Option (AV × St)} (hF : FOK P T F) (hS : SR w X S) {f : Nat} {fi : FnI} (hfi : T.fn f = some fi) (hk2 : fi.kind ≠ 2) {args : List AV} {us : List Value}
    (hl : args.length = us.length) (hv : ∀ i, i < args.length → VR w X (args.getD i .undef) (us.getD i Go.undef)) {args' : List AV} (ha : lendAll S fi.pes args = some args') {res : AV} {Sr : St} (hr : F f args' [] = some (res, Sr))
    (h : (if fi.tree then
            if Sr.length = 0 then some (weak res, kill S (args.flatMap (idsDeep S)))
            else if args.all (cleanArg S) then some (rebaseTop 0 S.length res, kill S (args.flatMap (idsDeep S)) ++ Sr)
            else none
          else some (rebaseTop 0 S.length res, S ++ Sr)) = some (v, S')) :
    Calls P f us.toArray w (fun e w' => ∃ v' X', e = .returned v' ∧ Stn w X w' X' ∧ SR w' X' S' ∧ VR w' X' v v') := by
  have hN := hS.n
  obtain ⟨fi', hfi', hsh, hcall⟩ := hF f args' [] res Sr hr
  rw [hfi] at hfi'
  injection hfi' with hfi'
  subst hfi'
  have htop : topOk fi.tree 0 res = true := hsh.top
  -- the call itself, with A's blocks let
  have go : ∀ (A : Nat → Prop), (∀ v ∈ args, MayLend w X S A (idsDeep S v) (cleanArg S v)) → Calls P f us.toArray w (fun e w' => ∃ v' Xc, e = .returned v' ∧ Stn w (X.inner w.heap.size A) w' Xc ∧ SR w' Xc Sr ∧ VR w' Xc res v') := by
    intro A hm
    obtain ⟨k1, k2⟩ := lendAll_ok (A := A) hS ha hl hv hm
    exact hcall w _ us (sr_inner hS A) (by omega) (fun i hi => k2 i (by omega))
  have hkd : ∀ id ob, getOb Sr id = some ob → ob.kd = .arr := fun id ob h => hsh.kd hk2 id ob (Nat.zero_le _) h
  have hcellsl : ∀ {g : AV → AV}, g = rebaseCell 0 S.length → (∀ id lo k, g (.sl id lo k) = .sl (X.N + id) lo k) := by
    rintro g rfl id lo k
    simp [rebaseCell, hN]
  have hcell0 : ∀ d, (∀ id lo k, d ≠ .sl id lo k) → rebaseCell 0 S.length d = d := by
    intro d hd
    cases d <;> first | rfl | (exact absurd rfl (hd _ _ _))
  by_cases ht : fi.tree = true
  · rw [if_pos ht] at h
    split at h
    · -- trees, no rows
      rename_i hz
      cases h
      refine (go (fun b => ¬ X.isRoot b ∨ ∃ id, id ∈ args.flatMap (idsDeep S) ∧ X.root b = some id) (fun v hv' => ⟨fun b hb => .inl (not_root_of_none hb), fun id hid b hb => .inr ⟨id, List.mem_flatMap.2 ⟨v, hv', hid⟩, hb⟩, .inl fun b hb => .inl hb⟩)).mono ?_
      rintro e w' ⟨v', Xc, rfl, s, hSc, hvr⟩
      have hSr : Sr = [] := List.eq_nil_of_length_eq_zero hz
      subst hSr
      have hNc : Xc.N = 0 := hSc.n
      refine ⟨v', X.outer Xc w.heap.size 0 (args.flatMap (idsDeep S)), rfl, stn_outer s.toStp, ?_, ?_⟩
      · have := sr_outer (K := args.flatMap (idsDeep S)) hS hSc s.toStp hkd (.inl fun id ob h => by simp [getOb] at h)
        simpa using this
      · refine VR.outTop (tree := fi.tree) (m := 0) (g := setTop .bor) (g1 := weak1) (g2 := weak) (fun c u hc hcu => ?_) (fun cs => rfl) (fun c hc => weak1_cell hc) (fun vs => rfl) (fun v hv' => weak_val hv') hvr htop
        have hns := cellOk_norow hNc hcu
        have hokb : ∀ b, b < w'.heap.size → Xc.ok .imm b → (X.outer Xc w.heap.size 0 (args.flatMap (idsDeep S))).ok .bor b := by
          intro b hb hok
          have hnp : ¬ (X.pro b ∨ (b < w.heap.size ∧ ¬ (¬ X.isRoot b ∨ ∃ id, id ∈ args.flatMap (idsDeep S) ∧ X.root b = some id))) := by
            have := hok.2
            rw [s.pro] at this
            exact this
          refine ⟨?_, fun hp => hnp (.inl hp)⟩
          by_cases hlt : b < w.heap.size
          · have hA : ¬ X.isRoot b ∨ ∃ id, id ∈ args.flatMap (idsDeep S) ∧ X.root b = some id := Classical.byContradiction fun hn => hnp (.inr ⟨hlt, hn⟩)
            rcases hA with hA | ⟨id, hid, hrt⟩
            · exact outer_not_root hlt hA
            · exact not_root_of_none (outer_root_kill hlt hrt hid)
          · refine not_root_of_none ?_
            rw [outer_root_new hlt, hok.1]; rfl
        have k : VR w' (X.outer Xc w.heap.size 0 (args.flatMap (idsDeep S))) ((fun d : AV => match d with | .sl id lo k => .sl (X.N + id) lo k | d => setTop .bor d) c) u :=
          hcu.outCell (w := w) (X := X) (K := args.flatMap (idsDeep S)) hNc hc (fun d : AV => match d with | .sl id lo k => .sl (X.N + id) lo k | d => setTop .bor d) (fun _ _ _ => rfl)
            (fun d h1 h2 h3 => by cases d <;> first | rfl | exact absurd rfl (h1 _ _ _) | exact absurd rfl (h2 _ _ _) | exact absurd rfl (h3 _ _ _ _ _)) .bor (by simp) (fun _ _ _ _ => rfl) (fun _ _ _ _ _ _ => rfl) (fun _ => hokb)
        cases c <;> first | exact k | exact absurd rfl (hns _ _ _)
    · split at h
      · -- trees and rows
        rename_i hclean
        cases h
        refine (go (fun b => X.root b = none ∨ ∃ id, id ∈ args.flatMap (idsDeep S) ∧ X.root b = some id) (fun v hv' => ⟨fun b hb => .inl hb, fun id hid b hb => .inr ⟨id, List.mem_flatMap.2 ⟨v, hv', hid⟩, hb⟩, .inr (List.all_eq_true.1 hclean v hv')⟩)).mono ?_
        rintro e w' ⟨v', Xc, rfl, s, hSc, hvr⟩
        have hNc : Xc.N = Sr.length := hSc.n
        have hkeeps : Keeps w' Xc (X.outer Xc w.heap.size Sr.length (args.flatMap (idsDeep S))) := by
          intro q b hb hok
          have hnp : ¬ (X.pro b ∨ (b < w.heap.size ∧ ¬ (X.root b = none ∨ ∃ id, id ∈ args.flatMap (idsDeep S) ∧ X.root b = some id))) := by
            have := Cx.ok_npro hok
            rw [s.pro] at this
            exact this
          have hnpo : ¬ (X.outer Xc w.heap.size Sr.length (args.flatMap (idsDeep S))).pro b := fun hp => hnp (.inl hp)
          by_cases hlt : b < w.heap.size
          · have hA : X.root b = none ∨ ∃ id, id ∈ args.flatMap (idsDeep S) ∧ X.root b = some id := Classical.byContradiction fun hn => hnp (.inr ⟨hlt, hn⟩)
            have hr0 : (X.outer Xc w.heap.size Sr.length (args.flatMap (idsDeep S))).root b = none := by
              rcases hA with hA | ⟨id, hid, hrt⟩
              · exact outer_root_old hlt hA
              · exact outer_root_kill hlt hrt hid
            cases q
            · exact ⟨not_root_of_none hr0, hnpo⟩
            · exact ⟨not_root_of_none hr0, hnpo⟩
            · exact ⟨hr0, hnpo⟩
          · have hnr : ¬ Xc.isRoot b → ¬ (X.outer Xc w.heap.size Sr.length (args.flatMap (idsDeep S))).isRoot b := by
              rintro h1 ⟨h2, h3⟩
              rw [outer_root_new hlt] at h2
              rw [outer_par_new hlt] at h3
              exact h1 ⟨fun hn => h2 (by rw [hn]; rfl), h3⟩
            cases q
            · exact ⟨hnr hok.1, hnpo⟩
            · exact ⟨hnr hok.1, hnpo⟩
            · exact ⟨by rw [outer_root_new hlt, hok.1]; rfl, hnpo⟩
        refine ⟨v', X.outer Xc w.heap.size Sr.length (args.flatMap (idsDeep S)), rfl, stn_outer s.toStp, sr_outer hS hSc s.toStp hkd (.inr hkeeps), ?_⟩
        rw [rebaseTop_eq htop]
        refine VR.outTop (tree := fi.tree) (m := 0) (g := rebaseCell 0 S.length) (g1 := rebase 0 S.length) (g2 := rebaseAll 0 S.length) (fun c u hc hcu => ?_) (fun cs => rfl) (fun c hc => rebase_cell hc) (fun vs => rfl) (fun v hv' => rebaseAll_val hv') hvr htop
        have hq : ∀ q sz els, c = .ts q sz els → q = .imm := by rintro q sz els rfl; simp only [cellOk, Bool.and_eq_true, decide_eq_true_eq] at hc; exact hc.2
        have hq2 : ∀ q sz els i j, c = .tp q sz els i j → q = .imm := by rintro q sz els i j rfl; simp only [cellOk, Bool.and_eq_true, decide_eq_true_eq] at hc; exact hc.2
        have k : VR w' (X.outer Xc w.heap.size Sr.length (args.flatMap (idsDeep S))) ((fun d : AV => match d with | .ts _ sz els => .ts .imm sz els | .tp _ sz els i j => .tp .imm sz els i j | d => rebaseCell 0 S.length d) c) u :=
          hcu.outCell (w := w) (X := X) (K := args.flatMap (idsDeep S)) hNc hc (fun d : AV => match d with | .ts _ sz els => .ts .imm sz els | .tp _ sz els i j => .tp .imm sz els i j | d => rebaseCell 0 S.length d) (hcellsl rfl)
            (fun d h1 h2 h3 => by cases d <;> first | rfl | exact absurd rfl (h1 _ _ _) | exact absurd rfl (h2 _ _ _) | exact absurd rfl (h3 _ _ _ _ _)) .imm (by simp) (fun _ _ _ _ => rfl) (fun _ _ _ _ _ _ => rfl) (fun _ b hb hok => hkeeps .imm b hb hok)
        cases c with
        | ts q sz els => have := hq _ _ _ rfl; subst this; exact k
        | tp q sz els i j => have := hq2 _ _ _ _ _ rfl; subst this; exact k
        | _ => exact k
      · cases h
  · -- no trees
    have ht' : fi.tree = false := by simpa using ht
    rw [if_neg ht] at h
    cases h
    refine (go (fun _ => True) (fun v hv' => ⟨fun _ _ => trivial, fun _ _ _ _ => trivial, .inl fun _ _ => trivial⟩)).mono ?_
    rintro e w' ⟨v', Xc, rfl, s, hSc, hvr⟩
    have hNc : Xc.N = Sr.length := hSc.n
    refine ⟨v', X.outer Xc w.heap.size Sr.length [], rfl, stn_outer s.toStp, sr_outer (K := []) hS hSc s.toStp hkd (.inl fun id ob h => hsh.own hk2 ht' id ob (Nat.zero_le _) h), ?_⟩
    rw [rebaseTop_eq htop]
    refine VR.outTop (tree := fi.tree) (m := 0) (g := rebaseCell 0 S.length) (g1 := rebase 0 S.length) (g2 := rebaseAll 0 S.length) (fun c u hc hcu => ?_) (fun cs => rfl) (fun c hc => rebase_cell hc) (fun vs => rfl) (fun v hv' => rebaseAll_val hv') hvr htop
    exact hcu.outCell (X := X) (K := []) (g := rebaseCell 0 S.length) hNc hc (hcellsl rfl) (fun d h1 h2 h3 => hcell0 d h1) .imm (by simp) (fun _ _ _ h => absurd h ht) (fun _ _ _ _ _ h => absurd h ht) (fun h => absurd h ht)

end Go.Pi

/- Pi: rows renumbered. -/
namespace Go.Pi
open Go
variable {P : Program} {T : Tab} {o : Oper} {a : Act} {w w' : World} {X X' Xc : Cx} {fr : Fr} {S S' : St} {v : AV}

/-- Rows from len to m go; those behind move up. -/
def Cx.renum (X : Cx) (len m : Nat) : Cx where
  N := X.N - (m - len)
  root b := match X.root b with
    | some i => if i < len then some i else if i < m then none else some (len + (i - m))
    | none => none
  par := X.par
  φ j := if j < len then X.φ j else X.φ (m + (j - len))
  pro := X.pro

theorem stp_renum (len m : Nat) : Stp w X w (X.renum len m) := by
  refine ⟨rfl, rfl, rfl, Nat.le_refl _, fun b hb hr => ⟨rfl, ?_⟩, fun b hb hr => by simp [Cx.renum, hr], rfl⟩
  rintro ⟨h1, h2⟩
  exact hr ⟨fun hn => by simp [Cx.renum, hn] at h1, h2⟩

/-- A value that was there before stands for the same. -/
theorem VR.renum_old {len m : Nat} {w0 : World} {X0 : Cx} (hN : X0.N = len) (hle : len ≤ X.N - (m - len)) {av : AV} {u : Value} (h : VR w X av u) : ∀ {u0 : Value}, VR w0 X0 av u0 → VR w (X.renum len m) av u := by
  induction h with
  | int k n => intro _ _; exact .int k n
  | bool b => intro _ _; exact .bool b
  | str s => intro _ _; exact .str s
  | nil => intro _ _; exact .nil
  | nilp => intro _ _; exact .nilp
  | fn f caps cv hl _ ih => intro u0 h0; obtain ⟨cv0, _, _, h0⟩ := h0.fn_inv; exact .fn f caps cv hl (fun i hi => ih i hi (h0 i hi))
  | agg cs cv hl _ ih => intro u0 h0; obtain ⟨cv0, _, _, h0⟩ := h0.agg_inv; exact .agg cs cv hl (fun i hi => ih i hi (h0 i hi))
  | tup cs cv hl _ ih => intro u0 h0; obtain ⟨cv0, _, _, h0⟩ := h0.tup_inv; exact .tup cs cv hl (fun i hi => ih i hi (h0 i hi))
  | ts q hq sz els v h => intro _ _; exact .ts q hq sz els v (h.stp (stp_renum len m))
  | tp q hq sz els i j v h => intro _ _; exact .tp q hq sz els i j v (h.stp (stp_renum len m))
  | sl id lo n cap I hid hI hn hc hm =>
    intro u0 h0
    have hlt : id < len := by cases h0 <;> omega
    exact .sl id lo n cap I (by simp only [Cx.renum]; omega) (by simp [Cx.renum, hlt, hI]) hn hc hm
  | slz id lo A hid =>
    intro u0 h0
    have hlt : id < len := by cases h0 <;> omega
    exact .slz id lo A (by simp only [Cx.renum]; omega)
  | ptr id i j I hid hI =>
    intro u0 h0
    have hlt : id < len := by cases h0 <;> omega
    exact .ptr id i j I (by simp only [Cx.renum]; omega) (by simp [Cx.renum, hlt, hI])

theorem CR.renum {len m id id' : Nat} (hlab : (if id < len then some id else if id < m then none else some (len + (id - m))) = some id') {loc : Nat × Nat} {av : AV} {u : Value} (h : CR w X id loc av u) : CR w (X.renum len m) id' loc av u :=
  h.reloc (stp_renum len m) (fun l => l) (fun _ _ _ => rfl) (fun b hb hr hp => ⟨by simp only [Cx.renum, hr]; exact hlab, by simp [Cx.renum]⟩)

theorem getOb_take_drop {len m id : Nat} {ob : Ob} (hlm : len ≤ m) (hm : m ≤ S.length) (h : getOb (S.take len ++ S.drop m) id = some ob) : (id < len ∧ getOb S id = some ob) ∨ (len ≤ id ∧ getOb S (m + (id - len)) = some ob) := by
  have hl : (S.take len).length = len := by simp; omega
  rcases getOb_two h with ⟨h1, h2⟩ | ⟨h1, h2⟩
  · rw [hl] at h1
    refine .inl ⟨h1, ?_⟩
    unfold getOb at h2 ⊢
    rw [List.getElem?_take, if_pos h1] at h2
    exact h2
  · rw [hl] at h1 h2
    refine .inr ⟨h1, ?_⟩
    unfold getOb at h2 ⊢
    rw [List.getElem?_drop] at h2
    exact h2

theorem sr_renum {w0 : World} {X0 : Cx} {S0 : St} {len m : Nat} (hS0 : SR w0 X0 S0) (hlen : S0.length = len) (hS : SR w X S) (hlm : len ≤ m) (hm : m ≤ S.length)
    (hbox : ∀ id ob, id < len → getOb S id = some ob → ob.kd = .box → getOb S0 id = some ob) (hφ : ∀ id, id < len → X.φ id = X0.φ id) (hnew : ∀ id ob, m ≤ id → getOb S id = some ob → ob.kd ≠ .box) : SR w (X.renum len m) (S.take len ++ S.drop m) := by
  have hN := hS.n
  have hN0 := hS0.n
  refine ⟨by simp [Cx.renum, hN]; omega, fun b hb => hS.lab b (fun hn => by simp [Cx.renum, hn] at hb), hS.pro, fun id ob h => ?_⟩
  rcases getOb_take_drop hlm hm h with ⟨hlt, h'⟩ | ⟨hge, h'⟩
  · have hok := hS.obs id ob h'
    unfold OK at hok ⊢
    have e1 : (X.renum len m).φ id = X.φ id := by simp [Cx.renum, hlt]
    rw [e1]
    cases hI : X.φ id with
    | none => rw [hI] at hok; exact hok
    | some I =>
      rw [hI] at hok
      obtain ⟨c, hor⟩ := hok
      refine ⟨c, hor.sz, hor.rows, by simp [Cx.renum, hor.root, hlt], hor.par, hor.npro, hor.blk, hor.fits, hor.cell, fun i j hi hj => ?_⟩
      have h0 := hor.val i j hi hj
      by_cases hk : ob.kd = .box
      · rw [if_pos hk] at h0 ⊢
        have hob0 := hbox id ob hlt h' hk
        obtain ⟨c0, hor0⟩ := row_of hS0 hob0 (by rw [← hφ id hlt]; exact hI)
        have h1 := hor0.val i j hi hj
        rw [if_pos hk] at h1
        exact h0.renum_old (by omega) (by omega) h1
      · rw [if_neg hk] at h0 ⊢
        exact h0.renum (by simp [hlt])
  · have hok := hS.obs _ ob h'
    unfold OK at hok ⊢
    have hnl : ¬ id < len := by omega
    have e1 : (X.renum len m).φ id = X.φ (m + (id - len)) := by simp [Cx.renum, hnl]
    rw [e1]
    cases hI : X.φ (m + (id - len)) with
    | none => rw [hI] at hok; exact hok
    | some I =>
      rw [hI] at hok
      obtain ⟨c, hor⟩ := hok
      have hlab : (if m + (id - len) < len then some (m + (id - len)) else if m + (id - len) < m then none else some (len + (m + (id - len) - m))) = some id := by
        rw [if_neg (by omega), if_neg (by omega)]; congr 1; omega
      refine ⟨c, hor.sz, hor.rows, by simp only [Cx.renum, hor.root]; exact hlab, hor.par, hor.npro, hor.blk, hor.fits, hor.cell, fun i j hi hj => ?_⟩
      have h0 := hor.val i j hi hj
      have hk := hnew _ ob (by omega) h'
      rw [if_neg hk] at h0 ⊢
      exact h0.renum hlab

/-- A result's value under new numbers. -/
theorem VR.renum_new {tree : Bool} {len m : Nat} (hlm : len ≤ m) (hm : m ≤ X.N) {v : AV} {u : Value} (h : VR w X v u) (hv : topOk tree m v = true) : VR w (X.renum len m) (rebaseTop m len v) u := by
  rw [rebaseTop_eq hv]
  refine VR.outTop (tree := tree) (m := m) (g := rebaseCell m len) (g1 := rebase m len) (g2 := rebaseAll m len) (fun c u hc hcu => ?_) (fun cs => rfl) (fun c hc => rebase_cell hc) (fun vs => rfl) (fun v hv' => rebaseAll_val hv') h hv
  cases hcu with
  | int k n => exact .int k n
  | bool b => exact .bool b
  | str s => exact .str s
  | nilp => exact .nilp
  | ts q hq sz els v h => exact .ts q hq sz els _ (h.stp (stp_renum len m))
  | tp q hq sz els i j v h => exact .tp q hq sz els i j _ (h.stp (stp_renum len m))
  | sl id lo n cap I hid hI hn hcap hmx =>
    simp only [cellOk, decide_eq_true_eq] at hc
    have hnl : ¬ len + (id - m) < len := by omega
    have e1 : m + (len + (id - m) - len) = id := by omega
    exact .sl _ lo n cap I (by simp only [Cx.renum]; omega) (by simp only [Cx.renum]; rw [if_neg hnl, e1]; exact hI) hn hcap hmx
  | slz id lo A hid =>
    simp only [cellOk, decide_eq_true_eq] at hc
    exact .slz _ lo A (by simp only [Cx.renum]; omega)
  | nil => simp [cellOk] at hc
  | fn f caps cv hl h => simp [cellOk] at hc
  | agg cs cv hl h => simp [cellOk] at hc
  | tup cs cv hl h => simp [cellOk] at hc
  | ptr id i j I hid hI => simp [cellOk] at hc

end Go.Pi

/- Pi: what a call hands back. -/
namespace Go.Pi
open Go
variable {P : Program} {T : Tab} {o : Oper} {a : Act} {w w' : World} {X X' Xc : Cx} {fr : Fr} {S S' : St} {v : AV}

/-- A row gets a new name; the new one holds a window of it. -/
theorem ren_ok (hS : SR w X S) {id : Nat} {ob : Ob} {I : Info} (hob : getOb S id = some ob) (hkd : ob.kd ≠ .box) (hI : X.φ id = some I) {lo n : Nat} (hln : lo + n ≤ ob.els.length) {W : List (List AV)} (hW : W.length = n)
    (hrows : ∀ r ∈ W, r.length = ob.sz) (hat : ∀ i j, i < n → j < ob.sz → at2 W i j = at2 ob.els (lo + i) j ∨ at2 W i j = setTop .bor (at2 ob.els (lo + i) j)) :
    ∃ X', Stn w X w X' ∧ SR w X' (S.set id none ++ [some ⟨.arr, ob.sz, W⟩]) ∧ X'.N = X.N + 1 ∧ X'.φ X.N = some ⟨I.g, I.o + lo * I.sz, I.sz, I.size⟩ := by
  obtain ⟨co, hor⟩ := row_of hS hob hI
  have hidlt := getOb_lt hob
  have hN := hS.n
  have hsz := hor.sz
  have hfits := hor.fits
  have s : Stn w X w (X.ren id ⟨I.g, I.o + lo * I.sz, I.sz, I.size⟩) := by
    refine ⟨⟨rfl, rfl, rfl, Nat.le_refl _, fun b hb hr => ⟨rfl, ?_⟩, fun b hb hr => by simp [Cx.ren, hr], rfl⟩, by simp [Cx.ren], fun i hi => by
      have : i ≠ X.N := by omega
      simp [Cx.ren, this]⟩
    rintro ⟨h1, h2⟩
    exact hr ⟨fun hn => by simp [Cx.ren, hn] at h1, h2⟩
  refine ⟨_, s, ⟨by simp [Cx.ren, hN], fun b hb => hS.lab b (fun hn => by simp [Cx.ren, hn] at hb), hS.pro, fun id' ob' h => ?_⟩, rfl, by simp [Cx.ren]⟩
  rcases getOb_append h with ⟨hlt, h'⟩ | ⟨rfl, rfl⟩
  · obtain ⟨hne', h''⟩ := getOb_kill h'
    exact (hS.obs id' ob' h'').keep s (by rw [hN]; exact getOb_lt h'') (fun b hb hr => by simp [Cx.ren, hr, hne']) (fun _ _ => rfl)
  · unfold OK
    have e1 : (X.ren id ⟨I.g, I.o + lo * I.sz, I.sz, I.size⟩).φ (S.set id none).length = some ⟨I.g, I.o + lo * I.sz, I.sz, I.size⟩ := by simp [Cx.ren, hN]
    rw [e1]
    refine ⟨fun i j => co (lo + i) j, hsz, hrows, by simp [Cx.ren, hor.root, hN], by simp [Cx.ren, hor.par], hor.npro, hor.blk, ?_, fun i j hi hj => ?_, fun i j hi hj => ?_⟩
    · simp only [hW]
      have : (lo + n) * I.sz ≤ ob.els.length * I.sz := Nat.mul_le_mul_right _ hln
      rw [Nat.add_mul] at this
      omega
    · simp only [hW] at hi
      have hj : j < ob.sz := hj
      have h0 := hor.cell (lo + i) j (by omega) hj
      have he : I.o + lo * I.sz + i * I.sz + j = I.o + (lo + i) * I.sz + j := by rw [Nat.add_mul]; omega
      rw [he]; exact h0
    · simp only [hW] at hi
      have hj : j < ob.sz := hj
      rw [if_neg (by simp)]
      have h0 := hor.val (lo + i) j (by omega) hj
      rw [if_neg hkd] at h0
      have he : I.o + (lo + i) * I.sz + j = I.o + lo * I.sz + i * I.sz + j := by rw [Nat.add_mul]; omega
      rw [he] at h0
      have h1 := h0.reloc s.toStp (rid := X.N) (fun l => l) (fun _ _ _ => rfl) (fun b _ hr _ => by simp [Cx.ren, hr])
      simp only [hN] at h1
      simp only [List.length_set]
      rcases hat i j hi hj with e | e
      · rw [e]; simpa [hN] using h1
      · rw [e]; simpa [hN] using h1.viewCell S.length (I.g, I.o + lo * I.sz + i * I.sz + j)

/-- Several rows' labels go. -/
theorem kill_ok (hS : SR w X S) : ∀ (K : List Nat), ∃ X', Stn w X w X' ∧ SR w X' (kill S K) ∧ X'.N = X.N ∧ X'.φ = X.φ ∧ (∀ b, X'.par b = X.par b) ∧ (∀ b id, X'.root b = some id → X.root b = some id ∧ id ∉ K) := by
  intro K
  induction K generalizing S X with
  | nil => exact ⟨X, Stn.refl w X, hS, rfl, rfl, fun _ => rfl, fun b id h => ⟨h, by simp⟩⟩
  | cons k K ih =>
    obtain ⟨X', s, hS', h1, h2, h3, h4⟩ := ih (sr_drop hS k)
    refine ⟨X', stn_drop.trans s, hS', h1, h2, h3, fun b id h => ?_⟩
    obtain ⟨k1, k2⟩ := h4 b id h
    have hne : id ≠ k ∧ X.root b = some id := by
      simp only [Cx.drop] at k1
      split at k1
      · cases k1
      · rename_i hk
        exact ⟨fun e => hk (by rw [k1, e]), k1⟩
    exact ⟨hne.2, by simp [hne.1, k2]⟩

structure OutR (w : World) (X : Cx) (L : Nat) (o : Outs) : Prop where
  sr : SR w X (o.S ++ o.roots.map some)
  len : o.S.length = L
  kd : ∀ ob ∈ o.roots, ob.kd = .arr
  low : ∀ id ob, getOb o.S id = some ob → ob.kd = .box → ∀ r ∈ ob.els, ∀ c ∈ r, ∀ id' ∈ idsCell c, id' < L

theorem mapO_mono {α β : Type} {f g : α → Option β} (h : ∀ x y, f x = some y → g x = some y) : ∀ {l : List α} {l' : List β}, mapO f l = some l' → mapO g l = some l' := by
  intro l
  induction l with
  | nil => intro l' h'; exact h'
  | cons a l ih =>
    intro l' h'
    simp only [mapO] at h' ⊢
    split at h'
    · cases h'
    · rename_i b hb
      split at h' <;> cases h'
      rename_i bs hbs
      rw [h _ _ hb, ih hbs]

theorem isRow_mono {S2 : St} (h : ∀ id ob, getOb S id = some ob → getOb S2 id = some ob) {id : Nat} {ob : Ob} (hr : isRow S id = some ob) : isRow S2 id = some ob := by
  obtain ⟨h1, h2⟩ := isRow_ob hr
  unfold isRow
  rw [h _ _ h1]
  simp [h2]

theorem lendCell_mono {S2 : St} (h : ∀ id ob, getOb S id = some ob → getOb S2 id = some ob) {c d : AV} (hc : lendCell S c = some d) : lendCell S2 c = some d := by
  unfold lendCell at hc ⊢
  split at hc <;> try (exact hc)
  split at hc
  · cases hc
  · rename_i ob hr
    rw [isRow_mono h hr]
    exact hc

theorem lendPtr_mono {S2 : St} (h : ∀ id ob, getOb S id = some ob → getOb S2 id = some ob) {c d : AV} (hc : lendPtr S c = some d) : lendPtr S2 c = some d := by
  unfold lendPtr at hc ⊢
  split at hc
  · split at hc
    · cases hc
    · rename_i ob hob
      simp only [h _ _ hob]
      split at hc
      · rename_i hk
        rw [if_pos hk]
        split at hc <;> cases hc
        rename_i els hels
        rw [mapO_mono (fun x y hxy => mapO_mono (fun a b hab => lendCell_mono h hab) hxy) hels]
      · cases hc
  · exact lendCell_mono h hc

theorem getOb_left {A B : St} {id : Nat} {ob : Ob} (h : getOb A id = some ob) : getOb (A ++ B) id = some ob := by
  have := getOb_lt h
  unfold getOb at h ⊢
  rw [List.getElem?_append_left this]; exact h

theorem kill_left : ∀ (K : List Nat) (A B : St), (∀ k ∈ K, k < A.length) → kill (A ++ B) K = kill A K ++ B := by
  intro K
  induction K with
  | nil => intro A B _; rfl
  | cons k K ih =>
    intro A B h
    simp only [kill]
    rw [List.set_append_left _ _ (h k (by simp)), ih _ _ (fun k' hk' => by simpa using h k' (by simp [hk']))]

theorem outCell_ok {tree : Bool} {L e : Nat} {o o' : Outs} {c c' : AV} {u : Value} (hO : OutR w X L o) (hv : VR w X c u) (h : outCell tree L o e c = some (c', o')) :
    ∃ X', Stn w X w X' ∧ OutR w X' L o' ∧ VR w X' c' u := by
  have hS := hO.sr
  have hN := hS.n
  have hNL : X.N = L + o.roots.length := by rw [hN]; simp [hO.len]
  cases c with
  | nil =>
    simp only [outCell, Option.some.injEq, Prod.mk.injEq] at h
    obtain ⟨rfl, rfl⟩ := h
    cases hv
    obtain ⟨s, hS2⟩ := sr_addnil hS .arr (by simp) e 0
    refine ⟨_, s, ⟨by simpa using hS2, hO.len, fun ob hob => ?_, hO.low⟩, .slz _ 0 none (by simp [Cx.add, hNL])⟩
    rcases List.mem_append.1 hob with h | h
    · exact hO.kd ob h
    · simp at h; rw [h]
  | sl id lo n =>
    simp only [outCell] at h
    split at h
    · cases h
    · rename_i ob hrow
      split at h
      · rename_i hc
        obtain ⟨hsz, hln, _⟩ := hc
        simp only [Option.some.injEq, Prod.mk.injEq] at h
        obtain ⟨rfl, rfl⟩ := h
        obtain ⟨hob, hkd⟩ := isRow_ob hrow
        have hidlt := getOb_lt hob
        have hset : (o.S ++ o.roots.map some).set id none = o.S.set id none ++ o.roots.map some := List.set_append_left _ _ hidlt
        have hwl := window_length (els := ob.els) hln
        have hkdn : ∀ W, ∀ ob' ∈ o.roots ++ [(⟨.arr, e, W⟩ : Ob)], ob'.kd = .arr := fun W ob' hob' => by
          rcases List.mem_append.1 hob' with h | h
          · exact hO.kd ob' h
          · simp at h; rw [h]
        cases hv with
        | sl id lo n cap I hid' hI hn hcap hm =>
          obtain ⟨cc, hor⟩ := row_of hS (getOb_left hob) hI
          have hwr : ∀ r ∈ window ob.els lo n, r.length = ob.sz := fun r hr => hor.rows r (window_mem hr)
          obtain ⟨X', s, hS2, hN2, hφ2⟩ := ren_ok hS (getOb_left hob) hkd hI hln (W := if tree then (window ob.els lo n).map (·.map (setTop .bor)) else window ob.els lo n)
            (by split <;> simp [hwl]) (fun r hr => by
              split at hr
              · exact rows_map _ _ hwr r hr
              · exact hwr r hr) (fun i j hi hj => by
              split
              · right
                rw [at2_map _ _ hwr (by omega) hj, at2_window hi]
              · left
                exact at2_window hi j)
          rw [hset, hsz] at hS2
          refine ⟨X', s, ⟨by simpa using hS2, by simp [hO.len], hkdn _, fun id' ob' h' => hO.low id' ob' (getOb_kill h').2⟩, ?_⟩
          have := VR.sl (w := w) (X := X') (L + o.roots.length) 0 n cap ⟨I.g, I.o + lo * I.sz, I.sz, I.size⟩ (by omega) (by rw [← hNL]; exact hφ2) hn (by
            have : I.o + lo * I.sz + (0 + cap) * I.sz = I.o + (lo + cap) * I.sz := by rw [Nat.add_mul, Nat.add_mul]; omega
            rw [this]; exact hcap) hm
          simpa using this
        | slz id lo A hid' =>
          have hw0 : window ob.els lo 0 = [] := by simp [window]
          have s1 : Stn w X w (X.drop id) := stn_drop
          have hS1 := sr_drop hS id
          obtain ⟨s2, hS2⟩ := sr_addnil hS1 .arr (by simp) e 0
          rw [hset] at hS2
          refine ⟨_, s1.trans s2, ⟨by simpa [hw0] using hS2, by simp [hO.len], hkdn _, fun id' ob' h' => hO.low id' ob' (getOb_kill h').2⟩, .slz _ 0 A (by simp [Cx.add, Cx.drop, hNL])⟩
      · cases h
  | int k n => simp only [outCell, Option.some.injEq, Prod.mk.injEq] at h; obtain ⟨rfl, rfl⟩ := h; exact ⟨X, Stn.refl w X, hO, hv⟩
  | bool b => simp only [outCell, Option.some.injEq, Prod.mk.injEq] at h; obtain ⟨rfl, rfl⟩ := h; exact ⟨X, Stn.refl w X, hO, hv⟩
  | str s => simp only [outCell, Option.some.injEq, Prod.mk.injEq] at h; obtain ⟨rfl, rfl⟩ := h; exact ⟨X, Stn.refl w X, hO, hv⟩
  | nilp => simp only [outCell, Option.some.injEq, Prod.mk.injEq] at h; obtain ⟨rfl, rfl⟩ := h; exact ⟨X, Stn.refl w X, hO, hv⟩
  | ts q sz els =>
    cases hv with
    | ts q hq sz els v hr =>
      have : VR w X (.ts .bor sz els) u := .ts .bor (by simp) sz els _ ((hr.weak (q' := .bor) (by simp)).setTop (q := .bor))
      cases q with
      | own => exact absurd rfl hq
      | bor => simp only [outCell] at h; split at h <;> cases h; exact ⟨X, Stn.refl w X, hO, this⟩
      | imm => simp only [outCell] at h; split at h <;> cases h; exact ⟨X, Stn.refl w X, hO, this⟩
  | tp q sz els i j =>
    cases hv with
    | tp q hq sz els i j v hr =>
      have : VR w X (.tp .bor sz els i j) u := .tp .bor (by simp) sz els i j _ ((hr.weak (q' := .bor) (by simp)).setTop (q := .bor))
      cases q with
      | own => exact absurd rfl hq
      | bor => simp only [outCell] at h; split at h <;> cases h; exact ⟨X, Stn.refl w X, hO, this⟩
      | imm => simp only [outCell] at h; split at h <;> cases h; exact ⟨X, Stn.refl w X, hO, this⟩
  | ptr id i j =>
    simp only [outCell] at h
    split at h
    · split at h
      · cases h
      · rename_i d hd
        simp only [Option.some.injEq, Prod.mk.injEq] at h
        obtain ⟨rfl, rfl⟩ := h
        have hmono : ∀ id ob, getOb o.S id = some ob → getOb (o.S ++ o.roots.map some) id = some ob := fun _ _ h => getOb_left h
        have hob : ∃ ob, getOb o.S id = some ob := by
          unfold lendPtr at hd
          simp only at hd
          split at hd
          · cases hd
          · rename_i ob hob; exact ⟨ob, hob⟩
        obtain ⟨ob, hob⟩ := hob
        have hlow : ∀ k ∈ idsDeep o.S (.ptr id i j), k < o.S.length := by
          intro k hk
          simp only [idsDeep, idsOf, idsCell, List.flatMap_cons, List.flatMap_nil, List.append_nil, hob] at hk
          rcases List.mem_cons.1 hk with rfl | hk
          · exact getOb_lt hob
          · split at hk
            · rename_i hkb
              obtain ⟨r, hr, hk⟩ := List.mem_flatMap.1 hk
              obtain ⟨c, hc, hk⟩ := List.mem_flatMap.1 hk
              rw [hO.len]
              exact hO.low id ob hob hkb r hr c hc k hk
            · cases hk
        obtain ⟨X', s, hS', h1, h2, h3, h4⟩ := kill_ok hS (idsDeep o.S (.ptr id i j))
        rw [kill_left _ _ _ hlow] at hS'
        have hl := lendPtr_ok (A := fun b => ¬ X.isRoot b ∨ ∃ k ∈ idsDeep o.S (.ptr id i j), X.root b = some k) hS hv (lendPtr_mono hmono hd) (fun b hb => .inl (not_root_of_none hb)) (fun b hb => .inl hb) (fun id' hid' => by
          simp only [idsCell, List.mem_singleton] at hid'
          subst hid'
          refine ⟨fun b hb => .inr ⟨id', mem_idsDeep (by simp [idsOf, idsCell]), hb⟩, fun ob' hob' hk' r hr d hd' id'' hid'' b hb => .inr ⟨id'', ?_, hb⟩⟩
          have : ob' = ob := by have := hmono _ _ hob; rw [this] at hob'; injection hob' with hob'; exact hob'.symm
          subst this
          exact mem_idsDeep_box (v := .ptr id' i j) (by simp [idsOf, idsCell]) hob hk' hr hd' hid'')
        refine ⟨X', s, ⟨hS', by simp [kill_length, hO.len], hO.kd, fun id' ob' h' => hO.low id' ob' (getOb_kill_list h').2⟩, ?_⟩
        have hok : ∀ b, b < w.heap.size → (X.inner w.heap.size (fun b => ¬ X.isRoot b ∨ ∃ k ∈ idsDeep o.S (.ptr id i j), X.root b = some k)).ok .imm b → X'.ok .bor b := by
          intro b hb hok
          have hnp : ¬ (X.pro b ∨ (b < w.heap.size ∧ ¬ (¬ X.isRoot b ∨ ∃ k ∈ idsDeep o.S (.ptr id i j), X.root b = some k))) := hok.2
          refine ⟨?_, fun hp => hnp (.inl (by rw [← s.pro]; exact hp))⟩
          have hA : ¬ X.isRoot b ∨ ∃ k ∈ idsDeep o.S (.ptr id i j), X.root b = some k := Classical.byContradiction fun hn => hnp (.inr ⟨hb, hn⟩)
          rintro ⟨r1, r2⟩
          cases hr : X'.root b with
          | none => exact r1 hr
          | some k' =>
            obtain ⟨k1, k2⟩ := h4 b k' hr
            rcases hA with hA | ⟨k, hk, hrk⟩
            · exact hA ⟨by rw [k1]; simp, by rw [← h3 b]; exact r2⟩
            · rw [k1] at hrk; injection hrk with hrk; subst hrk; exact k2 hk
        have htop : ∃ sz els, d = .tp .imm sz els i j := by
          unfold lendPtr at hd
          simp only [hob] at hd
          split at hd
          · split at hd <;> cases hd
            exact ⟨_, _, rfl⟩
          · cases hd
        obtain ⟨sz, els, rfl⟩ := htop
        cases hl with
        | tp q hq sz els i j v hr => exact .tp .bor (by simp) sz els i j _ ((hr.keep (Nat.le_refl _) (fun b hb hok' => ⟨rfl, hok b hb hok'⟩)).setTop (q := .bor))
    · cases h
  | fn f caps => simp [outCell] at h
  | agg cs => simp [outCell] at h
  | tup cs => simp [outCell] at h

end Go.Pi

/- Pi: results, joined. -/
namespace Go.Pi
open Go
variable {P : Program} {T : Tab} {o : Oper} {a : Act} {w w' : World} {X X' Xc : Cx} {fr : Fr} {S S' : St} {v : AV}

theorem outL_ok {tree : Bool} {L : Nat} : ∀ {cs : List AV} {es : List Nat} {X : Cx} {o o' : Outs} {cs' : List AV} {us : List Value} (_ : OutR w X L o) (_ : cs.length = us.length)
    (_ : ∀ i, i < cs.length → VR w X (cs.getD i .undef) (us.getD i Go.undef)) (_ : outL tree L o es cs = some (cs', o')),
    ∃ X', Stn w X w X' ∧ OutR w X' L o' ∧ cs'.length = us.length ∧ ∀ i, i < cs'.length → VR w X' (cs'.getD i .undef) (us.getD i Go.undef) := by
  intro cs
  induction cs with
  | nil =>
    intro es X o o' cs' us hO hl hv h
    cases es <;> (simp only [outL, Option.some.injEq, Prod.mk.injEq] at h; obtain ⟨rfl, rfl⟩ := h; exact ⟨X, Stn.refl w X, hO, hl, fun i hi => absurd hi (Nat.not_lt_zero i)⟩)
  | cons c cs ih =>
    intro es X o o' cs' us hO hl hv h
    cases es with
    | nil => simp [outL] at h
    | cons e es =>
      cases us with
      | nil => simp at hl
      | cons u us =>
        simp only [outL] at h
        split at h
        · cases h
        · rename_i c1 o1 h1
          split at h <;> cases h
          rename_i cs1 h2
          obtain ⟨X1, s1, hO1, hv1⟩ := outCell_ok hO (by simpa using hv 0 (by simp)) h1
          obtain ⟨X2, s2, hO2, k1, k2⟩ := ih hO1 (by simpa using hl) (fun i hi => (by simpa using hv (i + 1) (by simpa using hi) : VR w X (cs.getD i .undef) (us.getD i Go.undef)).stn s1) h2
          refine ⟨X2, s1.trans s2, hO2, by simp [k1], fun i hi => ?_⟩
          cases i with
          | zero => simpa using hv1.stn s2
          | succ i => simpa using k2 i (by simpa using hi)

theorem outV_ok {tree : Bool} {L : Nat} {es : List Nat} {o o' : Outs} {c c' : AV} {u : Value} (hO : OutR w X L o) (hv : VR w X c u) (h : outV tree L o es c = some (c', o')) :
    ∃ X', Stn w X w X' ∧ OutR w X' L o' ∧ VR w X' c' u := by
  have one : ∀ {e : Nat}, outCell tree L o e c = some (c', o') → ∃ X', Stn w X w X' ∧ OutR w X' L o' ∧ VR w X' c' u := fun h => outCell_ok hO hv h
  cases c with
  | agg cs =>
    simp only [outV] at h
    split at h
    · cases h
    · rename_i cs' o1 h1
      simp only [Option.some.injEq, Prod.mk.injEq] at h
      obtain ⟨rfl, rfl⟩ := h
      obtain ⟨cv, rfl, hl, hcv⟩ := hv.agg_inv
      obtain ⟨X', s, hO', k1, k2⟩ := outL_ok hO hl hcv h1
      exact ⟨X', s, hO', .agg cs' cv k1 k2⟩
  | _ =>
    simp only [outV] at h
    split at h
    · exact one h
    · cases h

/-- The results as the machine reads them. -/
def readRes (a : Act) : ResultVar → Sem Value
  | .tmp t => pure (a.tmps.getD t Go.undef)
  | .cell b t => do loadVar t (← asAddr (a.tmps.getD b Go.undef))

theorem loadAt_eq (t : Nat) (u : Value) : Instr.loadAt t u = (do loadVar t (← Instr.sureAddr u)) := rfl

theorem run_asAddr {p : Addr} (w : World) : (asAddr (.pointer (some p))).run P w = .ok p w := by simp [asAddr]

theorem evLoad_ptr {t : Nat} {av c : AV} (h : evLoad T t av S = some c) : (∃ id i j, av = .ptr id i j) ∨ (∃ q sz els i j, av = .tp q sz els i j) := by
  unfold evLoad at h
  split at h
  · cases h
  · split at h
    · exact .inl ⟨_, _, _, rfl⟩
    · exact .inr ⟨_, _, _, _, _, rfl⟩
    · cases h

theorem VR.addr {av : AV} {u : Value} (h : VR w X av u) (ha : (∃ id i j, av = .ptr id i j) ∨ (∃ q sz els i j, av = .tp q sz els i j)) : ∃ p, u = .pointer (some p) := by
  rcases ha with ⟨id, i, j, rfl⟩ | ⟨q, sz, els, i, j, rfl⟩
  · cases h with | ptr => exact ⟨_, rfl⟩
  · cases h with | tp q hq sz els i j v hr => cases hr; exact ⟨_, rfl⟩

theorem outs_ok (hT : TabOk P T) {tree : Bool} {L : Nat} : ∀ {rs : List ResultVar} {ess : List (List Nat)} {X : Cx} {o o' : Outs} {vs : List AV} (_ : OutR w X L o) (_ : FrR w X fr a) (_ : outs T tree L fr o rs ess = some (vs, o')),
    ∃ X' us, Stn w X w X' ∧ OutR w X' L o' ∧ vs.length = us.length ∧ (∀ i, i < vs.length → VR w X' (vs.getD i .undef) (us.getD i Go.undef)) ∧ (rs.mapM (readRes a)).run P w = .ok us w := by
  intro rs
  induction rs with
  | nil =>
    intro ess X o o' vs hO hf h
    simp only [outs, Option.some.injEq, Prod.mk.injEq] at h
    obtain ⟨rfl, rfl⟩ := h
    exact ⟨X, [], Stn.refl w X, hO, rfl, fun i hi => absurd hi (Nat.not_lt_zero i), by simp⟩
  | cons r rs ih =>
    intro ess X o o' vs hO hf h
    cases ess with
    | nil => cases r <;> simp [outs] at h
    | cons es ess =>
      cases r with
      | tmp t =>
        simp only [outs] at h
        split at h
        · cases h
        · rename_i v1 o1 h1
          split at h <;> cases h
          rename_i vs1 h2
          obtain ⟨X1, s1, hO1, hv1⟩ := outV_ok hO (hf.val t) h1
          obtain ⟨X2, us, s2, hO2, k1, k2, k3⟩ := ih hO1 ⟨hf.len, fun i => (hf.val i).stn s1, hf.defers⟩ h2
          refine ⟨X2, a.tmps.getD t Go.undef :: us, s1.trans s2, hO2, by simp [k1], fun i hi => ?_, by simp [List.mapM_cons, readRes, k3]⟩
          cases i with
          | zero => simpa using hv1.stn s2
          | succ i => simpa using k2 i (by simpa using hi)
      | cell b t =>
        simp only [outs] at h
        split at h
        · cases h
        · rename_i c hld
          split at h
          · cases h
          · rename_i v1 o1 h1
            split at h <;> cases h
            rename_i vs1 h2
            have hS := hO.sr
            have hmono : evLoad T t (fr.getD b .undef) (o.S ++ o.roots.map some) = some c := by
              unfold evLoad at hld ⊢
              cases hti : T.ty t with
              | none => rw [hti] at hld; cases hld
              | some ti =>
                rw [hti] at hld
                simp only at hld ⊢
                split at hld
                · rename_i id i j heq
                  split at hld
                  · cases hld
                  · rename_i ob hob
                    rw [getOb_left hob]
                    exact hld
                · exact hld
                · cases hld
            obtain ⟨u, hu1, hu2⟩ := load_ok hT hS (hf.val b) hmono
            obtain ⟨p, hp⟩ := (hf.val b).addr (evLoad_ptr hld)
            obtain ⟨X1, s1, hO1, hv1⟩ := outV_ok hO hu2 h1
            obtain ⟨X2, us, s2, hO2, k1, k2, k3⟩ := ih hO1 ⟨hf.len, fun i => (hf.val i).stn s1, hf.defers⟩ h2
            have hrd : (readRes a (.cell b t)).run P w = .ok u w := by
              rw [hp] at hu1
              simp only [readRes, hp, Sem.run_bind, run_asAddr, Result.andThen_ok]
              simpa [Instr.loadAt, Instr.sureAddr] using hu1
            refine ⟨X2, u :: us, s1.trans s2, hO2, by simp [k1], fun i hi => ?_, by simp [List.mapM_cons, hrd, k3]⟩
            cases i with
            | zero => simpa using hv1.stn s2
            | succ i => simpa using k2 i (by simpa using hi)

theorem results_run {fn : Func} {us : List Value} (h : (fn.results.toList.mapM (readRes a)).run P w = .ok us w) :
    (results fn a.tmps).run P w = .ok (if h : us.toArray.size = 1 then us.toArray[0] else .tuple us.toArray) w := by
  have e : (fn.results.mapM (readRes a)).run P w = .ok us.toArray w := by
    rw [Array.mapM_eq_mapM_toList]
    simp [h]
  have e2 : results fn a.tmps = (do let vs ← fn.results.mapM (readRes a); pure (if h : vs.size = 1 then vs[0] else .tuple vs)) := by
    unfold results
    congr 2
  rw [e2, Sem.run_bind, e, Result.andThen_ok, Sem.run_pure]

theorem tupOf_ok {vs : List AV} {us : List Value} (hl : vs.length = us.length) (hv : ∀ i, i < vs.length → VR w X (vs.getD i .undef) (us.getD i Go.undef)) :
    VR w X (tupOf vs) (if h : us.toArray.size = 1 then us.toArray[0] else .tuple us.toArray) := by
  match vs, us, hl, hv with
  | [], [], _, _ => exact .tup [] [] rfl (fun i hi => absurd hi (Nat.not_lt_zero i))
  | [v], [u], _, hv => simpa [tupOf] using hv 0 (by simp)
  | v :: v' :: vs, u :: u' :: us, hl, hv =>
    simp only [tupOf]
    have : ¬ (u :: u' :: us).toArray.size = 1 := by simp
    rw [dif_neg this]
    exact .tup _ _ hl hv

end Go.Pi

/- Pi: the end of a call. -/
namespace Go.Pi
open Go
variable {P : Program} {T : Tab} {o : Oper} {a : Act} {w w' : World} {X X' Xc : Cx} {fr : Fr} {S S' : St} {v : AV}

/-- A result's cell before it is renumbered. -/
def cellB (tree : Bool) (L : Nat) : AV → Bool
  | .int _ _ | .bool _ | .str _ | .nilp => true
  | .sl id _ _ => decide (L ≤ id)
  | .ts q _ _ => tree && decide (q = .bor)
  | .tp q _ _ _ _ => tree && decide (q = .bor)
  | _ => false
def valB (tree : Bool) (L : Nat) : AV → Bool
  | .agg cs => cs.all (cellB tree L)
  | c => cellB tree L c

def RootsOk (tree : Bool) (rs : List Ob) : Prop := ∀ ob ∈ rs, ob.kd = .arr ∧ (tree = false → ownOnlyLL ob.els = true)

theorem RootsOk.push {tree : Bool} {rs : List Ob} (h : RootsOk tree rs) {ob : Ob} (h1 : ob.kd = .arr) (h2 : tree = false → ownOnlyLL ob.els = true) : RootsOk tree (rs ++ [ob]) := by
  intro x hx
  rcases List.mem_append.1 hx with hx | hx
  · exact h x hx
  · simp at hx; subst hx; exact ⟨h1, h2⟩

theorem outCell_shape {tree : Bool} {L e : Nat} {o o' : Outs} {c c' : AV} (h : outCell tree L o e c = some (c', o')) (hr : RootsOk tree o.roots) : cellB tree L c' = true ∧ RootsOk tree o'.roots := by
  unfold outCell at h
  split at h <;> try (cases h; done)
  · cases h; exact ⟨by simp [cellB], hr.push rfl (fun _ => rfl)⟩
  · split at h
    · cases h
    · split at h <;> cases h
      rename_i hc
      refine ⟨by simp [cellB], hr.push rfl (fun ht => ?_)⟩
      rcases hc.2.2 with h1 | h1
      · rw [ht] at h1; cases h1
      · simp [ht, h1]
  · cases h; exact ⟨rfl, hr⟩
  · cases h; exact ⟨rfl, hr⟩
  · cases h; exact ⟨rfl, hr⟩
  · cases h; exact ⟨rfl, hr⟩
  · split at h <;> cases h; rename_i ht; exact ⟨by simp [cellB, ht], hr⟩
  · split at h <;> cases h; rename_i ht; exact ⟨by simp [cellB, ht], hr⟩
  · split at h
    · rename_i ht
      split at h <;> cases h
      rename_i d hd
      have : ∃ sz els i j, d = .tp .imm sz els i j := by
        unfold lendPtr at hd
        simp only at hd
        split at hd
        · cases hd
        · split at hd
          · split at hd <;> cases hd
            exact ⟨_, _, _, _, rfl⟩
          · cases hd
      obtain ⟨sz, els, i, j, rfl⟩ := this
      exact ⟨by simp [cellB, setTop, ht], hr⟩
    · cases h

theorem outL_shape {tree : Bool} {L : Nat} : ∀ {cs : List AV} {es : List Nat} {o o' : Outs} {cs' : List AV}, outL tree L o es cs = some (cs', o') → RootsOk tree o.roots → cs'.all (cellB tree L) = true ∧ RootsOk tree o'.roots := by
  intro cs
  induction cs with
  | nil => intro es o o' cs' h hr; cases es <;> (simp only [outL, Option.some.injEq, Prod.mk.injEq] at h; obtain ⟨rfl, rfl⟩ := h; exact ⟨rfl, hr⟩)
  | cons c cs ih =>
    intro es o o' cs' h hr
    cases es with
    | nil => simp [outL] at h
    | cons e es =>
      simp only [outL] at h
      split at h
      · cases h
      · rename_i c1 o1 h1
        split at h <;> cases h
        rename_i cs1 h2
        obtain ⟨k1, k2⟩ := outCell_shape h1 hr
        obtain ⟨k3, k4⟩ := ih h2 k2
        exact ⟨by simp [k1, k3], k4⟩

theorem outV_shape {tree : Bool} {L : Nat} {es : List Nat} {o o' : Outs} {c c' : AV} (h : outV tree L o es c = some (c', o')) (hr : RootsOk tree o.roots) : valB tree L c' = true ∧ RootsOk tree o'.roots := by
  have one : ∀ {e : Nat}, outCell tree L o e c = some (c', o') → valB tree L c' = true ∧ RootsOk tree o'.roots := fun h => by
    obtain ⟨k1, k2⟩ := outCell_shape h hr
    refine ⟨?_, k2⟩
    cases c' <;> first | exact k1 | (simp [cellB] at k1)
  cases c with
  | agg cs =>
    simp only [outV] at h
    split at h
    · cases h
    · rename_i cs' o1 h1
      simp only [Option.some.injEq, Prod.mk.injEq] at h
      obtain ⟨rfl, rfl⟩ := h
      exact outL_shape h1 hr
  | _ =>
    simp only [outV] at h
    split at h
    · exact one h
    · cases h

theorem outs_shape {tree : Bool} {L : Nat} : ∀ {rs : List ResultVar} {ess : List (List Nat)} {o o' : Outs} {vs : List AV}, outs T tree L fr o rs ess = some (vs, o') → RootsOk tree o.roots →
    vs.all (valB tree L) = true ∧ RootsOk tree o'.roots := by
  intro rs
  induction rs with
  | nil => intro ess o o' vs h hr; simp only [outs, Option.some.injEq, Prod.mk.injEq] at h; obtain ⟨rfl, rfl⟩ := h; exact ⟨rfl, hr⟩
  | cons r rs ih =>
    intro ess o o' vs h hr
    cases ess with
    | nil => cases r <;> simp [outs] at h
    | cons es ess =>
      cases r with
      | tmp t =>
        simp only [outs] at h
        split at h
        · cases h
        · rename_i v1 o1 h1
          split at h <;> cases h
          rename_i vs1 h2
          obtain ⟨k1, k2⟩ := outV_shape h1 hr
          obtain ⟨k3, k4⟩ := ih h2 k2
          exact ⟨by simp [k1, k3], k4⟩
      | cell b t =>
        simp only [outs] at h
        split at h
        · cases h
        · split at h
          · cases h
          · rename_i v1 o1 h1
            split at h <;> cases h
            rename_i vs1 h2
            obtain ⟨k1, k2⟩ := outV_shape h1 hr
            obtain ⟨k3, k4⟩ := ih h2 k2
            exact ⟨by simp [k1, k3], k4⟩

theorem topB_ok {tree : Bool} {L : Nat} {vs : List AV} (ht : tree = false) (h : vs.all (valB tree L) = true) : topOk tree L (tupOf vs) = true := by
  subst ht
  have cell : ∀ c, cellB false L c = true → cellOk false L c = true := by
    intro c hc; cases c <;> first | exact hc | (simp [cellB] at hc)
  have val : ∀ c, valB false L c = true → valOk false L c = true := by
    intro c hc
    cases c with
    | agg cs => exact List.all_eq_true.2 fun c hc' => cell c (List.all_eq_true.1 hc c hc')
    | _ => first | exact hc | (simp [valB, cellB] at hc)
  match vs, h with
  | [], _ => rfl
  | [v], h =>
    have hv : valB false L v = true := by simpa using h
    simp only [tupOf]
    cases v <;> first | exact val _ hv | (simp [valB, cellB] at hv)
  | v :: v' :: vs, h => exact List.all_eq_true.2 fun c hc => val c (List.all_eq_true.1 h c hc)

theorem rebaseAll_ok {tree : Bool} {m len : Nat} {v : AV} (h : topOk tree m v = true) : topOk tree len (rebaseAll m len v) = true := by
  have cell : ∀ c, cellOk tree m c = true → cellOk tree len (rebaseCell m len c) = true := by
    intro c hc
    cases c <;> first | exact hc | (simp [rebaseCell, cellOk])
  have val : ∀ c, valOk tree m c = true → valOk tree len (rebase m len c) = true := by
    intro c hc
    cases c with
    | agg cs => exact List.all_eq_true.2 fun c hc' => by obtain ⟨d, hd, rfl⟩ := List.mem_map.1 hc'; exact cell d (List.all_eq_true.1 hc d hd)
    | sl id lo n => simp [rebase, rebaseCell, valOk, cellOk]
    | _ => exact hc
  cases v with
  | tup vs => exact List.all_eq_true.2 fun c hc' => by obtain ⟨d, hd, rfl⟩ := List.mem_map.1 hc'; exact val d (List.all_eq_true.1 h d hd)
  | agg cs =>
    have h2 : valOk tree m (.agg cs) = true := h
    exact val _ h2
  | sl id lo n => simp [rebaseAll, rebase, rebaseCell, topOk, valOk, cellOk]
  | _ => exact h

/-- The result of a call whose rows have all gone. -/
def strongAll (L : Nat) : AV → AV
  | .tup vs => .tup (vs.map fun v => strong1 (rebase L 0 v))
  | v => strong1 (rebase L 0 v)

/-- The labels when all rows but the results' have gone. -/
def Cx.bare (X : Cx) (L : Nat) : Cx where
  N := X.N - L
  root b := match X.root b with
    | some i => if L ≤ i ∧ X.par b = none then some (i - L) else none
    | none => none
  par := X.par
  φ j := X.φ (L + j)
  pro := X.pro

theorem bare_root {L b : Nat} (h : ¬ X.isRoot b) : (X.bare L).root b = none := by
  simp only [Cx.bare]
  cases hr : X.root b with
  | none => rfl
  | some i =>
    have : X.par b ≠ none := fun hp => h ⟨by rw [hr]; simp, hp⟩
    simp [this]

theorem stp_bare (L : Nat) : Stp w X w (X.bare L) := by
  refine ⟨rfl, rfl, rfl, Nat.le_refl _, fun _ _ hr => ⟨rfl, fun k => k.1 (bare_root hr)⟩, fun b _ hr => by simp [Cx.bare, hr], rfl⟩

theorem Rd.bare {L : Nat} {av : AV} {u : Value} (h : Rd w (X.ok .bor) av u) : Rd w ((X.bare L).ok .imm) av u :=
  h.keep (Nat.le_refl _) fun _ _ hok => ⟨rfl, bare_root hok.1, hok.2⟩

theorem setQ_setTop (q q' : Ql) (c : AV) : setQ q (setTop q' c) = setQ q c := by cases c <;> rfl

theorem CR.bare {L rid rid' : Nat} {loc : Nat × Nat} {av : AV} {u : Value} (h : CR w X rid loc av u) : CR w (X.bare L) rid' loc (setQ .imm av) u := by
  have h1 : Rd w ((X.bare L).ok .imm) (setQ .imm av) u := (h.look.bare (L := L)).setQ (q := .imm)
  have h2 := h1.cell (q := .imm) (by simp) rid' loc
  have : setTop .imm (setQ .imm av) = setQ .imm av := by cases av <;> rfl
  rw [this] at h2
  exact h2

theorem sr_bare {L : Nat} {A : St} {rs : List Ob} (hS : SR w X (A ++ rs.map some)) (hl : A.length = L) (hk : ∀ ob ∈ rs, ob.kd = .arr) :
    SR w (X.bare L) (rs.map fun ob => some { ob with els := setQLL .imm ob.els }) := by
  have hN := hS.n
  refine ⟨by simp [Cx.bare, hN, hl], fun b hb => hS.lab b (fun hn => by simp [Cx.bare, hn] at hb), hS.pro, fun id ob h => ?_⟩
  obtain ⟨ob0, hob0, rfl⟩ : ∃ ob0, rs[id]? = some ob0 ∧ ob = { ob0 with els := setQLL .imm ob0.els } := by
    unfold getOb at h
    rw [List.getElem?_map] at h
    cases hr : rs[id]? with
    | none => rw [hr] at h; simp at h
    | some ob0 => rw [hr] at h; simp at h; exact ⟨ob0, rfl, h.symm⟩
  have hget : getOb (A ++ rs.map some) (L + id) = some ob0 := by
    unfold getOb
    rw [List.getElem?_append_right (by omega), hl, Nat.add_sub_cancel_left, List.getElem?_map, hob0]
    rfl
  have hok := hS.obs _ _ hget
  have hkd := hk ob0 (List.mem_of_getElem? hob0)
  unfold OK at hok ⊢
  have e1 : (X.bare L).φ id = X.φ (L + id) := rfl
  rw [e1]
  cases hI : X.φ (L + id) with
  | none =>
    rw [hI] at hok
    exact ⟨by simp [hok.1, setQLL], hok.2⟩
  | some I =>
    rw [hI] at hok
    obtain ⟨c, hor⟩ := hok
    have hlen : (setQLL .imm ob0.els).length = ob0.els.length := by rw [setQLL_eq]; simp
    refine ⟨c, hor.sz, by rw [setQLL_eq]; exact rows_map _ _ hor.rows, by simp [Cx.bare, hor.root, hor.par], hor.par, hor.npro, hor.blk, by simpa [hlen] using hor.fits, fun i j hi hj => hor.cell i j (by simpa [hlen] using hi) hj, fun i j hi hj => ?_⟩
    have hi' : i < ob0.els.length := by simpa [hlen] using hi
    have h0 := hor.val i j hi' hj
    have hnb : ¬ ob0.kd = .box := by rw [hkd]; simp
    rw [if_neg hnb] at h0
    rw [if_neg hnb, setQLL_eq, at2_map _ _ hor.rows hi' hj]
    exact h0.bare

theorem VR.bareCell {L : Nat} {c : AV} {u : Value} (h : VR w X c u) (hc : cellB true L c = true) : VR w (X.bare L) (setTop .imm (rebaseCell L 0 c)) u := by
  cases h with
  | int k n => exact .int k n
  | bool b => exact .bool b
  | str s => exact .str s
  | nilp => exact .nilp
  | ts q hq sz els v h =>
    simp only [cellB, Bool.true_and, decide_eq_true_eq] at hc
    subst hc
    exact .ts .imm (by simp) sz els _ (h.bare.setTop (q := .imm))
  | tp q hq sz els i j v h =>
    simp only [cellB, Bool.true_and, decide_eq_true_eq] at hc
    subst hc
    exact .tp .imm (by simp) sz els i j _ (h.bare.setTop (q := .imm))
  | sl id lo n cap I hid hI hn hcap hmx =>
    simp only [cellB, decide_eq_true_eq] at hc
    have e1 : L + (0 + (id - L)) = id := by omega
    exact .sl _ lo n cap I (by simp only [Cx.bare]; omega) (by simp only [Cx.bare, e1]; exact hI) hn hcap hmx
  | slz id lo A hid =>
    simp only [cellB, decide_eq_true_eq] at hc
    exact .slz _ lo A (by simp only [Cx.bare]; omega)
  | nil => simp [cellB] at hc
  | fn f caps cv hl h => simp [cellB] at hc
  | agg cs cv hl h => simp [cellB] at hc
  | tup cs cv hl h => simp [cellB] at hc
  | ptr id i j I hid hI => simp [cellB] at hc

theorem strong_cellOk {L : Nat} {c : AV} (hc : cellB true L c = true) : cellOk true 0 (setTop .imm (rebaseCell L 0 c)) = true := by
  cases c <;> first | rfl | (simp [cellB] at hc; done) | (simp [rebaseCell, setTop, cellOk])

theorem strong_val {L : Nat} {v : AV} (hv : valB true L v = true) : ∃ g : AV → AV, (∀ c, g c = setTop .imm (rebaseCell L 0 c)) ∧ strong1 (rebase L 0 v) = (match v with | .agg cs => .agg (cs.map g) | c => g c) := by
  refine ⟨fun c => setTop .imm (rebaseCell L 0 c), fun _ => rfl, ?_⟩
  cases v <;> first | rfl | (simp [strong1, rebase, List.map_map]; done) | (simp [valB, cellB] at hv)

theorem VR.bareVal {L : Nat} {v : AV} {u : Value} (h : VR w X v u) (hv : valB true L v = true) : VR w (X.bare L) (strong1 (rebase L 0 v)) u ∧ valOk true 0 (strong1 (rebase L 0 v)) = true := by
  obtain ⟨g, hg, he⟩ := strong_val hv
  rw [he]
  have cell : cellB true L v = true → (VR w (X.bare L) (g v) u ∧ cellOk true 0 (g v) = true) := fun hc => by
    rw [hg]; exact ⟨h.bareCell hc, strong_cellOk hc⟩
  have cell2 : cellB true L v = true → cellOk true 0 (g v) = true → valOk true 0 (g v) = true := fun _ h2 => by
    revert h2
    cases g v <;> intro h2 <;> first | exact h2 | (simp [cellOk] at h2)
  cases v with
  | agg cs =>
    obtain ⟨cv, rfl, hl, hcv⟩ := h.agg_inv
    obtain ⟨k1, k2⟩ := VR.mapCells hl hcv (g := g) (fun c u hm hcu => by rw [hg]; exact hcu.bareCell (List.all_eq_true.1 hv c hm))
    refine ⟨.agg _ cv k1 k2, List.all_eq_true.2 fun c hc => ?_⟩
    obtain ⟨d, hd, rfl⟩ := List.mem_map.1 hc
    rw [hg]; exact strong_cellOk (List.all_eq_true.1 hv d hd)
  | _ => exact ⟨(cell hv).1, cell2 hv (cell hv).2⟩

theorem strong_top {L : Nat} {vs : List AV} : ∀ (_ : vs.all (valB true L) = true), L ≠ 0 → strong (rebaseTop L 0 (tupOf vs)) = (match vs with | [v] => strong1 (rebase L 0 v) | vs => .tup (vs.map fun v => strong1 (rebase L 0 v))) := by
  intro hv hL
  unfold rebaseTop
  rw [if_neg hL]
  match vs, hv with
  | [], _ => rfl
  | [v], hv =>
    have hv' : valB true L v = true := by simpa using hv
    simp only [tupOf]
    cases v <;> first | rfl | (simp [valB, cellB] at hv')
  | v :: v' :: vs, _ => simp [tupOf, strong, List.map_map]

end Go.Pi

/- Pi: the end of a call, joined. -/
namespace Go.Pi
open Go
variable {P : Program} {T : Tab} {o : Oper} {a : Act} {w w' : World} {X X' Xc : Cx} {fr : Fr} {S S' : St} {v : AV}

theorem BK.refl (m : Nat) (S : St) : BK m S S := ⟨Nat.le_refl _, fun _ _ _ h _ => h⟩
theorem BK.trans {m : Nat} {A B C : St} (h : BK m A B) (k : BK m B C) : BK m A C :=
  ⟨Nat.le_trans h.1 k.1, fun id ob hid hC hk => h.2 id ob hid (k.2 id ob hid hC hk) hk⟩
theorem BK.app {m : Nat} {S : St} (hm : m ≤ S.length) (R : St) : BK m S (S ++ R) :=
  ⟨by simp, fun id ob hid h _ => by
    rcases getOb_two h with ⟨_, h⟩ | ⟨h1, _⟩
    · exact h
    · omega⟩
theorem BK.strike {m : Nat} (S : St) (id : Nat) : BK m S (S.set id none) := ⟨by simp, fun _ _ _ h _ => (getOb_kill h).2⟩
theorem BK.kills {m : Nat} (S : St) (K : List Nat) : BK m S (kill S K) := ⟨by simp [kill_length], fun _ _ _ h _ => (getOb_kill_list h).2⟩
theorem BK.le {m n : Nat} {S S' : St} (h : BK n S S') (hm : m ≤ n) : BK m S S' := ⟨h.1, fun id ob hid => h.2 id ob (by omega)⟩

theorem VR.low {c : AV} {u : Value} (h : VR w X c u) : ∀ id' ∈ idsCell c, id' < X.N := by
  cases h <;> simp_all [idsCell]

theorem sr_low (hS : SR w X S) : ∀ id ob, getOb S id = some ob → ob.kd = .box → ∀ r ∈ ob.els, ∀ c ∈ r, ∀ id' ∈ idsCell c, id' < S.length := by
  intro id ob hob hk r hr c hc id' hid'
  have hok := hS.obs id ob hob
  unfold OK at hok
  cases hI : X.φ id with
  | none => rw [hI] at hok; exact absurd hk hok.2
  | some I =>
    rw [hI] at hok
    obtain ⟨cc, hor⟩ := hok
    obtain ⟨i, hi, rfl⟩ := List.getElem_of_mem hr
    obtain ⟨j, hj, rfl⟩ := List.getElem_of_mem hc
    have hrl : ob.els[i].length = ob.sz := hor.rows _ (List.getElem_mem hi)
    have h0 := hor.val i j hi (by omega)
    rw [if_pos hk] at h0
    have e : at2 ob.els i j = ob.els[i][j] := by simp [at2, List.getD_eq_getElem?_getD, hi, hj]
    rw [e] at h0
    rw [← hS.n]
    exact h0.low id' hid'

/-- ..and the store is as long as it was. -/
def BKe (m : Nat) (S S' : St) : Prop := BK m S S' ∧ S'.length = S.length
theorem BKe.refl (m : Nat) (S : St) : BKe m S S := ⟨BK.refl _ _, rfl⟩
theorem BKe.trans {m : Nat} {A B C : St} (h : BKe m A B) (k : BKe m B C) : BKe m A C := ⟨h.1.trans k.1, k.2.trans h.2⟩
theorem BKe.strike {m : Nat} (S : St) (id : Nat) : BKe m S (S.set id none) := ⟨BK.strike _ _, by simp⟩
theorem BKe.kills {m : Nat} (S : St) (K : List Nat) : BKe m S (kill S K) := ⟨BK.kills _ _, kill_length⟩

theorem outCell_bk {tree : Bool} {L e m : Nat} {o o' : Outs} {c c' : AV} (h : outCell tree L o e c = some (c', o')) : BKe m o.S o'.S := by
  unfold outCell at h
  split at h <;> try (cases h; done)
  · cases h; exact BKe.refl _ _
  · split at h
    · cases h
    · split at h <;> cases h
      exact BKe.strike _ _
  · cases h; exact BKe.refl _ _
  · cases h; exact BKe.refl _ _
  · cases h; exact BKe.refl _ _
  · cases h; exact BKe.refl _ _
  · split at h <;> cases h; exact BKe.refl _ _
  · split at h <;> cases h; exact BKe.refl _ _
  · split at h
    · split at h <;> cases h
      exact BKe.kills _ _
    · cases h

theorem outL_bk {tree : Bool} {L m : Nat} : ∀ {cs : List AV} {es : List Nat} {o o' : Outs} {cs' : List AV}, outL tree L o es cs = some (cs', o') → BKe m o.S o'.S := by
  intro cs
  induction cs with
  | nil => intro es o o' cs' h; cases es <;> (simp only [outL, Option.some.injEq, Prod.mk.injEq] at h; obtain ⟨rfl, rfl⟩ := h; exact BKe.refl _ _)
  | cons c cs ih =>
    intro es o o' cs' h
    cases es with
    | nil => simp [outL] at h
    | cons e es =>
      simp only [outL] at h
      split at h
      · cases h
      · rename_i c1 o1 h1
        split at h <;> cases h
        rename_i cs1 h2
        exact (outCell_bk h1).trans (ih h2)

theorem outV_bk {tree : Bool} {L m : Nat} {es : List Nat} {o o' : Outs} {c c' : AV} (h : outV tree L o es c = some (c', o')) : BKe m o.S o'.S := by
  cases c with
  | agg cs =>
    simp only [outV] at h
    split at h
    · cases h
    · rename_i cs' o1 h1
      simp only [Option.some.injEq, Prod.mk.injEq] at h
      obtain ⟨rfl, rfl⟩ := h
      exact outL_bk h1
  | _ =>
    simp only [outV] at h
    split at h
    · exact outCell_bk h
    · cases h

theorem outs_bk {tree : Bool} {L m : Nat} : ∀ {rs : List ResultVar} {ess : List (List Nat)} {o o' : Outs} {vs : List AV}, outs T tree L fr o rs ess = some (vs, o') → BKe m o.S o'.S := by
  intro rs
  induction rs with
  | nil => intro ess o o' vs h; simp only [outs, Option.some.injEq, Prod.mk.injEq] at h; obtain ⟨rfl, rfl⟩ := h; exact BKe.refl _ _
  | cons r rs ih =>
    intro ess o o' vs h
    cases ess with
    | nil => cases r <;> simp [outs] at h
    | cons es ess =>
      cases r with
      | tmp t =>
        simp only [outs] at h
        split at h
        · cases h
        · rename_i v1 o1 h1
          split at h <;> cases h
          rename_i vs1 h2
          exact (outV_bk h1).trans (ih h2)
      | cell b t =>
        simp only [outs] at h
        split at h
        · cases h
        · split at h
          · cases h
          · rename_i v1 o1 h1
            split at h <;> cases h
            rename_i vs1 h2
            exact (outV_bk h1).trans (ih h2)

theorem valB_cell {tree : Bool} {L : Nat} {v : AV} (h : ∀ cs, v ≠ .agg cs) : valB tree L v = cellB tree L v := by
  cases v <;> first | rfl | exact absurd rfl (h _)
theorem valOk_cell {tree : Bool} {L : Nat} {v : AV} (h : cellOk tree L v = true) : valOk tree L v = true := by
  cases v <;> first | exact h | (simp [cellOk] at h)
theorem topOk_val {tree : Bool} {L : Nat} {v : AV} (h : valOk tree L v = true) : topOk tree L v = true := by
  cases v <;> first | exact h | (simp [valOk, cellOk] at h)

theorem valB_ok {tree : Bool} {L m : Nat} (hm : m ≤ L) (ht : tree = false) {vs : List AV} (h : vs.all (valB tree L) = true) : topOk tree m (tupOf vs) = true := by
  have hmono : vs.all (valB tree m) = true := by
    refine List.all_eq_true.2 fun v hv => ?_
    have h0 := List.all_eq_true.1 h v hv
    have cell : ∀ c, cellB tree L c = true → cellB tree m c = true := by
      intro c hc
      cases c <;> first | exact hc | (simp only [cellB, decide_eq_true_eq] at hc ⊢; omega)
    cases v with
    | agg cs => exact List.all_eq_true.2 fun c hc => cell c (List.all_eq_true.1 h0 c hc)
    | _ =>
      rw [valB_cell (by simp)] at h0 ⊢
      exact cell _ h0
  exact topB_ok ht hmono

theorem strong_topOk {L : Nat} {vs : List AV} (hv : vs.all (valB true L) = true) : topOk true 0 (strong (rebaseAll L 0 (tupOf vs))) = true := by
  have one : ∀ d, valB true L d = true → valOk true 0 (strong1 (rebase L 0 d)) = true := by
    intro d hdv
    obtain ⟨g, hg, he⟩ := strong_val hdv
    rw [he]
    cases d with
    | agg cs =>
      refine List.all_eq_true.2 fun c hc => ?_
      obtain ⟨d', hd', rfl⟩ := List.mem_map.1 hc
      rw [hg]
      exact strong_cellOk (List.all_eq_true.1 hdv d' hd')
    | _ =>
      rw [valB_cell (by simp)] at hdv
      have h2 := strong_cellOk hdv
      rw [← hg] at h2
      exact valOk_cell h2
  match vs, hv with
  | [], _ => rfl
  | [v], hv =>
    have hv' : valB true L v = true := by simpa using hv
    have e : strong (rebaseAll L 0 (tupOf [v])) = strong1 (rebase L 0 v) := by
      simp only [tupOf]
      cases v <;> first | rfl | (simp [valB, cellB] at hv')
    rw [e]
    exact topOk_val (one v hv')
  | v :: v' :: vs, hv =>
    have e : strong (rebaseAll L 0 (tupOf (v :: v' :: vs))) = .tup ((v :: v' :: vs).map fun v => strong1 (rebase L 0 v)) := by
      simp [tupOf, rebaseAll, strong, List.map_map]
    rw [e]
    refine List.all_eq_true.2 fun c hc => ?_
    obtain ⟨d, hd, rfl⟩ := List.mem_map.1 hc
    exact one d (List.all_eq_true.1 hv d hd)

theorem VR.bareTop {L : Nat} {vs : List AV} {u : Value} (h : VR w X (tupOf vs) u) (hv : vs.all (valB true L) = true) :
    VR w (X.bare L) (strong (rebaseAll L 0 (tupOf vs))) u := by
  match vs, h, hv with
  | [], h, _ =>
    obtain ⟨cv, rfl, hl, hcv⟩ := h.tup_inv
    have : cv = [] := by simpa using hl.symm
    subst this
    exact .tup [] [] rfl (fun i hi => absurd hi (Nat.not_lt_zero i))
  | [v], h, hv =>
    have hv' : valB true L v = true := by simpa using hv
    have e : strong (rebaseAll L 0 (tupOf [v])) = strong1 (rebase L 0 v) := by
      simp only [tupOf]
      cases v <;> first | rfl | (simp [valB, cellB] at hv')
    rw [e]
    exact (VR.bareVal (h : VR w X v u) hv').1
  | v :: v' :: vs, h, hv =>
    obtain ⟨cv, rfl, hl, hcv⟩ := (show VR w X (.tup (v :: v' :: vs)) u from h).tup_inv
    have e : strong (rebaseAll L 0 (tupOf (v :: v' :: vs))) = .tup ((v :: v' :: vs).map fun v => strong1 (rebase L 0 v)) := by
      simp [tupOf, rebaseAll, strong, List.map_map]
    rw [e]
    obtain ⟨k1, k2⟩ := VR.mapCells (w2 := w) (X2 := X.bare L) hl hcv (g := fun v => strong1 (rebase L 0 v)) (fun c u hm hcu => (VR.bareVal hcu (List.all_eq_true.1 hv c hm)).1)
    exact .tup _ cv k1 k2

end Go.Pi

/- Pi: a call's end is sound. -/
namespace Go.Pi
open Go
variable {P : Program} {T : Tab} {o : Oper} {a : Act} {w w' : World} {X X' Xc : Cx} {fr : Fr} {S S' : St} {v : AV}

theorem rebase_zero (v : AV) : rebaseAll 0 0 v = v := by
  have c : ∀ c : AV, rebaseCell 0 0 c = c := by intro c; cases c <;> simp [rebaseCell]
  have r : ∀ c : AV, rebase 0 0 c = c := by
    intro c'
    cases c' <;> first | (simp [rebase, rebaseCell]; done) | (simp only [rebase]; congr 1; exact map_id_of (fun a _ => c a))
  cases v <;> first | (simp only [rebaseAll]; congr 1; exact map_id_of (fun a _ => r a)) | (simp only [rebaseAll]; exact r _)

theorem rebaseTop_zero (L : Nat) (v : AV) : rebaseTop L 0 v = rebaseAll L 0 v := by
  unfold rebaseTop
  split
  · rename_i h; subst h; exact (rebase_zero v).symm
  · rfl

theorem outR_start (hS : SR w X S) : OutR w X S.length ⟨S, []⟩ := ⟨by simpa using hS, rfl, by simp, sr_low hS⟩

theorem take_roots {m : Nat} {A : St} {rs : List (Option Ob)} : A.take m ++ rs = (A ++ rs).take m ++ (A ++ rs).drop A.length ∨ A.length < m := by
  by_cases h : A.length < m
  · exact .inr h
  · left
    have h1 : A ++ rs = A ++ rs := rfl
    rw [List.take_append_of_le_length (by omega)]
    simp

theorem finish_shape {fi : FnI} {S0 : St} {res : AV} (hbk : fi.kind = 1 → BK S0.length S0 S) (hlen : S0.length ≤ S.length) (h : finish T fi S0.length fr S = some (res, S')) : Shape fi S0 res S' := by
  unfold finish at h
  split at h
  · cases h
  rename_i hc
  split at h
  · cases h
  rename_i vs o ho
  obtain ⟨hsh, hro⟩ := outs_shape ho (tree := fi.tree) (fun ob hob => absurd hob (by simp))
  obtain ⟨hob, hOl⟩ := outs_bk (m := S0.length) ho
  simp only at hOl hob
  split at h
  · rename_i hk
    cases h
    have ht : fi.tree = false := by
      cases htr : fi.tree with
      | false => rfl
      | true => exact absurd (.inl ⟨htr, by omega⟩) hc
    rw [ht] at hsh
    exact ⟨by rw [ht]; exact valB_ok hlen rfl hsh, by simp; omega, fun hk' => absurd hk hk', fun hk' => absurd hk hk', fun hk' => by omega⟩
  · rename_i hk
    split at h
    · rename_i ht
      have hm : S0.length = 0 := Classical.byContradiction fun hn => hc (.inr ⟨fun hk1 => hc (.inl ⟨ht, by omega⟩), by omega, hn⟩)
      have hk0 : fi.kind = 0 := Classical.byContradiction fun hn => hc (.inl ⟨ht, hn⟩)
      rw [ht] at hsh hro
      cases h
      rw [hm, rebaseTop_zero]
      refine ⟨by rw [ht, hm]; exact strong_topOk hsh, by omega, fun _ id ob _ hob => ?_, fun _ h => (by rw [ht] at h; cases h), fun hk' => by omega⟩
      unfold getOb at hob
      rw [List.getElem?_map] at hob
      cases hr : o.roots[id]? with
      | none => rw [hr] at hob; simp at hob
      | some ob0 =>
        rw [hr] at hob
        simp at hob
        subst hob
        exact (hro ob0 (List.mem_of_getElem? hr)).1
    · rename_i ht
      have ht' : fi.tree = false := by simpa using ht
      rw [ht'] at hsh hro
      cases h
      have htop := valB_ok (m := S.length) (Nat.le_refl _) rfl hsh
      have hbkk : fi.kind = 1 → BK S0.length S0 o.S := fun hk1 => (hbk hk1).trans hob
      have hnew : ∀ id ob, S0.length ≤ id → getOb (o.S.take S0.length ++ o.roots.map some) id = some ob → ob ∈ o.roots := by
        intro id ob hid hg
        rcases getOb_two hg with ⟨hlt, _⟩ | ⟨_, hg⟩
        · simp at hlt; omega
        · unfold getOb at hg
          rw [List.getElem?_map] at hg
          cases hr : o.roots[id - (o.S.take S0.length).length]? with
          | none => rw [hr] at hg; simp at hg
          | some ob0 => rw [hr] at hg; simp at hg; subst hg; exact List.mem_of_getElem? hr
      refine ⟨?_, ?_, fun _ id ob hid hg => (hro ob (hnew id ob hid hg)).1, fun _ _ id ob hid hg => (hro ob (hnew id ob hid hg)).2 rfl, fun hk1 => ⟨?_, fun id ob hid hg hkb => ?_⟩⟩
      · rw [ht', rebaseTop_eq htop]
        exact rebaseAll_ok htop
      · simp; omega
      · simp; omega
      · rcases getOb_two hg with ⟨hlt, hg⟩ | ⟨hge, _⟩
        · refine (hbkk hk1).2 id ob hid ?_ hkb
          unfold getOb at hg ⊢
          rw [List.getElem?_take, if_pos hid] at hg
          exact hg
        · simp at hge; omega

theorem finish_ok (hT : TabOk P T) {fi : FnI} {w0 : World} {X0 : Cx} {S0 : St} {res : AV} (hS0 : SR w0 X0 S0) (s0 : Stn w0 X0 w X) (hS : SR w X S) (hf : FrR w X fr a)
    (hbk : fi.kind = 1 → BK S0.length S0 S) (hlen : S0.length ≤ S.length) (h : finish T fi S0.length fr S = some (res, S')) :
    ∃ us X', (fi.results.mapM (readRes a)).run P w = .ok us w ∧ Stn w0 X0 w X' ∧ SR w X' S' ∧ VR w X' res (if h : us.toArray.size = 1 then us.toArray[0] else .tuple us.toArray) := by
  unfold finish at h
  split at h
  · cases h
  rename_i hc
  split at h
  · cases h
  rename_i vs o ho
  obtain ⟨X1, us, s1, hO, hl, hv, hrun⟩ := outs_ok hT (outR_start hS) hf ho
  have hvr := tupOf_ok hl hv
  obtain ⟨hsh, hro⟩ := outs_shape ho (tree := fi.tree) (fun ob hob => absurd hob (by simp))
  have hob := (outs_bk (m := S0.length) ho).1
  have hN0 := hS0.n
  have hN1 : X1.N = S.length + o.roots.length := by rw [hO.sr.n]; simp [hO.len]
  split at h
  · -- kind 2
    rename_i hk
    cases h
    have ht : fi.tree = false := by
      cases htr : fi.tree with
      | false => rfl
      | true => exact absurd (.inl ⟨htr, by omega⟩) hc
    rw [ht] at hsh
    exact ⟨us, X1, hrun, s0.trans s1, hO.sr, hvr⟩
  · rename_i hk
    split at h
    · -- trees
      rename_i ht
      have hk0 : fi.kind = 0 := Classical.byContradiction fun hn => hc (.inl ⟨ht, hn⟩)
      have hm : S0.length = 0 := Classical.byContradiction fun hn => hc (.inr ⟨by omega, by omega, hn⟩)
      rw [ht] at hsh hro
      cases h
      rw [hm, rebaseTop_zero]
      have k1 := VR.bareTop hvr hsh
      refine ⟨us, X1.bare S.length, hrun, ?_, ?_, k1⟩
      · have s2 := (s0.trans s1).toStp.trans (stp_bare (w := w) (X := X1) S.length)
        exact ⟨s2, by omega, fun id hid => by omega⟩
      · exact sr_bare (A := o.S) hO.sr hO.len hO.kd
    · -- rows that hold their own
      rename_i ht
      have ht' : fi.tree = false := by simpa using ht
      rw [ht'] at hsh hro
      cases h
      have htop := valB_ok (m := S.length) (Nat.le_refl _) rfl hsh
      have hbkk : fi.kind = 1 → BK S0.length S0 o.S := fun hk1 => (hbk hk1).trans hob
      have hm : fi.kind ≠ 1 → S0.length = 0 := fun hk1 => Classical.byContradiction fun hn => hc (.inr ⟨hk1, hk, hn⟩)
      have hbox : ∀ id ob, id < S0.length → getOb (o.S ++ o.roots.map some) id = some ob → ob.kd = .box → getOb S0 id = some ob := by
        intro id ob hid hg hkb
        by_cases hk1 : fi.kind = 1
        · rcases getOb_two hg with ⟨_, hg⟩ | ⟨hge, _⟩
          · exact (hbkk hk1).2 id ob hid hg hkb
          · have := hO.len; omega
        · have := hm hk1; omega
      have hroot : ∀ id ob, S.length ≤ id → getOb (o.S ++ o.roots.map some) id = some ob → ob ∈ o.roots := by
        intro id ob hid hg
        rcases getOb_two hg with ⟨hlt, _⟩ | ⟨_, hg⟩
        · have := hO.len; omega
        · unfold getOb at hg
          rw [List.getElem?_map] at hg
          cases hr : o.roots[id - o.S.length]? with
          | none => rw [hr] at hg; simp at hg
          | some ob0 => rw [hr] at hg; simp at hg; subst hg; exact List.mem_of_getElem? hr
      have e : o.S.take S0.length ++ o.roots.map some = (o.S ++ o.roots.map some).take S0.length ++ (o.S ++ o.roots.map some).drop S.length := by
        rcases take_roots (m := S0.length) (A := o.S) (rs := o.roots.map some) with h | h
        · rw [hO.len] at h; exact h
        · have := hO.len; omega
      have hsr := sr_renum (len := S0.length) (m := S.length) hS0 rfl hO.sr hlen (by simp [hO.len]) hbox (fun id hid => (s0.trans s1).φ id (by omega)) (fun id ob hid hg hb => by
        have := hO.kd ob (hroot id ob hid hg)
        rw [this] at hb; cases hb)
      rw [← e] at hsr
      have hren := VR.renum_new (tree := false) (len := S0.length) (m := S.length) hlen (by omega) hvr htop
      refine ⟨us, X1.renum S0.length S.length, hrun, ?_, hsr, hren⟩
      · have s2 := (s0.trans s1).toStp.trans (stp_renum (w := w) (X := X1) S0.length S.length)
        exact ⟨s2, by simp only [Cx.renum]; omega, fun id hid => by
          have : id < S0.length := by omega
          simp only [Cx.renum, if_pos this]
          exact (s0.trans s1).φ id hid⟩

end Go.Pi

/- Pi: calls are sound. -/
namespace Go.Pi
open Go
variable {P : Program} {T : Tab} {o : Oper} {a : Act} {w w' : World} {X X' Xc : Cx} {fr : Fr} {S S' : St} {v : AV} {mb : Nat} {C : Nat → List AV → St → Option (AV × St)}

theorem rawAll_ok : ∀ {vs : List AV} {ess : List (List Nat)} {vs' : List AV} {us : List Value} {X : Cx} {S S1 : St}, SR w X S → rawAll S ess vs = some (vs', S1) → vs.length = us.length →
    (∀ i, i < vs.length → VR w X (vs.getD i .undef) (us.getD i Go.undef)) →
    ∃ X1, Stn w X w X1 ∧ SR w X1 S1 ∧ vs'.length = vs.length ∧ (∀ i, i < vs'.length → VR w X1 (vs'.getD i .undef) (us.getD i Go.undef)) ∧ ∃ R, S1 = S ++ R := by
  intro vs
  induction vs with
  | nil => intro ess vs' us X S S1 hS h hl hv; cases ess <;> (simp only [rawAll, Option.some.injEq, Prod.mk.injEq] at h; obtain ⟨rfl, rfl⟩ := h; exact ⟨X, Stn.refl w X, hS, rfl, fun i hi => absurd hi (Nat.not_lt_zero i), [], by simp⟩)
  | cons v vs ih =>
    intro ess vs' us X S S1 hS h hl hv
    cases ess with
    | nil => simp [rawAll] at h
    | cons es ess =>
      cases us with
      | nil => simp at hl
      | cons u us =>
        simp only [rawAll] at h
        split at h
        · rename_i e
          split at h <;> cases h
          rename_i vs1 h2
          obtain ⟨s1, hS1⟩ := sr_addnil hS .arr (by simp) e 0
          obtain ⟨X2, s2, hS2, k1, k2, R, hR⟩ := ih hS1 h2 (by simpa using hl) (fun i hi => (by simpa using hv (i + 1) (by simpa using hi) : VR w X (vs.getD i .undef) (us.getD i Go.undef)).stn s1)
          refine ⟨X2, s1.trans s2, hS2, by simp [k1], fun i hi => ?_, [some ⟨.arr, e, []⟩] ++ R, by rw [hR]; simp⟩
          cases i with
          | zero =>
            have h0 : VR w X .nil u := by simpa using hv 0 (by simp)
            cases h0
            have hN := hS.n
            have : VR w (X.add X.N 0 none) (.sl S.length 0 0) (.slice none 0 0) := .slz _ 0 none (by simp [Cx.add, hN])
            simpa using this.stn s2
          | succ i => simpa using k2 i (by simpa using hi)
        · split at h <;> cases h
          rename_i vs1 h2
          obtain ⟨X2, s2, hS2, k1, k2, R, hR⟩ := ih hS h2 (by simpa using hl) (fun i hi => by simpa using hv (i + 1) (by simpa using hi))
          refine ⟨X2, s2, hS2, by simp [k1], fun i hi => ?_, R, hR⟩
          cases i with
          | zero => simpa using (show VR w X v u by simpa using hv 0 (by simp)).stn s2
          | succ i => simpa using k2 i (by simpa using hi)

/-- A call does what the machine does. -/
def COK (P : Program) (T : Tab) (C : Nat → List AV → St → Option (AV × St)) : Prop :=
  ∀ f args S v S', C f args S = some (v, S') → (∃ fi, T.fn f = some fi) ∧
    ∀ w X (us : List Value), SR w X S → args.length = us.length → (∀ i, i < args.length → VR w X (args.getD i .undef) (us.getD i Go.undef)) →
      Calls P f us.toArray w (fun e w' => ∃ v' X', e = .returned v' ∧ Stn w X w' X' ∧ SR w' X' S' ∧ VR w' X' v v')

theorem evCall_ok {F : Nat → List AV → St → Option (AV × St)} (hF : FOK P T F) : COK P T (evCall T mb F) := by
  intro f args S v S' h
  unfold evCall at h
  cases hfi : T.fn f with
  | none => rw [hfi] at h; cases h
  | some fi =>
    rw [hfi] at h
    refine ⟨⟨fi, rfl⟩, fun w X us hS hl hv => ?_⟩
    simp only at h
    split at h
    · -- given
      rename_i hk
      split at h
      · cases h
      · rename_i args' S1 hra
        split at h
        · cases h
        · rename_i res Sr hr
          cases h
          obtain ⟨X1, s1, hS1, k1, k2, R, hR⟩ := rawAll_ok hS hra hl hv
          obtain ⟨fi', hfi', hsh, hcall⟩ := hF f args' S1 res Sr hr
          rw [hfi] at hfi'
          injection hfi' with hfi'
          subst hfi'
          refine (hcall w X1 us hS1 (by omega) k2).mono ?_
          rintro e w' ⟨v', X', rfl, s, hSr, hvr⟩
          have hlen1 : S.length ≤ S1.length := by rw [hR]; simp
          have hN := hS.n
          have hN1 := hS1.n
          have hNr := hSr.n
          have hlr := hsh.len
          have hbk := hsh.box hk
          have hsr := sr_renum (len := S.length) (m := S1.length) hS rfl hSr hlen1 hlr (fun id ob hid hg hkb => by
            have h1 := hbk.2 id ob (by omega) hg hkb
            rw [hR] at h1
            rcases getOb_two h1 with ⟨_, h1⟩ | ⟨h2, _⟩
            · exact h1
            · omega) (fun id hid => (s1.trans s).φ id (by omega)) (fun id ob hid hg hkb => by
            have := hsh.kd (by omega) id ob hid hg
            rw [this] at hkb; cases hkb)
          have e1 : dropMid S.length S1.length Sr = Sr.take S.length ++ Sr.drop S1.length := by
            unfold dropMid
            split
            · rename_i he; rw [he, List.take_append_drop]
            · rfl
          refine ⟨v', X'.renum S.length S1.length, rfl, ?_, by rw [e1]; exact hsr, VR.renum_new hlen1 (by omega) hvr hsh.top⟩
          have s2 := (s1.trans s).toStp.trans (stp_renum (w := w') (X := X') S.length S1.length)
          exact ⟨s2, by simp only [Cx.renum]; omega, fun id hid => by
            have : id < S.length := by omega
            simp only [Cx.renum, if_pos this]
            exact (s1.trans s).φ id hid⟩
    · -- given, and kept
      split at h
      · split at h
        · cases h
        · rename_i args' S1 hra
          obtain ⟨X1, s1, hS1, k1, k2, R, hR⟩ := rawAll_ok hS hra hl hv
          obtain ⟨fi', hfi', hsh, hcall⟩ := hF f args' S1 v S' h
          refine (hcall w X1 us hS1 (by omega) k2).mono ?_
          rintro e w' ⟨v', X', rfl, s, hSr, hvr⟩
          exact ⟨v', X', rfl, s1.trans s, hSr, hvr⟩
      · cases h
    · -- lent
      rename_i hk1 hk2
      split at h
      · cases h
      · rename_i args' hla
        split at h
        · cases h
        · rename_i res Sr hr
          exact call_lent_ok hF hS hfi hk2 hl hv hla hr h

theorem evCall_bk {F : Nat → List AV → St → Option (AV × St)} (hF : FOK P T F) {f : Nat} {args : List AV} (hm : mb ≤ S.length) (h : evCall T mb F f args S = some (v, S')) : BK mb S S' := by
  unfold evCall at h
  cases hfi : T.fn f with
  | none => rw [hfi] at h; cases h
  | some fi =>
    rw [hfi] at h
    simp only at h
    have raw : ∀ {vs : List AV} {ess : List (List Nat)} {vs' : List AV} {S S1 : St}, rawAll S ess vs = some (vs', S1) → ∃ R, S1 = S ++ R := by
      intro vs
      induction vs with
      | nil => intro ess vs' S S1 h; cases ess <;> (simp only [rawAll, Option.some.injEq, Prod.mk.injEq] at h; obtain ⟨rfl, rfl⟩ := h; exact ⟨[], by simp⟩)
      | cons v vs ih =>
        intro ess vs' S S1 h
        cases ess with
        | nil => simp [rawAll] at h
        | cons es ess =>
          simp only [rawAll] at h
          split at h
          · split at h <;> cases h
            rename_i e _ vs1 h2
            obtain ⟨R, hR⟩ := ih h2
            exact ⟨[some ⟨.arr, e, []⟩] ++ R, by rw [hR]; simp⟩
          · split at h <;> cases h
            rename_i vs1 h2
            exact ih h2
    split at h
    · rename_i hk
      split at h
      · cases h
      · rename_i args' S1 hra
        split at h
        · cases h
        · rename_i res Sr hr
          cases h
          obtain ⟨R, hR⟩ := raw hra
          obtain ⟨fi', hfi', hsh, _⟩ := hF f args' S1 res Sr hr
          rw [hfi] at hfi'
          injection hfi' with hfi'
          subst hfi'
          have hbk := hsh.box hk
          have hlr := hsh.len
          have hlen1 : S.length ≤ S1.length := by rw [hR]; simp
          have e1 : dropMid S.length S1.length Sr = Sr.take S.length ++ Sr.drop S1.length := by
            unfold dropMid
            split
            · rename_i he; rw [he, List.take_append_drop]
            · rfl
          rw [e1]
          refine ⟨by simp; omega, fun id ob hid hg hkb => ?_⟩
          rcases getOb_take_drop hlen1 hlr hg with ⟨_, hg⟩ | ⟨h1, _⟩
          · have h1 := hbk.2 id ob (by omega) hg hkb
            rw [hR] at h1
            rcases getOb_two h1 with ⟨_, h1⟩ | ⟨h2, _⟩
            · exact h1
            · omega
          · omega
    · split at h
      · rename_i hm0
        split at h
        · cases h
        · rename_i args' S1 hra
          obtain ⟨R, hR⟩ := raw hra
          obtain ⟨fi', hfi', hsh, _⟩ := hF f args' S1 v S' h
          have := hsh.len
          exact ⟨by rw [hR] at this; simp at this; omega, fun id ob hid => by omega⟩
      · cases h
    · split at h
      · cases h
      · split at h
        · cases h
        · rename_i res Sr hr
          split at h
          · split at h
            · cases h; exact BK.kills _ _
            · split at h <;> cases h
              exact (BK.kills _ _).trans (BK.app (by rw [kill_length]; exact hm) _)
          · cases h; exact BK.app hm _

theorem op_call (hT : TabOk P T) (hC : COK P T C) (hS : SR w X S) (hf : FrR w X fr a) {c : Call} {x : Operand} (hop : o.op = .call c) (hcb : c.callee = .value x)
    (h : evOp T mb C o.op fr S = some (v, S')) : Good P o a w X v S' := by
  rw [hop] at h
  simp only [evOp, hcb] at h
  split at h
  · rename_i f caps vs hx hvs
    obtain ⟨hl, hv⟩ := evArgs_ok hf _ _ hvs
    obtain ⟨cv, hxe, hcl, hcv⟩ := (evO_ok hf hx).fn_inv
    obtain ⟨⟨fi, hfi⟩, hcall⟩ := hC f (vs ++ caps) S v S' h
    obtain ⟨fn, c0, hfn, hbody, _, _, _, hname⟩ := hT.fn f fi hfi
    have hargs : c.args.map a.eval = (c.args.toList.map a.eval).toArray := by apply Array.ext'; simp
    generalize c.args.toList.map a.eval = us at hl hv hargs
    have hname' : ¬ fn.name = "runtime.NumGoroutine" := by simpa using hname
    have hrun : (execOp a.eval o).run P w = .ok (.enter f (us ++ cv).toArray) w := by
      simp [execOp, hop, resolve, hcb, hxe, Deferred.ofValue, invoke, callFunc, program, Sem.run, hfn, hname', hbody, hargs]
    intro next Q hnext
    unfold Oper.wp
    rw [hrun, Oper.upon_enter]
    refine (hcall w X (us ++ cv) hS (by rw [List.length_append, List.length_append]; omega) (fun i hi => ?_)).mono ?_
    · rw [List.length_append] at hi
      simp only [List.getD_eq_getElem?_getD, List.getElem?_append]
      by_cases hlt : i < vs.length
      · have hlt' : i < us.length := by omega
        rw [if_pos hlt, if_pos hlt']
        simpa [List.getD_eq_getElem?_getD] using hv i hlt
      · have hlt' : ¬ i < us.length := by omega
        rw [if_neg hlt, if_neg hlt', ← hl]
        simpa [List.getD_eq_getElem?_getD] using hcv (i - vs.length) (by omega)
    · rintro e w' ⟨v', X', rfl, s, hS', hv'⟩
      exact hnext v' w' X' s hS' hv'
  · cases h

end Go.Pi

/- Pi: any operation, and lists of them. -/
namespace Go.Pi
open Go
variable {P : Program} {T : Tab} {o : Oper} {a : Act} {w w' : World} {X X' Xc : Cx} {fr fr' : Fr} {S S' : St} {v : AV} {mb : Nat} {C : Nat → List AV → St → Option (AV × St)}

theorem evOp_ok (hT : TabOk P T) (hC : COK P T C) (hS : SR w X S) (hf : FrR w X fr a) (h : evOp T mb C o.op fr S = some (v, S')) : Good P o a w X v S' := by
  cases hop : o.op with
  | move x => exact op_move hS hf (.inl hop) h
  | assign x => exact op_move hS hf (.inr hop) h
  | pick c x y => exact op_pick hS hf hop h
  | alloc t => exact op_alloc hT hS hop h
  | box t x => exact op_box hS hf hop h
  | build t ps => exact op_build hT hS hf hop h
  | buildSlice t n ps => exact op_buildSlice hT hS hf hop h
  | load t x => exact op_load hT hS hf hop h
  | store t x y => exact op_store hT hS hf hop h
  | nilCheck x => exact op_nilCheck hS hf hop h
  | binOp op t x y t' => exact op_binOp hT hS hf hop h
  | unOp op t x => exact op_unOp hS hf hop h
  | convert s d x => exact op_convert hT hS hf hop h
  | makeFunc f first caps => exact op_makeFunc hS hf hop h
  | makeSlice t l c => exact op_makeSlice hT hS hf hop h
  | slice t x lo hi mx => exact op_slice hT hS hf hop h
  | fieldAddr t x f => exact op_fieldAddr hT hS hf hop h
  | field t x f => exact op_field hT hS hf hop h
  | indexAddr t x ix => exact op_indexAddr hT hS hf hop h
  | index t x ix => exact op_index hT hS hf hop h
  | extract x i => exact op_extract hS hf hop h
  | call c =>
    cases hc : c.callee with
    | builtin b => exact op_builtin hT hS hf hop hc h
    | value x => exact op_call hT hC hS hf hop hc h
    | invoke r n => rw [hop] at h; simp [evOp, hc] at h
  | _ => rw [hop] at h; simp [evOp] at h

end Go.Pi

/- Pi: no operation writes a variable below the base. -/
namespace Go.Pi
open Go
variable {P : Program} {T : Tab} {o : Oper} {a : Act} {w w' : World} {X X' Xc : Cx} {fr fr' : Fr} {S S' : St} {v : AV} {mb : Nat} {C : Nat → List AV → St → Option (AV × St)}

theorem absorbL_bk {es : List Nat} {cs cs' : List AV} {S1 : St} (h : absorbL S es cs = some (cs', S1)) : BK mb S S1 :=
  ⟨by rw [(absorbL_len h).1]; exact Nat.le_refl _, fun _ _ _ hg _ => absorbL_mono h hg⟩

theorem evStore_bk {t : Nat} {x y : AV} (h : evStore T mb t x y S = some S') : BK mb S S' := by
  unfold evStore at h
  split at h
  · split at h
    · split at h
      · cases h
      · rename_i ob0 hob0
        split at h
        · split at h
          · cases h
          · split at h <;> cases h
            rename_i hc
            refine ⟨by simp, fun id' ob hid hg _ => ?_⟩
            rcases getOb_set hg with ⟨rfl, _⟩ | ⟨_, hg⟩
            · omega
            · exact hg
        · rename_i hkb
          split at h
          · cases h
          · rename_i cs S1 hab
            split at h
            · cases h
            · rename_i ob hob
              split at h
              · cases h
              · split at h <;> cases h
                refine ⟨by simp [(absorbL_len hab).1], fun id' ob' hid hg hk => ?_⟩
                rcases getOb_set hg with ⟨rfl, rfl⟩ | ⟨_, hg⟩
                · have h1 := absorbL_mono hab hob
                  rw [hob0] at h1
                  injection h1 with h1
                  subst h1
                  exact absurd hk hkb
                · exact absorbL_mono hab hg
    · cases h
  · cases h

theorem fillRow_bk {es : List Nat} {sz : Nat} : ∀ {ps : List (Nat × AV)} {els els' : List (List AV)} {S S1 : St}, fillRow es sz els S ps = some (els', S1) → BK mb S S1 := by
  intro ps
  induction ps with
  | nil => intro els els' S S1 h; simp only [fillRow, Option.some.injEq, Prod.mk.injEq] at h; obtain ⟨_, rfl⟩ := h; exact BK.refl _ _
  | cons p ps ih =>
    obtain ⟨i, v⟩ := p
    intro els els' S S1 h
    simp only [fillRow] at h
    split at h
    · split at h
      · cases h
      · rename_i cs S2 hab
        exact (absorbL_bk hab).trans (ih h)
    · cases h

theorem sourceOf_bk {sz : Nat} {x : AV} {news : List (List AV)} {S1 : St} (h : sourceOf S sz x = some (news, S1)) : BK mb S S1 := by
  unfold sourceOf at h
  split at h
  · split at h
    · cases h
    · split at h
      · cases h; exact BK.strike _ _
      · split at h <;> cases h; exact BK.refl _ _
  · split at h <;> cases h; exact BK.refl _ _

theorem evAppend_bk {t : Nat} {s x : AV} (hm : mb ≤ S.length) (h : evAppend T t s x S = some (v, S')) : BK mb S S' := by
  unfold evAppend at h
  split at h
  · cases h
  · split at h
    · cases h
    · rename_i news S1 hs
      have h1 : BK mb S S1 := sourceOf_bk hs
      have h2 := h1.1
      split at h
      · split at h <;> cases h
        exact h1.trans (BK.app (by omega) _)
      · split at h
        · cases h
        · split at h <;> cases h
          exact (h1.trans (BK.strike _ _)).trans (BK.app (by simp; omega) _)
      · cases h

theorem evBuiltin_bk {b : Builtin} {ts : List Nat} {vs : List AV} (hm : mb ≤ S.length) (h : evBuiltin T b ts vs S = some (v, S')) : BK mb S S' := by
  unfold evBuiltin at h
  split at h
  · split at h
    · exact evAppend_bk hm h
    · cases h
  · split at h <;> cases h; exact BK.refl _ _
  · split at h <;> cases h; exact BK.refl _ _
  · split at h <;> cases h; exact BK.refl _ _
  · cases h

theorem evOp_bk (hC : ∀ f args S v S', mb ≤ S.length → C f args S = some (v, S') → BK mb S S') (hm : mb ≤ S.length) {op : Op} (h : evOp T mb C op fr S = some (v, S')) : BK mb S S' := by
  cases op with
  | store t x y =>
    simp only [evOp] at h
    split at h
    · split at h <;> cases h
      rename_i hst
      exact evStore_bk hst
    · cases h
  | alloc t => simp only [evOp] at h; split at h <;> cases h; exact BK.app hm _
  | box t x =>
    simp only [evOp] at h
    split at h
    · split at h <;> cases h; exact BK.app hm _
    · cases h
  | buildSlice t n ps =>
    simp only [evOp] at h
    split at h
    · split at h
      · split at h <;> cases h
        rename_i hfr
        have h1 := fillRow_bk (mb := mb) hfr
        have h2 := h1.1
        exact h1.trans (BK.app (by omega) _)
      · cases h
    · cases h
  | makeSlice t l c =>
    simp only [evOp] at h
    split at h
    · split at h <;> cases h; exact BK.app hm _
    · cases h
  | call c =>
    simp only [evOp] at h
    split at h
    · split at h
      · exact evBuiltin_bk hm h
      · cases h
    · split at h
      · exact hC _ _ _ _ _ hm h
      · cases h
    · cases h
  | move x => simp only [evOp] at h; split at h <;> cases h; exact BK.refl _ _
  | assign x => simp only [evOp] at h; split at h <;> cases h; exact BK.refl _ _
  | pick c x y =>
    simp only [evOp] at h
    split at h
    · split at h <;> cases h; exact BK.refl _ _
    · split at h <;> cases h; exact BK.refl _ _
    · cases h
  | build t ps =>
    simp only [evOp] at h
    split at h
    · split at h
      · split at h <;> cases h; exact BK.refl _ _
      · cases h
    · cases h
  | load t x =>
    simp only [evOp] at h
    split at h
    · split at h <;> cases h; exact BK.refl _ _
    · cases h
  | nilCheck x => simp only [evOp] at h; split at h <;> cases h <;> exact BK.refl _ _
  | binOp op t x y t' =>
    simp only [evOp] at h
    split at h
    · split at h <;> cases h; exact BK.refl _ _
    · cases h
  | unOp op t x =>
    simp only [evOp] at h
    split at h
    · split at h <;> cases h; exact BK.refl _ _
    · cases h
  | convert s d x =>
    simp only [evOp] at h
    split at h
    · split at h <;> cases h; exact BK.refl _ _
    · cases h
  | makeFunc f first caps =>
    cases f with
    | func f =>
      simp only [evOp] at h
      split at h
      · split at h <;> cases h; exact BK.refl _ _
      · cases h
    | _ => simp [evOp] at h
  | slice t x lo hi mx =>
    cases mx with
    | some y => simp [evOp] at h
    | none =>
      simp only [evOp] at h
      split at h
      · split at h
        · split at h <;> cases h; exact BK.refl _ _
        · cases h
      · split at h <;> cases h; exact BK.refl _ _
      · split at h
        · split at h <;> cases h; exact BK.refl _ _
        · cases h
      · split at h
        · split at h <;> cases h; exact BK.refl _ _
        · cases h
      · cases h
  | fieldAddr t x f =>
    simp only [evOp] at h
    split at h
    · split at h
      · split at h <;> cases h; exact BK.refl _ _
      · split at h <;> cases h; exact BK.refl _ _
      · cases h
    · cases h
  | field t x f =>
    simp only [evOp] at h
    split at h
    · split at h
      · split at h
        · split at h
          · cases h; exact BK.refl _ _
          · split at h <;> cases h; exact BK.refl _ _
        · cases h
      · cases h
    · cases h
  | indexAddr t x ix =>
    simp only [evOp] at h
    split at h
    · split at h
      · split at h <;> cases h; exact BK.refl _ _
      · cases h
    · split at h <;> cases h; exact BK.refl _ _
    · cases h
  | index t x ix =>
    simp only [evOp] at h
    split at h
    · split at h
      · split at h <;> cases h; exact BK.refl _ _
      · cases h
    · cases h
  | extract x i =>
    simp only [evOp] at h
    split at h
    · split at h <;> cases h; exact BK.refl _ _
    · cases h
  | _ => simp [evOp] at h

theorem evOps_bk (hC : ∀ f args S v S', mb ≤ S.length → C f args S = some (v, S') → BK mb S S') : ∀ (l : List PO) (fr : Fr) (S : St), mb ≤ S.length → evOps T mb C l fr S = some (fr', S') → BK mb S S' := by
  intro l
  induction l with
  | nil => intro fr S hm h; simp only [evOps, Option.some.injEq, Prod.mk.injEq] at h; obtain ⟨_, rfl⟩ := h; exact BK.refl _ _
  | cons o l ih =>
    intro fr S hm h
    simp only [evOps] at h
    split at h
    · split at h
      · cases h
      · rename_i v S1 h1
        have k1 := evOp_bk hC hm h1
        exact k1.trans (ih _ _ (Nat.le_trans hm k1.1) h)
    · exact ih _ _ hm h

end Go.Pi

/- Pi: lists of operations, in the order in which they stand. -/
namespace Go.Pi
open Go
variable {P : Program} {T : Tab} {o : Oper} {a : Act} {w w' : World} {X X' Xc : Cx} {fr fr' : Fr} {S S' : St} {v : AV} {mb : Nat} {C : Nat → List AV → St → Option (AV × St)}

theorem VR.bool_inv' {av : AV} {b : Bool} (h : VR w X av (.bool b)) : av = .bool b := by
  cases h with
  | bool => rfl
  | ts q hq sz els v h => cases h
  | tp q hq sz els i j v h => cases h

theorem want_ok (hf : FrR w X fr a) {ops : Array Oper} {o : Oper} {g : Option (Nat × Bool)} (hg : slimGuard ops.toList o = some g) : want fr g = Region.wanted o (yielded ops a.tmps) := by
  unfold slimGuard at hg
  unfold Region.wanted
  split at hg
  · rename_i he
    cases hg
    rw [he]; rfl
  · rename_i j b he
    rw [he]
    split at hg
    · cases hg
    · rename_i oj hoj
      split at hg
      · cases hg
      · rename_i d hd
        cases hg
        rw [Array.getElem?_toList] at hoj
        simp only [yielded, hoj, Option.bind_some, hd, want]
        have h0 := hf.val d
        have hl := hf.len
        rw [List.getD_eq_getElem?_getD, Array.getD_eq_getD_getElem?] at h0
        by_cases hlt : d < fr.length
        · have hlt' : d < a.tmps.size := by rw [← hl]; exact hlt
          rw [List.getElem?_eq_getElem hlt, Array.getElem?_eq_getElem hlt'] at h0 ⊢
          simp only [Option.getD_some] at h0
          generalize fr[d] = av at h0 ⊢
          generalize a.tmps[d] = u at h0 ⊢
          cases u with
          | bool c =>
            have := h0.bool_inv'
            subst this
            cases c <;> cases b <;> rfl
          | _ =>
            cases h0 <;> first | rfl | (rename_i hr; cases hr; done) | (rename_i hr; cases hr; rfl)
        · rw [List.getElem?_eq_none (Nat.le_of_not_lt hlt), Array.getElem?_eq_none (by rw [← hl]; exact Nat.le_of_not_lt hlt)]
          rfl

theorem evOps_ok (hT : TabOk P T) (hC : COK P T C) {ops : Array Oper} {Q : Exit → Act → World → Prop} {w0 : World} {X0 : Cx} : ∀ (l pre : List Oper) (sl : List PO) (fr : Fr) (S : St) (X : Cx) (a : Act) (w : World), ops.toList = pre ++ l →
    slimOps ops.toList l = some sl → evOps T mb C sl fr S = some (fr', S') → SR w X S → FrR w X fr a → Stn w0 X0 w X →
    (∀ a' w' X', Stn w0 X0 w' X' → SR w' X' S' → FrR w' X' fr' a' → Q .normal a' w') → wpOps P ops Q (List.range' pre.length l.length) a w := by
  intro l
  induction l with
  | nil =>
    intro pre sl fr S X a w _ hsl h hS hf s hQ
    simp only [slimOps, Option.some.injEq] at hsl
    subst hsl
    simp only [evOps, Option.some.injEq, Prod.mk.injEq] at h
    obtain ⟨rfl, rfl⟩ := h
    simp only [List.length_nil, List.range'_zero, wpOps]
    exact hQ a w X s hS hf
  | cons o l ih =>
    intro pre sl fr S X a w he hsl h hS hf s hQ
    have hget : ops[pre.length]? = some o := by
      rw [← Array.getElem?_toList, he]
      simp
    simp only [slimOps] at hsl
    split at hsl
    · cases hsl
    rename_i g hg
    split at hsl <;> cases hsl
    rename_i sl hsl
    simp only [List.length_cons, List.range'_succ, wpOps, hget]
    have hnext : ops.toList = (pre ++ [o]) ++ l := by rw [he]; simp
    have hlen : (pre ++ [o]).length = pre.length + 1 := by simp
    simp only [evOps] at h
    rw [want_ok hf hg] at h
    split at h
    · rename_i hw
      rw [if_pos hw]
      split at h
      · cases h
      · rename_i v S1 h1
        left
        refine evOp_ok hT hC hS hf h1 _ _ (fun v' w' X' s1 hS1 hv1 => ?_)
        have := ih (pre ++ [o]) sl _ S1 X' (a.put o.dst v') w' hnext hsl h hS1 (hf.put s1 o.dst hv1) (s.trans s1) hQ
        rw [hlen] at this
        exact this
    · rename_i hw
      rw [if_neg hw]
      have := ih (pre ++ [o]) sl _ S X (a.put o.dst undef) w hnext hsl h hS (hf.put (Stn.refl w X) o.dst (VR.undef w X)) s hQ
      rw [hlen] at this
      exact this

end Go.Pi

/- Pi: calls whose results are only looked at. -/
namespace Go.Pi
open Go
variable {P : Program} {T : Tab} {o : Oper} {a : Act} {w w' : World} {X X' Xc : Cx} {fr fr' : Fr} {S S' : St} {v : AV} {mb : Nat} {C : Nat → List AV → St → Option (AV × St)}

/-- The labels when all rows have gone. -/
def Cx.blank (X : Cx) : Cx := { X with N := 0, root := fun _ => none }

theorem stp_blank : Stp w X w X.blank := ⟨rfl, rfl, rfl, Nat.le_refl _, fun _ _ _ => ⟨rfl, fun k => k.1 rfl⟩, fun _ _ _ => rfl, rfl⟩
theorem sr_blank (hS : SR w X S) : SR w X.blank [] := ⟨rfl, fun _ hb => absurd rfl hb, hS.pro, fun id ob h => by simp [getOb] at h⟩

theorem ownOnlyLL_of {l : List (List AV)} (h : ∀ r ∈ l, ownOnlyL r = true) : ownOnlyLL l = true := by
  induction l with
  | nil => rfl
  | cons a l ih => simp only [ownOnlyLL, Bool.and_eq_true]; exact ⟨h a (by simp), ih fun r hr => h r (by simp [hr])⟩
theorem ownOnlyLL_window {l : List (List AV)} {lo n : Nat} (h : ownOnlyLL l = true) : ownOnlyLL (window l lo n) = true :=
  ownOnlyLL_of fun r hr => ownOnlyLL_rows h r (window_mem hr)

theorem valOk_ne {tree : Bool} {m : Nat} {v : AV} (h : ∀ cs, v ≠ .agg cs) : valOk tree m v = cellOk tree m v := by
  cases v <;> first | rfl | exact absurd rfl (h _)
theorem topOk_ne {tree : Bool} {m : Nat} {v : AV} (h : ∀ cs, v ≠ .tup cs) : topOk tree m v = valOk tree m v := by
  cases v <;> first | rfl | exact absurd rfl (h _)

theorem fzCell_ok {sz : Nat} (hnew : ∀ b k, X.root b = some k → ¬ b < sz) (hSr : SR w X S) (hown : ∀ id ob, getOb S id = some ob → ownOnlyLL ob.els = true) {e : Nat} {c c' : AV} {u : Value}
    (hc : cellOk false 0 c = true) (h : lend1 S e c = some c') (hv : VR w X c u) (hok : ∀ b, b < w.heap.size → ¬ b < sz → ¬ X.pro b → X'.ok .imm b) : VR w X' c' u ∧ cellOk true 0 c' = true := by
  cases c with
  | int k n => simp only [lend1, Option.some.injEq] at h; subst h; cases hv; exact ⟨.int _ _, rfl⟩
  | bool b => simp only [lend1, Option.some.injEq] at h; subst h; cases hv; exact ⟨.bool _, rfl⟩
  | str s => simp only [lend1, Option.some.injEq] at h; subst h; cases hv; exact ⟨.str _, rfl⟩
  | nilp => simp only [lend1, Option.some.injEq] at h; subst h; cases hv; exact ⟨.nilp, rfl⟩
  | sl id lo n =>
    simp only [lend1] at h
    split at h
    · cases h
    · rename_i ob hrow
      split at h <;> cases h
      rename_i hln
      obtain ⟨rfl, hln⟩ := hln
      obtain ⟨hob, _⟩ := isRow_ob hrow
      have how : ownOnlyLL (window ob.els lo n) = true := ownOnlyLL_window (hown _ _ hob)
      have := lend_row (A := fun b => ¬ b < sz) hSr hrow hln hv (fun b hb => hnew b id hb) (.inr how)
      refine ⟨.ts .imm (by simp) _ _ _ (this.keep (Nat.le_refl _) (fun b hb hokb => ⟨rfl, ?_⟩)), rfl⟩
      have hnp : ¬ (X.pro b ∨ (b < w.heap.size ∧ ¬ ¬ b < sz)) := hokb.2
      exact hok b hb (fun hlt => hnp (.inr ⟨hb, fun k => k hlt⟩)) (fun hp => hnp (.inl hp))
  | _ => simp [cellOk] at hc

theorem fzL_ok {sz : Nat} (hnew : ∀ b k, X.root b = some k → ¬ b < sz) (hSr : SR w X S) (hown : ∀ id ob, getOb S id = some ob → ownOnlyLL ob.els = true)
    (hok : ∀ b, b < w.heap.size → ¬ b < sz → ¬ X.pro b → X'.ok .imm b) : ∀ {cs : List AV} {es : List Nat} {cs' : List AV} {us : List Value}, cs.all (cellOk false 0) = true → lendL S es cs = some cs' → cs.length = us.length →
    (∀ i, i < cs.length → VR w X (cs.getD i .undef) (us.getD i Go.undef)) → cs'.length = us.length ∧ ∀ i, i < cs'.length → VR w X' (cs'.getD i .undef) (us.getD i Go.undef) := by
  intro cs
  induction cs with
  | nil => intro es cs' us _ h hl hv; cases es <;> (simp only [lendL, Option.some.injEq] at h; subst h; exact ⟨hl, fun i hi => absurd hi (Nat.not_lt_zero i)⟩)
  | cons c cs ih =>
    intro es cs' us hc h hl hv
    cases es with
    | nil => simp [lendL] at h
    | cons e es =>
      cases us with
      | nil => simp at hl
      | cons u us =>
        simp only [lendL] at h
        split at h
        · cases h
        · rename_i c1 h1
          split at h <;> cases h
          rename_i cs1 h2
          simp only [List.all_cons, Bool.and_eq_true] at hc
          have k0 := (fzCell_ok hnew hSr hown hc.1 h1 (by simpa using hv 0 (by simp)) hok).1
          obtain ⟨k1, k2⟩ := ih hc.2 h2 (by simpa using hl) (fun i hi => by simpa using hv (i + 1) (by simpa using hi))
          refine ⟨by simp [k1], fun i hi => ?_⟩
          cases i with
          | zero => simpa using k0
          | succ i => simpa using k2 i (by simpa using hi)

theorem fz_ok {sz : Nat} (hnew : ∀ b k, X.root b = some k → ¬ b < sz) (hSr : SR w X S) (hown : ∀ id ob, getOb S id = some ob → ownOnlyLL ob.els = true)
    (hok : ∀ b, b < w.heap.size → ¬ b < sz → ¬ X.pro b → X'.ok .imm b) {es : List Nat} {c c' : AV} {u : Value} (hc : valOk false 0 c = true) (h : lend S es c = some c') (hv : VR w X c u) : VR w X' c' u := by
  cases c with
  | agg cs =>
    simp only [lend] at h
    split at h <;> cases h
    rename_i cs' h1
    obtain ⟨cv, rfl, hl, hcv⟩ := hv.agg_inv
    obtain ⟨k1, k2⟩ := fzL_ok hnew hSr hown hok hc h1 hl hcv
    exact .agg cs' cv k1 k2
  | fn f caps => simp [valOk, cellOk] at hc
  | ptr id i j => simp [valOk, cellOk] at hc
  | _ =>
    rw [valOk_ne (by simp)] at hc
    simp only [lend] at h
    split at h
    · exact (fzCell_ok hnew hSr hown hc h hv hok).1
    · cases h

theorem fzAll_ok {sz : Nat} (hnew : ∀ b k, X.root b = some k → ¬ b < sz) (hSr : SR w X S) (hown : ∀ id ob, getOb S id = some ob → ownOnlyLL ob.els = true)
    (hok : ∀ b, b < w.heap.size → ¬ b < sz → ¬ X.pro b → X'.ok .imm b) : ∀ {cs : List AV} {ess : List (List Nat)} {cs' : List AV} {us : List Value}, cs.all (valOk false 0) = true → lendAll S ess cs = some cs' → cs.length = us.length →
    (∀ i, i < cs.length → VR w X (cs.getD i .undef) (us.getD i Go.undef)) → cs'.length = us.length ∧ ∀ i, i < cs'.length → VR w X' (cs'.getD i .undef) (us.getD i Go.undef) := by
  intro cs
  induction cs with
  | nil => intro ess cs' us _ h hl hv; cases ess <;> (simp only [lendAll, Option.some.injEq] at h; subst h; exact ⟨hl, fun i hi => absurd hi (Nat.not_lt_zero i)⟩)
  | cons c cs ih =>
    intro ess cs' us hc h hl hv
    cases ess with
    | nil => simp [lendAll] at h
    | cons es ess =>
      cases us with
      | nil => simp at hl
      | cons u us =>
        simp only [lendAll] at h
        split at h
        · cases h
        · rename_i c1 h1
          split at h <;> cases h
          rename_i cs1 h2
          simp only [List.all_cons, Bool.and_eq_true] at hc
          have k0 := fz_ok hnew hSr hown hok hc.1 h1 (by simpa using hv 0 (by simp))
          obtain ⟨k1, k2⟩ := ih hc.2 h2 (by simpa using hl) (fun i hi => by simpa using hv (i + 1) (by simpa using hi))
          refine ⟨by simp [k1], fun i hi => ?_⟩
          cases i with
          | zero => simpa using k0
          | succ i => simpa using k2 i (by simpa using hi)

theorem freeze_ok {sz : Nat} (hnew : ∀ b k, X.root b = some k → ¬ b < sz) (hSr : SR w X S) (hown : ∀ id ob, getOb S id = some ob → ownOnlyLL ob.els = true)
    (hok : ∀ b, b < w.heap.size → ¬ b < sz → ¬ X.pro b → X'.ok .imm b) {ess : List (List Nat)} {c c' : AV} {u : Value} (hc : topOk false 0 c = true) (h : freeze S ess c = some c') (hv : VR w X c u) : VR w X' c' u := by
  cases c with
  | tup cs =>
    simp only [freeze] at h
    split at h <;> cases h
    rename_i cs' h1
    obtain ⟨cv, rfl, hl, hcv⟩ := hv.tup_inv
    obtain ⟨k1, k2⟩ := fzAll_ok hnew hSr hown hok hc h1 hl hcv
    exact .tup cs' cv k1 k2
  | _ =>
    rw [topOk_ne (by simp)] at hc
    simp only [freeze] at h
    split at h
    · exact fz_ok hnew hSr hown hok hc h hv
    · cases h

theorem evCallFz_ok {F : Nat → List AV → St → Option (AV × St)} (hF : FOK P T F) : COK P T (evCallFz T F) := by
  intro f args S v S' h
  unfold evCallFz at h
  cases hfi : T.fn f with
  | none => rw [hfi] at h; cases h
  | some fi =>
    rw [hfi] at h
    refine ⟨⟨fi, rfl⟩, fun w X us hS hl hv => ?_⟩
    simp only at h
    split at h
    · cases h
    rename_i hk
    split at h
    · cases h
    rename_i args' hla
    split at h
    · cases h
    rename_i res Sr hr
    split at h <;> cases h
    rename_i hfz
    obtain ⟨fi', hfi', hsh, hcall⟩ := hF f args' [] res Sr hr
    rw [hfi] at hfi'
    injection hfi' with hfi'
    subst hfi'
    have ht : fi.tree = false := by
      cases htr : fi.tree with
      | false => rfl
      | true => exact absurd (.inr (.inr htr)) hk
    have hk2 : fi.kind ≠ 2 := fun h2 => hk (.inr (.inl h2))
    obtain ⟨k1, k2⟩ := lendAll_ok (A := fun _ => True) hS hla hl hv (fun v _ => ⟨fun _ _ => trivial, fun _ _ _ _ => trivial, .inl fun _ _ => trivial⟩)
    refine (hcall w _ us (sr_inner hS _) (by omega) (fun i hi => k2 i (by omega))).mono ?_
    rintro e w' ⟨v', Xc, rfl, s, hSc, hvr⟩
    have s2 : Stp w (X.inner w.heap.size fun _ => True) w' Xc.blank := s.toStp.trans stp_blank
    have hsr : SR w' (X.outer Xc.blank w.heap.size 0 []) S := by
      have := sr_outer (K := []) hS (sr_blank hSc) s2 (fun id ob h => by simp [getOb] at h) (.inl fun id ob h => by simp [getOb] at h)
      simpa [kill] using this
    refine ⟨v', X.outer Xc.blank w.heap.size 0 [], rfl, stn_outer s2, hsr, ?_⟩
    have htop : topOk false 0 res = true := by have := hsh.top; rw [ht] at this; exact this
    refine freeze_ok (fun b k hb => inner_new s.toStp hb) hSc (fun id ob h => hsh.own hk2 ht id ob (Nat.zero_le _) h) (fun b hb hnb hnp => ⟨?_, fun hp => hnp ?_⟩) htop hfz hvr
    · rw [outer_root_new hnb]; rfl
    · rw [s.pro]; exact .inl hp

theorem evCallFz_same {F : Nat → List AV → St → Option (AV × St)} {f : Nat} {args : List AV} (h : evCallFz T F f args S = some (v, S')) : S' = S := by
  unfold evCallFz at h
  split at h
  · cases h
  · split at h
    · cases h
    · split at h
      · cases h
      · split at h
        · cases h
        · split at h <;> cases h
          rfl

end Go.Pi

/- Pi: code is sound. -/
namespace Go.Pi
open Go
variable {P : Program} {T : Tab} {o : Oper} {a : Act} {w w' : World} {X X' Xc : Cx} {fr fr' : Fr} {S S' : St} {v : AV} {mb : Nat} {C : Nat → List AV → St → Option (AV × St)}

/-- Regions whose order is drawn do what they do in the order in which they stand. -/
def DrawSound (P : Program) (T : Tab) : Prop :=
  ∀ (mb : Nat) (F : Nat → List AV → St → Option (AV × St)) (ops : Array Oper) (sl : List PO) (fr : Fr) (S : St) (fr' : Fr) (S' : St), FOK P T F → drawOk ops.toList = true → slimOps ops.toList ops.toList = some sl →
    evOps T mb (evCallFz T F) sl fr S = some (fr', S') →
    ∀ (w : World) (X : Cx) (a : Act) (Q : Exit → Act → World → Prop), SR w X S → FrR w X fr a → (∀ a' w' X', Stn w X w' X' → SR w' X' S' → FrR w' X' fr' a' → Q .normal a' w') →
      ∀ t, wpOps P ops Q (Region.schedule (P.follows .mixedOrders) ops t) a w

def exOf : Ex → Exit
  | .normal => .normal
  | .exit id => .exit id
  | .ret => .ret

/-- What code leaves behind. -/
def Left (w : World) (X : Cx) (ex : Ex) (fr' : Fr) (S' : St) (e : Exit) (a' : Act) (w' : World) : Prop :=
  e = exOf ex ∧ ∃ X', Stn w X w' X' ∧ SR w' X' S' ∧ FrR w' X' fr' a'

theorem Left.from {w0 : World} {X0 : Cx} {ex : Ex} {e : Exit} {a' : Act} (s : Stn w0 X0 w X) (h : Left w X ex fr' S' e a' w') : Left w0 X0 ex fr' S' e a' w' := by
  obtain ⟨he, X', s', h⟩ := h
  exact ⟨he, X', s.trans s', h⟩

/-- Code is sound, with so much fuel. -/
def SC (P : Program) (T : Tab) (F : Nat → List AV → St → Option (AV × St)) (k : Nat) : Prop :=
  ∀ mb c fr S ex fr' S', evC T F k mb (slim c) fr S = some (ex, fr', S') → mb ≤ S.length → BK mb S S' ∧
    ∀ w X a, SR w X S → FrR w X fr a → c.wp P (Left w X ex fr' S') a w

theorem norm_some {r : Option (Fr × St)} {ex : Ex} (h : norm r = some (ex, fr', S')) : ex = .normal ∧ r = some (fr', S') := by
  unfold norm at h
  split at h <;> cases h
  exact ⟨rfl, rfl⟩

theorem fok_of_sc (hT : TabOk P T) {k : Nat} (h : SC P T (evF T k) k) : FOK P T (evF T (k + 1)) := by
  intro f args S0 res S' he
  simp only [evF] at he
  cases hfi : T.fn f with
  | none => rw [hfi] at he; cases he
  | some fi =>
    rw [hfi] at he
    simp only at he
    split at he
    · rename_i hle
      obtain ⟨fn, c, hfn, hbody, hslim, hnt, hres, _⟩ := hT.fn f fi hfi
      obtain ⟨ex, fr, S, hev, hfin, hex⟩ : ∃ ex fr S, evC T (evF T k) k (baseOf fi S0) fi.body (args0 fi args) S0 = some (ex, fr, S) ∧ finish T fi S0.length fr S = some (res, S') ∧ (ex = .normal ∨ ex = .ret) := by
        unfold close at he
        split at he
        · rename_i h1; exact ⟨_, _, _, h1, he, .inl rfl⟩
        · rename_i h1; exact ⟨_, _, _, h1, he, .inr rfl⟩
        · cases he
      have hb : baseOf fi S0 ≤ S0.length := by unfold baseOf; split <;> omega
      rw [← hslim] at hev
      obtain ⟨hbk, hwp⟩ := h _ _ _ _ _ _ _ hev hb
      have hbk1 : fi.kind = 1 → BK S0.length S0 S := fun hk => by
        unfold baseOf at hbk
        rw [if_pos hk] at hbk
        exact hbk
      refine ⟨fi, rfl, finish_shape hbk1 hbk.1 hfin, fun w X us hS hl hv => ?_⟩
      refine calls_of_wp hfn hbody ?_
      have hf : FrR w X (args0 fi args) { tmps := us.toArray ++ Array.replicate (fn.ntmps - us.toArray.size) undef, defers := [] } := by
        unfold args0
        refine ⟨by simp [hnt, hl], fun i => ?_, rfl⟩
        rw [hnt]
        by_cases hi : i < args.length
        · have hi' : i < us.length := by omega
          have := hv i hi
          simpa [List.getD_eq_getElem?_getD, Array.getD_eq_getD_getElem?, List.getElem?_append, Array.getElem?_append, hi, hi'] using this
        · have hi' : ¬ i < us.length := by omega
          have e1 : (args ++ List.replicate (fi.ntmps - args.length) AV.undef).getD i .undef = .undef := by
            simp only [List.getD_eq_getElem?_getD, List.getElem?_append, if_neg hi, List.getElem?_replicate]
            split <;> rfl
          have e2 : (us.toArray ++ Array.replicate (fi.ntmps - us.toArray.size) undef).getD i undef = undef := by
            simp only [Array.getD_eq_getD_getElem?, Array.getElem?_append, List.size_toArray, if_neg hi', Array.getElem?_replicate]
            split <;> rfl
          rw [e1, e2]
          exact VR.undef w X
      refine wp_mono (hwp w X _ hS hf) ?_
      rintro e a' w' ⟨rfl, X', s, hS', hf'⟩
      obtain ⟨us', X2, hrun, s2, hS2, hv2⟩ := finish_ok hT hS s hS' hf' hbk1 hbk.1 hfin
      rw [← hres] at hrun
      have hr := results_run hrun
      rcases hex with rfl | rfl
      · exact ⟨hf'.defers, _, hr, _, X2, rfl, s2, hS2, hv2⟩
      · exact ⟨hf'.defers, _, hr, _, X2, rfl, s2, hS2, hv2⟩
    · cases he

/-- A loop, round by round. -/
theorem loop_key {F : Nat → List AV → St → Option (AV × St)} {c : Code} {ex : Ex} {w0 : World} {X0 : Cx} : ∀ (k : Nat), (∀ j, j < k → SC P T F j) → ∀ (fr : Fr) (S : St), evC T F k mb (.loop (slim c)) fr S = some (ex, fr', S') → mb ≤ S.length →
    BK mb S S' ∧ ∀ (X : Cx) (a : Act) (w : World), (SR w X S → FrR w X fr a → Stn w0 X0 w X → ∀ (b : Frame) (kk : List Item) (cs : List Frame),
      ∃ e a' w', Left w0 X0 ex fr' S' e a' w' ∧ Arrives P (lone (b.at a (.code c :: .inLoop c :: kk)) cs w) b kk cs e a' w') := by
  intro k
  induction k with
  | zero => intro _ fr S h; simp [evC] at h
  | succ k ih =>
    intro hsc fr S h hm
    simp only [evC] at h
    have hk := hsc k (Nat.lt_succ_self k)
    split at h
    · rename_i fr1 S1 h1
      obtain ⟨hbk1, hwp⟩ := hk _ _ _ _ _ _ _ h1 hm
      have hm1 : mb ≤ S1.length := Nat.le_trans hm hbk1.1
      have hih := ih (fun j hj => hsc j (by omega)) fr1 S1 h hm1
      refine ⟨hbk1.trans hih.1, fun X a w hS hf s b kk cs => ?_⟩
      obtain ⟨e, a1, w1, ⟨rfl, X1, s1, hS1, hf1⟩, harr⟩ := hwp w X a hS hf b (.inLoop c :: kk) cs
      obtain ⟨e2, a2, w2, hq2, harr2⟩ := hih.2 X1 a1 w1 hS1 hf1 (s.trans s1) b kk cs
      exact ⟨e2, a2, w2, hq2, .of_steps (Steps.trans harr (.one step_inLoop)) harr2⟩
    · rename_i hne
      obtain ⟨hbk1, hwp⟩ := hk _ _ _ _ _ _ _ h hm
      refine ⟨hbk1, fun X a w hS hf s b kk cs => ?_⟩
      obtain ⟨e, a1, w1, hq, harr⟩ := hwp w X a hS hf b (.inLoop c :: kk) cs
      have hq' := hq
      obtain ⟨rfl, _⟩ := hq
      cases ex with
      | normal => exact absurd h (hne _ _)
      | exit id => exact ⟨_, a1, w1, hq'.from s, .pass (x := .inLoop c) rfl (fun _ _ => .inl (by simp [exOf])) harr⟩
      | ret => exact ⟨_, a1, w1, hq'.from s, .pass (x := .inLoop c) rfl (fun _ _ => .inl (by simp [exOf])) harr⟩

theorem loop_bk {F : Nat → List AV → St → Option (AV × St)} {c : Code} {ex : Ex} : ∀ (k : Nat), (∀ j, j < k → SC P T F j) → ∀ (fr : Fr) (S : St), evC T F k mb (.loop (slim c)) fr S = some (ex, fr', S') → mb ≤ S.length → BK mb S S' := by
  intro k
  induction k with
  | zero => intro _ fr S h; simp [evC] at h
  | succ k ih =>
    intro hsc fr S h hm
    simp only [evC] at h
    have hk := hsc k (Nat.lt_succ_self k)
    split at h
    · rename_i fr1 S1 h1
      have hbk1 := (hk _ _ _ _ _ _ _ h1 hm).1
      exact hbk1.trans (ih (fun j hj => hsc j (by omega)) fr1 S1 h (Nat.le_trans hm hbk1.1))
    · exact (hk _ _ _ _ _ _ _ h hm).1

theorem sc_all (hT : TabOk P T) (hD : DrawSound P T) {F : Nat → List AV → St → Option (AV × St)} (hF : FOK P T F) : ∀ k, SC P T F k := by
  intro k
  induction k using Nat.strongRecOn with
  | _ k ih =>
  cases k with
  | zero => intro mb c fr S ex fr' S' h; simp [evC] at h
  | succ k =>
    have hk : SC P T F k := ih k (Nat.lt_succ_self k)
    intro mb c fr S ex fr' S' h hm
    cases c with
    | skip =>
      simp only [slim, evC, Option.some.injEq, Prod.mk.injEq] at h
      obtain ⟨rfl, rfl, rfl⟩ := h
      exact ⟨BK.refl _ _, fun w X a hS hf => wp_skip ⟨rfl, X, Stn.refl w X, hS, hf⟩⟩
    | exit id =>
      simp only [slim, evC, Option.some.injEq, Prod.mk.injEq] at h
      obtain ⟨rfl, rfl, rfl⟩ := h
      exact ⟨BK.refl _ _, fun w X a hS hf => wp_exit ⟨rfl, X, Stn.refl w X, hS, hf⟩⟩
    | ret =>
      simp only [slim, evC, Option.some.injEq, Prod.mk.injEq] at h
      obtain ⟨rfl, rfl, rfl⟩ := h
      exact ⟨BK.refl _ _, fun w X a hS hf => wp_ret ⟨rfl, X, Stn.refl w X, hS, hf⟩⟩
    | region id ops d =>
      simp only [slim] at h
      split at h
      · simp [evC] at h
      rename_i sl hsl
      cases d with
      | false =>
        simp only [Bool.false_eq_true, if_false, evC] at h
        obtain ⟨rfl, h1⟩ := norm_some h
        refine ⟨evOps_bk (fun f args S v S' hm h => evCall_bk hF hm h) _ _ _ hm h1, fun w X a hS hf => ?_⟩
        refine wp_region ?_
        have := evOps_ok (ops := ops) (Q := Left w X .normal fr' S') hT (evCall_ok hF) ops.toList [] sl fr S X a w rfl hsl h1 hS hf (Stn.refl w X) (fun a' w' X' s hS' hf' => ⟨rfl, X', s, hS', hf'⟩)
        simpa [List.range_eq_range'] using this
      | true =>
        simp only [if_true] at h
        split at h
        · rename_i hd
          simp only [evC] at h
          obtain ⟨rfl, h1⟩ := norm_some h
          refine ⟨evOps_bk (fun f args S v S' hm h => by rw [evCallFz_same h]; exact BK.refl _ _) _ _ _ hm h1, fun w X a hS hf => ?_⟩
          refine wp_region_draw (fun t => ?_)
          refine hD mb F ops sl fr S fr' S' hF hd hsl h1 _ X a _ (sr_drew hS) ⟨hf.len, fun i => (hf.val i).stn stn_drew, hf.defers⟩ (fun a' w' X' s hS' hf' => ⟨rfl, X', stn_drew.trans s, hS', hf'⟩) t
        · simp [evC] at h
    | seq x y =>
      simp only [slim, evC] at h
      split at h
      · rename_i fr1 S1 h1
        obtain ⟨b1, hwp1⟩ := hk _ _ _ _ _ _ _ h1 hm
        obtain ⟨b2, hwp2⟩ := hk _ _ _ _ _ _ _ h (Nat.le_trans hm b1.1)
        refine ⟨b1.trans b2, fun w X a hS hf => wp_seq (wp_mono (hwp1 w X a hS hf) ?_)⟩
        rintro e a' w' ⟨rfl, X', s, hS', hf'⟩
        exact wp_mono (hwp2 w' X' a' hS' hf') (fun e a'' w'' hq => hq.from s)
      · rename_i hne
        obtain ⟨b1, hwp1⟩ := hk _ _ _ _ _ _ _ h hm
        refine ⟨b1, fun w X a hS hf => wp_seq (wp_mono (hwp1 w X a hS hf) ?_)⟩
        rintro e a' w' hq
        have hq' := hq
        obtain ⟨rfl, _⟩ := hq
        cases ex with
        | normal => exact absurd h (hne _ _)
        | exit id => exact hq'
        | ret => exact hq'
    | cond x y z =>
      simp only [slim, evC] at h
      split at h
      · rename_i hx
        obtain ⟨b1, hwp1⟩ := hk _ _ _ _ _ _ _ h hm
        exact ⟨b1, fun w X a hS hf => wp_cond_true (evO_ok hf hx).bool_inv (hwp1 w X a hS hf)⟩
      · rename_i hx
        obtain ⟨b1, hwp1⟩ := hk _ _ _ _ _ _ _ h hm
        exact ⟨b1, fun w X a hS hf => wp_cond_false (evO_ok hf hx).bool_inv (hwp1 w X a hS hf)⟩
      · cases h
    | block id x =>
      simp only [slim, evC] at h
      split at h
      · rename_i i fr1 S1 h1
        obtain ⟨b1, hwp1⟩ := hk _ _ _ _ _ _ _ h1 hm
        split at h
        · rename_i hi
          cases h
          refine ⟨b1, fun w X a hS hf => wp_block (wp_mono (hwp1 w X a hS hf) ?_)⟩
          rintro e a' w' ⟨rfl, hq⟩
          simp only [exOf, Exit.inBlock, hi, if_true]
          exact ⟨rfl, hq⟩
        · rename_i hi
          cases h
          refine ⟨b1, fun w X a hS hf => wp_block (wp_mono (hwp1 w X a hS hf) ?_)⟩
          rintro e a' w' ⟨rfl, hq⟩
          simp only [exOf, Exit.inBlock, hi, if_false]
          exact ⟨rfl, hq⟩
      · rename_i hne
        obtain ⟨b1, hwp1⟩ := hk _ _ _ _ _ _ _ h hm
        refine ⟨b1, fun w X a hS hf => wp_block (wp_mono (hwp1 w X a hS hf) ?_)⟩
        rintro e a' w' hq
        have hq' := hq
        obtain ⟨rfl, _⟩ := hq
        cases ex with
        | normal => exact hq'
        | exit id => exact absurd h (hne _ _ _)
        | ret => exact hq'
    | loop x =>
      simp only [slim] at h
      have h2 := fun (w0 : World) (X0 : Cx) => loop_key (w0 := w0) (X0 := X0) (k + 1) (fun j hj => ih j hj) fr S h hm
      refine ⟨loop_bk (k + 1) (fun j hj => ih j hj) fr S h hm, fun w X a hS hf b kk cs => ?_⟩
      obtain ⟨e, a', w', hq, harr⟩ := (h2 w X).2 X a w hS hf (Stn.refl w X) b kk cs
      exact ⟨e, a', w', hq, .of_steps (.one step_loop) harr⟩
    | _ => simp [slim, evC] at h

theorem fok_all (hT : TabOk P T) (hD : DrawSound P T) : ∀ k, FOK P T (evF T k) := by
  intro k
  induction k with
  | zero => intro f args S0 res S' h; simp [evF] at h
  | succ k ih => exact fok_of_sc hT (sc_all hT hD ih k)

end Go.Pi

/- Pi: what an operation looks at. -/
namespace Go.Pi
open Go
variable {P : Program} {T : Tab} {o : Oper} {a : Act} {w w' : World} {X X' Xc : Cx} {fr fr' : Fr} {S S' : St} {v : AV} {mb : Nat} {C : Nat → List AV → St → Option (AV × St)}

theorem evArgs_congr {l : List Operand} (h : ∀ x ∈ l, evO fr x = evO fr' x) : evArgs fr l = evArgs fr' l := by
  induction l with
  | nil => rfl
  | cons x l ih => simp only [evArgs, h x (by simp), ih fun y hy => h y (by simp [hy])]

theorem evParts_congr {l : List (Nat × Operand)} (h : ∀ x ∈ l, evO fr x.2 = evO fr' x.2) : evParts fr l = evParts fr' l := by
  induction l with
  | nil => rfl
  | cons x l ih =>
    obtain ⟨i, x⟩ := x
    have := h (i, x) (by simp)
    simp only at this
    simp only [evParts, this, ih fun y hy => h y (by simp [hy])]

theorem evOp_congr {op : Op} (h : ∀ x ∈ op.operands, evO fr x = evO fr' x) : evOp T mb C op fr S = evOp T mb C op fr' S := by
  cases op with
  | build t ps =>
    have : evParts fr ps.toList = evParts fr' ps.toList := evParts_congr fun x hx => h x.2 (by simp only [Op.operands, List.mem_toArray, List.mem_map]; exact ⟨x, hx, rfl⟩)
    simp only [evOp, this]
  | buildSlice t n ps =>
    have : evParts fr ps.toList = evParts fr' ps.toList := evParts_congr fun x hx => h x.2 (by simp only [Op.operands, List.mem_toArray, List.mem_map]; exact ⟨x, hx, rfl⟩)
    simp only [evOp, this]
  | makeFunc f first caps =>
    have : evArgs fr caps.toList = evArgs fr' caps.toList := evArgs_congr fun x hx => h x (by simp [Op.operands]; right; simpa using hx)
    cases f <;> simp only [evOp, this]
  | call c =>
    have : evArgs fr c.args.toList = evArgs fr' c.args.toList := evArgs_congr fun x hx => h x (by simp [Op.operands, Call.operands]; right; simpa using hx)
    cases hc : c.callee with
    | value x =>
      have h2 : evO fr x = evO fr' x := h x (by simp [Op.operands, Call.operands, hc])
      simp only [evOp, hc, this, h2]
    | builtin b => simp only [evOp, hc, this]
    | invoke r n => simp only [evOp, hc]
  | slice t x lo hi mx =>
    have hx : evO fr x = evO fr' x := h x (by simp [Op.operands])
    have opt : ∀ y : Option Operand, (∀ z, y = some z → evO fr z = evO fr' z) → evOpt fr y = evOpt fr' y := by
      intro y hy
      cases y with
      | none => rfl
      | some z => simp only [evOpt, hy z rfl]
    have hl : evOpt fr lo = evOpt fr' lo := opt lo fun z hz => h z (by simp [Op.operands, hz])
    have hh : evOpt fr hi = evOpt fr' hi := opt hi fun z hz => h z (by simp [Op.operands, hz])
    cases mx <;> simp only [evOp, hx, hl, hh]
  | pick c x y =>
    have h1 := h c (by simp [Op.operands])
    have h2 := h x (by simp [Op.operands])
    have h3 := h y (by simp [Op.operands])
    simp only [evOp, h1, h2, h3]
  | store t x y =>
    have h1 := h x (by simp [Op.operands])
    have h2 := h y (by simp [Op.operands])
    simp only [evOp, h1, h2]
  | binOp op t x y t' =>
    have h1 := h x (by simp [Op.operands])
    have h2 := h y (by simp [Op.operands])
    simp only [evOp, h1, h2]
  | makeSlice t x y =>
    have h1 := h x (by simp [Op.operands])
    have h2 := h y (by simp [Op.operands])
    simp only [evOp, h1, h2]
  | indexAddr t x y =>
    have h1 := h x (by simp [Op.operands])
    have h2 := h y (by simp [Op.operands])
    simp only [evOp, h1, h2]
  | index t x y =>
    have h1 := h x (by simp [Op.operands])
    have h2 := h y (by simp [Op.operands])
    simp only [evOp, h1, h2]
  | move x => simp only [evOp, h x (by simp [Op.operands])]
  | assign x => simp only [evOp, h x (by simp [Op.operands])]
  | alloc t => simp only [evOp]
  | box t x => simp only [evOp, h x (by simp [Op.operands])]
  | load t x => simp only [evOp, h x (by simp [Op.operands])]
  | nilCheck x => simp only [evOp, h x (by simp [Op.operands])]
  | unOp op t x => simp only [evOp, h x (by simp [Op.operands])]
  | convert s d x => simp only [evOp, h x (by simp [Op.operands])]
  | fieldAddr t x f => simp only [evOp, h x (by simp [Op.operands])]
  | field t x f => simp only [evOp, h x (by simp [Op.operands])]
  | extract x i => simp only [evOp, h x (by simp [Op.operands])]
  | _ => simp only [evOp]

theorem calm_same (hC : ∀ f args S v S', C f args S = some (v, S') → S' = S) {op : Op} (hc : calm op = true) (h : evOp T mb C op fr S = some (v, S')) : S' = S := by
  cases op with
  | call c =>
    simp only [evOp] at h
    simp only [calm] at hc
    split at h
    · rename_i b hb
      split at h
      · rename_i vs hvs
        rw [hb] at hc
        unfold evBuiltin at h
        split at h
        · simp at hc
        · split at h <;> cases h; rfl
        · split at h <;> cases h; rfl
        · split at h <;> cases h; rfl
        · cases h
      · cases h
    · split at h
      · exact hC _ _ _ _ _ h
      · cases h
    · cases h
  | move x => simp only [evOp] at h; split at h <;> cases h; rfl
  | assign x => simp only [evOp] at h; split at h <;> cases h; rfl
  | pick c x y =>
    simp only [evOp] at h
    split at h
    · split at h <;> cases h; rfl
    · split at h <;> cases h; rfl
    · cases h
  | build t ps =>
    simp only [evOp] at h
    split at h
    · split at h
      · split at h <;> cases h; rfl
      · cases h
    · cases h
  | load t x =>
    simp only [evOp] at h
    split at h
    · split at h <;> cases h; rfl
    · cases h
  | nilCheck x => simp only [evOp] at h; split at h <;> cases h <;> rfl
  | binOp op t x y t' =>
    simp only [evOp] at h
    split at h
    · split at h <;> cases h; rfl
    · cases h
  | unOp op t x =>
    simp only [evOp] at h
    split at h
    · split at h <;> cases h; rfl
    · cases h
  | convert s d x =>
    simp only [evOp] at h
    split at h
    · split at h <;> cases h; rfl
    · cases h
  | makeFunc f first caps =>
    cases f with
    | func f =>
      simp only [evOp] at h
      split at h
      · split at h <;> cases h; rfl
      · cases h
    | _ => simp [evOp] at h
  | slice t x lo hi mx =>
    cases mx with
    | some y => simp [evOp] at h
    | none =>
      simp only [evOp] at h
      split at h
      · split at h
        · split at h <;> cases h; rfl
        · cases h
      · split at h <;> cases h; rfl
      · split at h
        · split at h <;> cases h; rfl
        · cases h
      · split at h
        · split at h <;> cases h; rfl
        · cases h
      · cases h
  | fieldAddr t x f =>
    simp only [evOp] at h
    split at h
    · split at h
      · split at h <;> cases h; rfl
      · split at h <;> cases h; rfl
      · cases h
    · cases h
  | field t x f =>
    simp only [evOp] at h
    split at h
    · split at h
      · split at h
        · split at h
          · cases h; rfl
          · split at h <;> cases h; rfl
        · cases h
      · cases h
    · cases h
  | indexAddr t x ix =>
    simp only [evOp] at h
    split at h
    · split at h
      · split at h <;> cases h; rfl
      · cases h
    · split at h <;> cases h; rfl
    · cases h
  | index t x ix =>
    simp only [evOp] at h
    split at h
    · split at h
      · split at h <;> cases h; rfl
      · cases h
    · cases h
  | extract x i =>
    simp only [evOp] at h
    split at h
    · split at h <;> cases h; rfl
    · cases h
  | _ => simp [calm] at hc

end Go.Pi

/- Pi: regions whose order is drawn. -/
namespace Go.Pi
open Go
variable {P : Program} {T : Tab} {o : Oper} {a : Act} {w w' : World} {X X' Xc : Cx} {fr fr' : Fr} {S S' : St} {v : AV} {mb : Nat} {C : Nat → List AV → St → Option (AV × St)}

def foldPut : List PO → List AV → Fr → Fr
  | o :: os, v :: vs, fr => foldPut os vs (put fr o.dst v)
  | _, _, fr => fr

theorem foldPut_snoc : ∀ {os : List PO} {vs : List AV} {fr : Fr} {o : PO} {v : AV}, os.length = vs.length → foldPut (os ++ [o]) (vs ++ [v]) fr = put (foldPut os vs fr) o.dst v := by
  intro os
  induction os with
  | nil => intro vs fr o v h; cases vs with
    | nil => rfl
    | cons => simp at h
  | cons o' os ih => intro vs fr o v h; cases vs with
    | nil => simp at h
    | cons v' vs => simp only [List.cons_append, foldPut]; exact ih (by simpa using h)

/-- What each operation gave, in the order in which they stand. -/
theorem trace_of (hC : ∀ f args S v S', C f args S = some (v, S') → S' = S) : ∀ (sl : List PO) (fr : Fr) (S : St), (∀ o ∈ sl, calm o.op = true) → evOps T mb C sl fr S = some (fr', S') →
    S' = S ∧ ∃ vs : List AV, vs.length = sl.length ∧ fr' = foldPut sl vs fr ∧
      ∀ k (hk : k < sl.length), if want (foldPut (sl.take k) (vs.take k) fr) sl[k].guard = true then evOp T mb C sl[k].op (foldPut (sl.take k) (vs.take k) fr) S = some (vs.getD k .undef, S) else vs.getD k .undef = .undef := by
  intro sl
  induction sl with
  | nil =>
    intro fr S _ h
    simp only [evOps, Option.some.injEq, Prod.mk.injEq] at h
    obtain ⟨rfl, rfl⟩ := h
    exact ⟨rfl, [], rfl, rfl, fun k hk => absurd hk (Nat.not_lt_zero k)⟩
  | cons o sl ih =>
    intro fr S hc h
    simp only [evOps] at h
    have hc' : ∀ o ∈ sl, calm o.op = true := fun x hx => hc x (by simp [hx])
    have step : ∀ v, evOps T mb C sl (put fr o.dst v) S = some (fr', S') → (if want fr o.guard = true then evOp T mb C o.op fr S = some (v, S) else v = .undef) →
        S' = S ∧ ∃ vs : List AV, vs.length = (o :: sl).length ∧ fr' = foldPut (o :: sl) vs fr ∧
      ∀ k (hk : k < (o :: sl).length), if want (foldPut ((o :: sl).take k) (vs.take k) fr) (o :: sl)[k].guard = true then evOp T mb C (o :: sl)[k].op (foldPut ((o :: sl).take k) (vs.take k) fr) S = some (vs.getD k .undef, S) else vs.getD k .undef = .undef := by
      intro v h hv
      obtain ⟨rfl, vs, hl, hfr, hall⟩ := ih _ _ hc' h
      refine ⟨rfl, v :: vs, by simp [hl], by simpa [foldPut] using hfr, fun k hk => ?_⟩
      cases k with
      | zero => simpa [foldPut] using hv
      | succ k => simpa [foldPut] using hall k (by simpa using hk)
    split at h
    · rename_i hw
      split at h
      · cases h
      · rename_i v S1 h1
        have := calm_same hC (hc o (by simp)) h1
        subst this
        exact step v h (by rw [if_pos hw]; exact h1)
    · rename_i hw
      exact step .undef h (by rw [if_neg hw])

/-- A frame in which just D's operations have been done. -/
structure Ag (sl : List PO) (vs : List AV) (fr : Fr) (D : Nat → Prop) (g : Fr) : Prop where
  len : g.length = fr.length
  wr : ∀ t, t < fr.length → ∀ j (hj : j < sl.length), D j → sl[j].dst = some t → g.getD t .undef = vs.getD j .undef
  un : ∀ t, t < fr.length → (∀ j (hj : j < sl.length), D j → sl[j].dst ≠ some t) → g.getD t .undef = fr.getD t .undef

theorem put_getD {g : Fr} {d : Option Nat} {v : AV} {t : Nat} (ht : t < g.length) : (put g d v).getD t .undef = if d = some t then v else g.getD t .undef := by
  cases d with
  | none => simp [put]
  | some d =>
    simp only [put, List.getD_eq_getElem?_getD, List.getElem?_set]
    by_cases h : d = t
    · subst h; simp [ht]
    · simp [h]

theorem Ag.put {sl : List PO} {vs : List AV} {D : Nat → Prop} {g : Fr} (h : Ag sl vs fr D g) {k : Nat} (hk : k < sl.length) (hnd : ¬ D k) (hdist : ∀ j (hj : j < sl.length), j ≠ k → ∀ t, sl[j].dst = some t → sl[k].dst ≠ some t) :
    Ag sl vs fr (fun j => D j ∨ j = k) (put g sl[k].dst (vs.getD k .undef)) := by
  refine ⟨by cases sl[k].dst <;> simp [Pi.put, h.len], fun t ht j hj hD hd => ?_, fun t ht hn => ?_⟩
  · rw [put_getD (by rw [h.len]; exact ht)]
    by_cases hjk : j = k
    · subst hjk; rw [if_pos hd]
    · rw [if_neg (hdist j hj hjk t hd)]
      exact h.wr t ht j hj (hD.resolve_right hjk) hd
  · rw [put_getD (by rw [h.len]; exact ht), if_neg (hn k hk (.inr rfl))]
    exact h.un t ht (fun j hj hD => hn j hj (.inl hD))

theorem ag_listed {sl : List PO} {vs : List AV} (hl : vs.length = sl.length) (hdist : ∀ k (hk : k < sl.length) j (hj : j < sl.length), j ≠ k → ∀ t, sl[j].dst = some t → sl[k].dst ≠ some t) :
    ∀ k, k ≤ sl.length → Ag sl vs fr (· < k) (foldPut (sl.take k) (vs.take k) fr) := by
  intro k
  induction k with
  | zero => intro _; exact ⟨rfl, fun t ht j hj hD => absurd hD (Nat.not_lt_zero j), fun t ht _ => rfl⟩
  | succ k ih =>
    intro hk
    have hk' : k < sl.length := by omega
    have h := (ih (by omega)).put hk' (Nat.lt_irrefl k) (hdist k hk')
    have e : foldPut (sl.take (k + 1)) (vs.take (k + 1)) fr = Pi.put (foldPut (sl.take k) (vs.take k) fr) sl[k].dst (vs.getD k .undef) := by
      have e1 : sl.take (k + 1) = sl.take k ++ [sl[k]] := by rw [List.take_succ_eq_append_getElem hk']
      have e2 : vs.take (k + 1) = vs.take k ++ [vs.getD k .undef] := by
        rw [List.take_succ_eq_append_getElem (by omega)]
        simp [List.getD_eq_getElem?_getD, (by omega : k < vs.length)]
      rw [e1, e2, foldPut_snoc (by simp; omega)]
    rw [e]
    refine ⟨h.len, fun t ht j hj hD => h.wr t ht j hj (by omega), fun t ht hn => h.un t ht (fun j hj hD => hn j hj (by omega))⟩

/-! ### What stands ahead -/
def AhOk (ops : List Oper) (A : List (List Nat)) : Prop :=
  ∀ i j, j ∈ A.getD i [] → ∃ o, ops[i]? = some o ∧ ∃ e ∈ o.after.toList, Region.binds .any e = true ∧ (j = e.on ∨ (e.on < i ∧ j ∈ A.getD e.on []))

theorem aheadsGo_ok (ops : List Oper) : ∀ (l pre : List Oper) (acc : List (List Nat)), ops = pre ++ l → acc.length = pre.length → AhOk ops acc → AhOk ops (aheadsGo acc l) := by
  intro l
  induction l with
  | nil => intro pre acc _ _ h; exact h
  | cons o l ih =>
    intro pre acc he hl h
    simp only [aheadsGo]
    refine ih (pre ++ [o]) _ (by rw [he]; simp) (by simp [hl]) ?_
    have getl : ∀ n i (q : List Nat), i < acc.length → (acc ++ [q]).getD i n = acc.getD i n := by
      intro n i q hi
      simp [List.getD_eq_getElem?_getD, List.getElem?_append_left hi]
    intro i j hj
    rcases Nat.lt_trichotomy i acc.length with hi | hi | hi
    · rw [getl _ _ _ hi] at hj
      obtain ⟨o', ho', e, he', hb, hc⟩ := h i j hj
      refine ⟨o', ho', e, he', hb, ?_⟩
      rcases hc with hc | ⟨h1, h2⟩
      · exact .inl hc
      · exact .inr ⟨h1, by rw [getl _ _ _ (by omega)]; exact h2⟩
    · subst hi
      have : (acc ++ [o.after.toList.flatMap fun e => if Region.binds .any e then e.on :: acc.getD e.on [] else []]).getD acc.length [] = o.after.toList.flatMap fun e => if Region.binds .any e then e.on :: acc.getD e.on [] else [] := by
        simp [List.getD_eq_getElem?_getD]
      rw [this] at hj
      obtain ⟨e, he', hj⟩ := List.mem_flatMap.1 hj
      refine ⟨o, by rw [he, hl]; simp, e, he', ?_⟩
      split at hj
      · rename_i hb
        refine ⟨hb, ?_⟩
        rcases List.mem_cons.1 hj with hj | hj
        · exact .inl hj
        · have hlt : e.on < acc.length := by
            apply Classical.byContradiction
            intro hn
            simp [List.getD_eq_getElem?_getD, List.getElem?_eq_none (Nat.le_of_not_lt hn)] at hj
          exact .inr ⟨hlt, by rw [getl _ _ _ hlt]; exact hj⟩
      · cases hj
    · rw [List.getD_eq_getElem?_getD, List.getElem?_eq_none (by simp; omega)] at hj
      simp at hj

theorem aheads_ok (ops : List Oper) : AhOk ops (aheads ops) :=
  aheadsGo_ok ops ops [] [] rfl rfl (fun i j h => by simp at h)

/-- What is done has all done that stands ahead of it. -/
theorem aheads_done {ops : List Oper} {D : Nat → Prop} (hD : ∀ i o, D i → ops[i]? = some o → ∀ e ∈ o.after.toList, Region.binds .any e = true → D e.on) : ∀ i, D i → ∀ j ∈ (aheads ops).getD i [], D j := by
  intro i
  induction i using Nat.strongRecOn with
  | _ i ih =>
    intro hi j hj
    obtain ⟨o, ho, e, he, hb, hc⟩ := aheads_ok ops i j hj
    have hon := hD i o hi ho e he hb
    rcases hc with rfl | ⟨h1, h2⟩
    · exact hon
    · exact ih e.on h1 hon j h2

theorem aheads_lt {ops : List Oper} (hlt : ∀ i o, ops[i]? = some o → ∀ e ∈ o.after.toList, Region.binds .any e = true → e.on < i) : ∀ i, ∀ j ∈ (aheads ops).getD i [], j < i := by
  intro i
  induction i using Nat.strongRecOn with
  | _ i ih =>
    intro j hj
    obtain ⟨o, ho, e, he, hb, hc⟩ := aheads_ok ops i j hj
    have := hlt i o ho e he hb
    rcases hc with rfl | ⟨h1, h2⟩
    · exact this
    · have := ih e.on h1 j h2
      omega

theorem slimOps_get : ∀ {ops l : List Oper} {sl : List PO}, slimOps ops l = some sl → sl.length = l.length ∧ ∀ k (hk : k < l.length) (hk' : k < sl.length), sl[k].dst = l[k].dst ∧ sl[k].op = l[k].op ∧ slimGuard ops l[k] = some sl[k].guard := by
  intro ops l
  induction l with
  | nil => intro sl h; simp only [slimOps, Option.some.injEq] at h; subst h; exact ⟨rfl, fun k hk => absurd hk (Nat.not_lt_zero k)⟩
  | cons o l ih =>
    intro sl h
    simp only [slimOps] at h
    split at h
    · cases h
    rename_i g hg
    split at h <;> cases h
    rename_i sl hsl
    obtain ⟨h1, h2⟩ := ih hsl
    refine ⟨by simp [h1], fun k hk hk' => ?_⟩
    cases k with
    | zero => exact ⟨rfl, rfl, hg⟩
    | succ k => simpa using h2 k (by simpa using hk) (by simpa using hk')

end Go.Pi

/- Pi: regions whose order is drawn, joined. -/
namespace Go.Pi
open Go
variable {P : Program} {T : Tab} {o : Oper} {a : Act} {w w' : World} {X X' Xc : Cx} {fr fr' : Fr} {S S' : St} {v : AV} {mb : Nat} {C : Nat → List AV → St → Option (AV × St)}

structure DrawFacts (ops : List Oper) : Prop where
  calm : ∀ (i : Nat) (o : Oper), ops[i]? = some o → calm o.op = true
  lt : ∀ (i : Nat) (o : Oper), ops[i]? = some o → ∀ e ∈ o.after.toList, Region.binds .any e = true → e.on < i
  acy : ∀ md, acyc md ops = true
  dist : ∀ (i j : Nat) (oi oj : Oper), ops[i]? = some oi → ops[j]? = some oj → i ≠ j → ∀ d, oj.dst = some d → oi.dst ≠ some d
  ord : ∀ (i j : Nat) (oi oj : Oper), ops[i]? = some oi → ops[j]? = some oj → i ≠ j → ∀ d, oj.dst = some d → d ∈ tmpsOf ops oi → j ∈ (aheads ops).getD i [] ∨ i ∈ (aheads ops).getD j []

theorem zipIdx_all {α : Type} {l : List α} {p : α × Nat → Bool} (h : l.zipIdx.all p = true) {i : Nat} {x : α} (hi : l[i]? = some x) : p (x, i) = true := by
  have hm : (x, i) ∈ l.zipIdx := by
    rw [List.mem_zipIdx_iff_getElem?]
    simpa using hi
  exact List.all_eq_true.1 h _ hm

theorem forward_lt {md : Region.Mode} {ops : List Oper} (h : forwardOk md ops = true) {i : Nat} {o : Oper} (hi : ops[i]? = some o) {e : Edge} (he : e ∈ o.after.toList) (hb : Region.binds md e = true) : e.on < i := by
  have k := zipIdx_all h hi
  simp only at k
  have k2 := List.all_eq_true.1 k e he
  simpa [hb] using k2

theorem all_done {md : Region.Mode} {ops : List Oper} {D : Nat → Prop} (h : acyc md ops = true) (hD : ∀ i o, ops[i]? = some o → (∀ e ∈ o.after.toList, Region.binds md e = true → D e.on) → D i) : ∀ i, i < ops.length → D i := by
  simp only [acyc, Bool.or_eq_true] at h
  rcases h with h | h
  · intro i
    induction i using Nat.strongRecOn with
    | _ i ih =>
      intro hi
      exact hD i _ (List.getElem?_eq_getElem hi) fun e he hb => by
        have hlt := forward_lt h (List.getElem?_eq_getElem hi) he hb
        exact ih e.on hlt (by omega)
  · have key : ∀ k i, (marks md ops k).getD i false = true → D i := by
      intro k
      induction k with
      | zero => intro i hi; simp [marks] at hi
      | succ k ih =>
        intro i hi
        simp only [marks, markRound, List.getD_eq_getElem?_getD, List.getElem?_map] at hi
        cases ho : ops[i]? with
        | none => rw [ho] at hi; simp at hi
        | some o =>
          rw [ho] at hi
          simp only [Option.map_some, Option.getD_some] at hi
          refine hD i o ho fun e he hb => ?_
          have := List.all_eq_true.1 hi e he
          simp only [hb, Bool.not_true, Bool.false_or] at this
          exact ih e.on (by rw [List.getD_eq_getElem?_getD]; exact this)
    intro i hi
    have hl : (marks md ops ops.length).length = ops.length := by
      cases hn : ops.length with
      | zero => omega
      | succ k => simp [marks, markRound, hn]
    refine key ops.length i ?_
    rw [List.getD_eq_getElem?_getD, List.getElem?_eq_getElem (by omega)]
    exact List.all_eq_true.1 h _ (List.getElem_mem _)

theorem drawFacts {ops : List Oper} (h : drawOk ops = true) : DrawFacts ops := by
  simp only [drawOk, Bool.and_eq_true] at h
  obtain ⟨⟨h1, h2, h4, h5⟩, h3⟩ := h
  have key : ∀ (i j : Nat) (oi oj : Oper), ops[i]? = some oi → ops[j]? = some oj → i ≠ j → ∀ d, oj.dst = some d → oi.dst ≠ some d ∧ (d ∈ tmpsOf ops oi → j ∈ (aheads ops).getD i [] ∨ i ∈ (aheads ops).getD j []) := by
    intro i j oi oj hi hj hij d hd
    have k := zipIdx_all h3 hj
    simp only [hd] at k
    have k2 := zipIdx_all k hi
    simp only [Bool.or_eq_true, Bool.and_eq_true, beq_iff_eq, Bool.not_eq_true', List.contains_eq_mem, decide_eq_true_eq, decide_eq_false_iff_not] at k2
    rcases k2 with k2 | ⟨k3, k4⟩
    · exact absurd k2 hij
    · refine ⟨fun e => by rw [e] at k3; simp at k3, fun hm => ?_⟩
      rcases k4 with (k4 | k4) | k4
      · exact absurd hm k4
      · exact .inl k4
      · exact .inr k4
  refine ⟨fun i o hi => List.all_eq_true.1 h1 o (List.mem_of_getElem? hi), fun i o hi e he hb => forward_lt h2 hi he hb, fun md => ?_, fun i j oi oj hi hj hij d hd => (key i j oi oj hi hj hij d hd).1, fun i j oi oj hi hj hij d hd => (key i j oi oj hi hj hij d hd).2⟩
  cases md with
  | text => exact h4
  | gc => exact h5
  | any => simp [acyc, h2]

theorem mem_tmpsOf_operand {ops : List Oper} {o : Oper} {t : Nat} (h : Operand.tmp t ∈ o.op.operands) : t ∈ tmpsOf ops o := by
  unfold tmpsOf
  exact List.mem_append_left _ (List.mem_filterMap.2 ⟨.tmp t, by simpa using h, rfl⟩)

theorem mem_tmpsOf_guard {ops : List Oper} {o : Oper} {d : Nat} {w : Bool} (h : slimGuard ops o = some (some (d, w))) : d ∈ tmpsOf ops o := by
  unfold slimGuard at h
  unfold tmpsOf
  split at h
  · cases h
  · rename_i j b he
    split at h
    · cases h
    · rename_i oj hoj
      split at h <;> cases h
      rename_i hd
      refine List.mem_append_right _ ?_
      simp [hoj, hd]

/-- Two frames that agree on what an operation looks at. -/
theorem same_at {ops : List Oper} {o : Oper} {g : Option (Nat × Bool)} (hg : slimGuard ops o = some g) {f1 f2 : Fr} (hl : f1.length = f2.length) (h : ∀ t ∈ tmpsOf ops o, t < f1.length → f1.getD t .undef = f2.getD t .undef) :
    want f1 g = want f2 g ∧ evOp T mb C o.op f1 S = evOp T mb C o.op f2 S := by
  constructor
  · cases g with
    | none => rfl
    | some p =>
      obtain ⟨d, b⟩ := p
      have hd := mem_tmpsOf_guard hg
      simp only [want]
      by_cases hlt : d < f1.length
      · have := h d hd hlt
        simp only [List.getD_eq_getElem?_getD] at this
        rw [List.getElem?_eq_getElem hlt, List.getElem?_eq_getElem (by omega)] at this ⊢
        simp only [Option.getD_some] at this
        rw [this]
      · rw [List.getElem?_eq_none (by omega), List.getElem?_eq_none (by omega)]
  · refine evOp_congr fun x hx => ?_
    cases x with
    | tmp t =>
      simp only [evO, Option.some.injEq]
      by_cases hlt : t < f1.length
      · exact h t (mem_tmpsOf_operand hx) hlt
      · rw [List.getD_eq_getElem?_getD, List.getD_eq_getElem?_getD, List.getElem?_eq_none (Nat.le_of_not_lt hlt), List.getElem?_eq_none (by rw [← hl]; exact Nat.le_of_not_lt hlt)]
    | _ => rfl

/-- What is done so far. -/
def Done (listed : Array Bool) (i : Nat) : Prop := listed.getD i false = true

theorem count_set {l : List Bool} {i : Nat} (hi : l[i]? = some false) : (l.set i true).count false + 1 = l.count false := by
  induction l generalizing i with
  | nil => simp at hi
  | cons b l ih =>
    cases i with
    | zero => simp at hi; subst hi; simp
    | succ i =>
      have := ih (by simpa using hi)
      simp only [List.set_cons_succ, List.count_cons]
      omega

theorem done_set {listed : Array Bool} {i : Nat} (hi : i < listed.size) : Done (listed.setIfInBounds i true) = fun j => Done listed j ∨ j = i := by
  funext j
  apply propext
  unfold Done
  by_cases h : i = j
  · subst h
    simp [Array.getD_eq_getD_getElem?, hi]
  · rw [getD_set_ne false h]
    constructor
    · exact .inl
    · rintro (h' | h')
      · exact h'
      · exact absurd h'.symm h

theorem ag_full {sl : List PO} {vs : List AV} {D D' : Nat → Prop} {g g' : Fr} (h : Ag sl vs fr D g) (h' : Ag sl vs fr D' g') (hD : ∀ i, i < sl.length → D i) (hD' : ∀ i, i < sl.length → D' i) : g = g' := by
  refine List.ext_getElem (by rw [h.len, h'.len]) (fun t h1 h2 => ?_)
  have ht : t < fr.length := by rw [← h.len]; exact h1
  have e : g.getD t .undef = g'.getD t .undef := by
    by_cases hw : ∃ j, ∃ hj : j < sl.length, sl[j].dst = some t
    · obtain ⟨j, hj, hd⟩ := hw
      rw [h.wr t ht j hj (hD j hj) hd, h'.wr t ht j hj (hD' j hj) hd]
    · rw [h.un t ht (fun j hj _ hd => hw ⟨j, hj, hd⟩), h'.un t ht (fun j hj _ hd => hw ⟨j, hj, hd⟩)]
  simpa [List.getD_eq_getElem?_getD, h1, h2] using e

theorem draw_main (hT : TabOk P T) (hC : COK P T C) {ops : Array Oper} {sl : List PO} (df : DrawFacts ops.toList) (hsl : slimOps ops.toList ops.toList = some sl) {vs : List AV} (hvl : vs.length = sl.length)
    (hval : ∀ k (hk : k < sl.length), if want (foldPut (sl.take k) (vs.take k) fr) sl[k].guard = true then evOp T mb C sl[k].op (foldPut (sl.take k) (vs.take k) fr) S = some (vs.getD k .undef, S) else vs.getD k .undef = .undef)
    {Q : Exit → Act → World → Prop} {w0 : World} {X0 : Cx} (hQ : ∀ a' w' X', Stn w0 X0 w' X' → SR w' X' S → FrR w' X' (foldPut sl vs fr) a' → Q .normal a' w')
    {md : Region.Mode} (hmd : ∀ e, Region.binds .any e = true → Region.binds md e = true) : ∀ (fuel : Nat) (listed : Array Bool) (a : Act) (w : World) (X : Cx) (g : Fr), listed.size = ops.size → listed.toList.count false ≤ fuel →
      (∀ (i : Nat) (o : Oper), Done listed i → ops.toList[i]? = some o → ∀ e ∈ o.after.toList, Region.binds .any e = true → Done listed e.on) → Ag sl vs fr (Done listed) g → SR w X S → FrR w X g a → Stn w0 X0 w X → wpAny P md ops Q fuel listed a w := by
  obtain ⟨hll, hget⟩ := slimOps_get hsl
  have hsz : ops.toList.length = ops.size := by simp
  have hdist : ∀ k (hk : k < sl.length) j (hj : j < sl.length), j ≠ k → ∀ t, sl[j].dst = some t → sl[k].dst ≠ some t := by
    intro k hk j hj hjk t ht
    rw [(hget j (by omega) hj).1] at ht
    rw [(hget k (by omega) hk).1]
    exact df.dist k j _ _ (List.getElem?_eq_getElem (by omega)) (List.getElem?_eq_getElem (by omega)) (Ne.symm hjk) t ht
  -- the end
  have hend : ∀ (listed : Array Bool) (a : Act) (w : World) (X : Cx) (g : Fr), (∀ i, i < ops.size → Done listed i) → Ag sl vs fr (Done listed) g → SR w X S → FrR w X g a → Stn w0 X0 w X → Q .normal a w := by
    intro listed a w X g hall hag hS hf s
    have hL := ag_listed (fr := fr) hvl hdist sl.length (Nat.le_refl _)
    rw [List.take_length, ← hvl, List.take_length] at hL
    have := ag_full hag hL (fun i hi => hall i (by omega)) (fun i hi => by omega)
    subst this
    exact hQ a w X s hS hf
  have hfull : ∀ (listed : Array Bool), listed.size = ops.size → Region.ready md ops listed = [] → ∀ i, i < ops.size → Done listed i := by
    intro listed hls hr i hi
    refine all_done (df.acy md) (fun i o ho hed => ?_) i (by omega)
    apply Classical.byContradiction
    intro hn
    have hio : ops[i]? = some o := by rw [← Array.getElem?_toList]; exact ho
    have hi' : i < listed.size := by rw [hls]; exact (Array.getElem?_eq_some_iff.1 hio).1
    have hmem : i ∈ Region.ready md ops listed := by
      rw [mem_ready]
      refine ⟨?_, o, hio, fun e he hb => hed e (by simpa using he) hb⟩
      unfold Done at hn
      simp only [Array.getD_eq_getD_getElem?, Array.getElem?_eq_getElem hi', Option.getD_some] at hn ⊢
      simpa using hn
    rw [hr] at hmem
    cases hmem
  intro fuel
  induction fuel with
  | zero =>
    intro listed a w X g hls hcnt hdown hag hS hf s
    have hall : ∀ i, i < ops.size → Done listed i := by
      intro i hi
      have hi' : i < listed.size := by omega
      unfold Done
      have hne : listed[i] ≠ false := by
        intro he
        have : false ∈ listed.toList := by rw [← he]; simp
        have := List.count_pos_iff.2 this
        omega
      simp only [Array.getD_eq_getD_getElem?, Array.getElem?_eq_getElem hi', Option.getD_some]
      simpa using hne
    refine ⟨?_, hend listed a w X g hall hag hS hf s⟩
    apply List.eq_nil_iff_forall_not_mem.2
    intro i hi
    rw [mem_ready] at hi
    obtain ⟨h1, o, ho, _⟩ := hi
    have hlt : i < ops.size := (Array.getElem?_eq_some_iff.1 ho).1
    have := hall i hlt
    unfold Done at this
    have hi' : i < listed.size := by omega
    simp only [Array.getD_eq_getD_getElem?, Array.getElem?_eq_getElem hi', Option.getD_some] at this h1
    rw [this] at h1
    cases h1
  | succ fuel ih =>
    intro listed a w X g hls hcnt hdown hag hS hf s
    refine ⟨fun hr => hend listed a w X g (hfull listed hls hr) hag hS hf s, fun i hi => ?_⟩
    rw [mem_ready] at hi
    obtain ⟨hnl, o, ho, hedge⟩ := hi
    have hin : i < ops.size := (Array.getElem?_eq_some_iff.1 ho).1
    have hil : i < listed.size := by omega
    have his : i < sl.length := by omega
    have hot : ops.toList[i]? = some o := by rw [Array.getElem?_toList]; exact ho
    have hotg : ops.toList[i]'(by omega) = o := by
      have := List.getElem?_eq_some_iff.1 hot
      exact this.2
    obtain ⟨hd1, hd2, hd3⟩ := hget i (by omega) his
    rw [hotg] at hd1 hd2 hd3
    have hnd : ¬ Done listed i := by
      unfold Done
      simp only [Array.getD_eq_getD_getElem?, Array.getElem?_eq_getElem hil, Option.getD_some] at hnl ⊢
      simpa using hnl
    have hah : ∀ j ∈ (aheads ops.toList).getD i [], Done listed j := by
      intro j hj
      obtain ⟨o', ho', e, he, hb, hc⟩ := aheads_ok ops.toList i j hj
      rw [hot] at ho'
      injection ho' with ho'
      subst ho'
      have hon : Done listed e.on := hedge e (by simpa using he) (hmd e hb)
      rcases hc with rfl | ⟨_, h2⟩
      · exact hon
      · exact aheads_done hdown e.on hon j h2
    have hahlt := aheads_lt (ops := ops.toList) (fun i o hi e he hb => df.lt i o hi e he hb)
    have hL := ag_listed (fr := fr) hvl hdist i (by omega)
    -- the frames agree on what it looks at
    have hsame := same_at (T := T) (mb := mb) (C := C) (S := S) hd3 (f1 := g) (f2 := foldPut (sl.take i) (vs.take i) fr) (by rw [hag.len, hL.len]) (fun t ht htl => by
      rw [hag.len] at htl
      by_cases hw : ∃ j, ∃ hj : j < sl.length, j ≠ i ∧ sl[j].dst = some t
      · obtain ⟨j, hj, hji, hdj⟩ := hw
        have hjo : ops.toList[j]? = some (ops.toList[j]'(by omega)) := List.getElem?_eq_getElem (by omega)
        have hdj' := hdj
        rw [(hget j (by omega) hj).1] at hdj'
        rcases df.ord i j o _ hot hjo (Ne.symm hji) t hdj' ht with h1 | h1
        · rw [hag.wr t htl j hj (hah j h1) hdj, hL.wr t htl j hj (hahlt i j h1) hdj]
        · have hij := hahlt j i h1
          have hndj : ¬ Done listed j := fun hdn => hnd (aheads_done hdown j hdn i h1)
          rw [hag.un t htl (fun j' hj' hD hd => ?_), hL.un t htl (fun j' hj' hD hd => ?_)]
          · by_cases hjj : j' = j
            · omega
            · exact hdist j hj j' hj' hjj t hd hdj
          · by_cases hjj : j' = j
            · subst hjj; exact hndj hD
            · exact hdist j hj j' hj' hjj t hd hdj
      · rw [hag.un t htl (fun j' hj' hD hd => hw ⟨j', hj', fun e => hnd (e ▸ hD), hd⟩), hL.un t htl (fun j' hj' hD hd => hw ⟨j', hj', by omega, hd⟩)])
    have hvi := hval i his
    rw [hd2, ← hsame.1, ← hsame.2] at hvi
    have hls' : (listed.setIfInBounds i true).size = ops.size := by simpa using hls
    have hcnt' : (listed.setIfInBounds i true).toList.count false ≤ fuel := by
      have : listed.toList[i]? = some false := by
        rw [Array.getElem?_toList, Array.getElem?_eq_getElem hil]
        simp only [Array.getD_eq_getD_getElem?, Array.getElem?_eq_getElem hil, Option.getD_some] at hnl
        rw [hnl]
      have := count_set this
      rw [Array.toList_setIfInBounds]
      omega
    have hdown' : ∀ (j : Nat) (o' : Oper), Done (listed.setIfInBounds i true) j → ops.toList[j]? = some o' → ∀ e ∈ o'.after.toList, Region.binds .any e = true → Done (listed.setIfInBounds i true) e.on := by
      rw [done_set hil]
      intro j o' hj ho' e he hb
      rcases hj with hj | rfl
      · exact .inl (hdown j o' hj ho' e he hb)
      · rw [hot] at ho'
        injection ho' with ho'
        subst ho'
        exact .inl (hedge e (by simpa using he) (hmd e hb))
    have hag' : Ag sl vs fr (Done (listed.setIfInBounds i true)) (put g o.dst (vs.getD i .undef)) := by
      rw [done_set hil, ← hd1]
      exact hag.put his hnd (hdist i his)
    have hw := want_ok hf hd3
    unfold wpOp
    rw [ho]
    simp only
    rw [← hw]
    split at hvi
    · rename_i hwt
      rw [if_pos hwt]
      left
      refine evOp_ok hT hC hS hf hvi _ _ (fun v' w' X' s1 hS1 hv1 => ?_)
      exact ih _ _ _ X' _ hls' hcnt' hdown' hag' hS1 (hf.put s1 o.dst hv1) (s.trans s1)
    · rename_i hwt
      rw [if_neg hwt]
      rw [hvi] at hag'
      exact ih _ _ _ X _ hls' hcnt' hdown' hag' hS (hf.put (Stn.refl w X) o.dst (VR.undef w X)) s

theorem binds_any {md : Region.Mode} {e : Edge} (h : Region.binds .any e = true) : Region.binds md e = true := by
  unfold Region.binds at h ⊢
  cases hg : e.ground <;> rw [hg] at h <;> first | rfl | (cases h)

theorem draw_sound (hT : TabOk P T) : DrawSound P T := by
  intro mb F ops sl fr S fr' S' hF hd hsl hev w0 X0 a0 Q hS0 hf0 hQ t
  have df := drawFacts hd
  obtain ⟨hll, hget⟩ := slimOps_get hsl
  have hC := evCallFz_ok hF
  obtain ⟨rfl, vs, hvl, rfl, hval⟩ := trace_of (mb := mb) (C := evCallFz T F) (fun f args S v S' h => evCallFz_same h) sl fr S (fun o ho => by
    obtain ⟨k, hk, rfl⟩ := List.getElem_of_mem ho
    rw [(hget k (by omega) hk).2.1]
    exact df.calm k _ (List.getElem?_eq_getElem (by omega))) hev
  have go : ∀ md t, wpOps P ops Q (Region.linearise md ops t) a0 w0 := by
    intro md t
    have := draw_main hT hC df hsl hvl hval (w0 := w0) (X0 := X0) hQ (md := md) (fun e => binds_any) ops.size (Array.replicate ops.size false) a0 w0 X0 fr (by simp) (by
      simp) (fun i o hi => by
      unfold Done at hi
      simp only [Array.getD_eq_getD_getElem?, Array.getElem?_replicate] at hi
      split at hi <;> simp at hi) ⟨rfl, fun t ht j hj hD => by
        unfold Done at hD
        simp only [Array.getD_eq_getD_getElem?, Array.getElem?_replicate] at hD
        split at hD <;> simp at hD, fun t ht _ => rfl⟩ hS0 hf0 (Stn.refl w0 X0)
    exact wpAny_sound ops.size t _ a0 w0 this
  unfold Region.schedule
  split
  · exact go _ _
  · exact go _ _

theorem fok (hT : TabOk P T) (k : Nat) : FOK P T (evF T k) := fok_all hT (draw_sound hT) k

end Go.Pi

/- Pi: what a run leans on. -/
namespace Go.Pi
open Go
variable {T : Tab} {fr fr' : Fr} {S S' : St} {v : AV} {m : Nat}

abbrev CF := Nat → List AV → St → Option (AV × St)
abbrev Use := Nat × List AV × St × (AV × St)
def Use.holds (x : Use) (F : CF) : Prop := F x.1 x.2.1 x.2.2.1 = some x.2.2.2

/-- A result that leans on some answers of F alone. -/
def Uses {β : Type} (G : CF → Option β) (r : β) (F : CF) : Prop := ∃ L : List Use, (∀ x ∈ L, x.holds F) ∧ ∀ F', (∀ x ∈ L, x.holds F') → G F' = some r

theorem Uses.none {β : Type} {G : CF → Option β} {r : β} {F : CF} (h : ∀ F', G F' = some r) : Uses G r F := ⟨[], by simp, fun F' _ => h F'⟩

theorem Uses.bind {α β : Type} {G : CF → Option α} {H : CF → α → Option β} {K : CF → Option β} {q : α} {r : β} {F : CF} (h1 : Uses G q F) (h2 : Uses (fun F => H F q) r F) (hK : ∀ F', G F' = some q → K F' = H F' q) : Uses K r F := by
  obtain ⟨L1, a1, b1⟩ := h1
  obtain ⟨L2, a2, b2⟩ := h2
  refine ⟨L1 ++ L2, fun x hx => ?_, fun F' hF' => ?_⟩
  · rcases List.mem_append.1 hx with hx | hx
    · exact a1 x hx
    · exact a2 x hx
  · rw [hK F' (b1 F' fun x hx => hF' x (List.mem_append_left _ hx))]
    exact b2 F' fun x hx => hF' x (List.mem_append_right _ hx)

theorem Uses.map {α β : Type} {G : CF → Option α} {K : CF → Option β} {q : α} {r : β} {F : CF} (h1 : Uses G q F) (hK : ∀ F', G F' = some q → K F' = some r) : Uses K r F := by
  obtain ⟨L1, a1, b1⟩ := h1
  exact ⟨L1, a1, fun F' hF' => hK F' (b1 F' hF')⟩

theorem uses_call {f : Nat} {args : List AV} {r : AV × St} {F : CF} (h : F f args S = some r) : Uses (fun F => F f args S) r F :=
  ⟨[(f, args, S, r)], fun x hx => by simp at hx; subst hx; exact h, fun F' hF' => hF' (f, args, S, r) (by simp)⟩

theorem uses_evCall {f : Nat} {args : List AV} {r : AV × St} {F : CF} (h : evCall T m F f args S = some r) : Uses (fun F => evCall T m F f args S) r F := by
  unfold evCall at h
  cases hfi : T.fn f with
  | none => rw [hfi] at h; cases h
  | some fi =>
    rw [hfi] at h
    simp only at h
    split at h
    · rename_i hk
      cases hra : rawAll S fi.pes args with
      | none => rw [hra] at h; cases h
      | some p =>
        obtain ⟨args', S1⟩ := p
        rw [hra] at h
        simp only at h
        cases hc : F f args' S1 with
        | none => rw [hc] at h; cases h
        | some q =>
          rw [hc] at h
          refine (uses_call hc).map fun F' hF' => ?_
          simp only [evCall, hfi, hk, hra, hF']
          exact h
    · rename_i hk
      split at h
      · rename_i hm
        cases hra : rawAll S fi.pes args with
        | none => rw [hra] at h; cases h
        | some p =>
          obtain ⟨args', S1⟩ := p
          rw [hra] at h
          simp only at h
          refine (uses_call h).map fun F' hF' => ?_
          simp only [evCall, hfi, hk, hra, hF', hm, if_true]
      · cases h
    · rename_i hk1 hk2
      cases hla : lendAll S fi.pes args with
      | none => rw [hla] at h; cases h
      | some args' =>
        rw [hla] at h
        simp only at h
        cases hc : F f args' [] with
        | none => rw [hc] at h; cases h
        | some q =>
          rw [hc] at h
          refine (uses_call hc).map fun F' hF' => ?_
          have e : evCall T m F' f args S = (match lendAll S fi.pes args with
            | none => none
            | some args' => match F' f args' [] with
              | none => none
              | some (res, S') => if fi.tree then
                  if S'.length = 0 then some (weak res, kill S (args.flatMap (idsDeep S)))
                  else if args.all (cleanArg S) then some (rebaseTop 0 S.length res, kill S (args.flatMap (idsDeep S)) ++ S')
                  else none
                else some (rebaseTop 0 S.length res, S ++ S')) := by
            unfold evCall
            rw [hfi]
            dsimp only
            generalize fi.kind = kk at hk1 hk2 ⊢
            match kk, hk1, hk2 with
            | 0, _, _ => rfl
            | 1, h, _ => exact (h rfl).elim
            | 2, _, h => exact (h rfl).elim
            | n + 3, _, _ => rfl
          rw [e, hla]
          simp only
          rw [hF']
          exact h

theorem uses_evCallFz {f : Nat} {args : List AV} {r : AV × St} {F : CF} (h : evCallFz T F f args S = some r) : Uses (fun F => evCallFz T F f args S) r F := by
  unfold evCallFz at h
  cases hfi : T.fn f with
  | none => rw [hfi] at h; cases h
  | some fi =>
    rw [hfi] at h
    simp only at h
    split at h
    · cases h
    rename_i hk
    cases hla : lendAll S fi.pes args with
    | none => rw [hla] at h; cases h
    | some args' =>
      rw [hla] at h
      simp only at h
      cases hc : F f args' [] with
      | none => rw [hc] at h; cases h
      | some q =>
        rw [hc] at h
        refine (uses_call hc).map fun F' hF' => ?_
        simp only [evCallFz, hfi, if_neg hk, hla, hF']
        exact h

theorem uses_evOp {Cf : CF → CF} (hC : ∀ {f args S r F}, Cf F f args S = some r → Uses (fun F => Cf F f args S) r F) {op : Op} {r : AV × St} {F : CF} (h : evOp T m (Cf F) op fr S = some r) : Uses (fun F => evOp T m (Cf F) op fr S) r F := by
  cases op with
  | call c =>
    cases hc : c.callee with
    | value x =>
      simp only [evOp, hc] at h
      cases hx : evO fr x with
      | none => rw [hx] at h; simp at h
      | some q =>
        cases hvs : evArgs fr c.args.toList with
        | none => rw [hx, hvs] at h; cases q <;> simp at h
        | some vs =>
          rw [hx, hvs] at h
          cases q with
          | fn f caps =>
            simp only at h
            refine (hC h).map fun F' hF' => ?_
            simp only [evOp, hc, hx, hvs]
            exact hF'
          | _ => simp at h
    | builtin b => exact .none fun F' => by simp only [evOp, hc] at h ⊢; exact h
    | invoke a b => exact .none fun F' => by simp only [evOp, hc] at h ⊢; exact h
  | makeFunc f first caps => cases f <;> exact .none fun F' => h
  | slice t x lo hi mx => cases mx <;> exact .none fun F' => h
  | _ => exact .none fun F' => h

theorem uses_evOps {Cf : CF → CF} (hC : ∀ {f args S r F}, Cf F f args S = some r → Uses (fun F => Cf F f args S) r F) {F : CF} : ∀ {l : List PO} {fr : Fr} {S : St} {r : Fr × St}, evOps T m (Cf F) l fr S = some r → Uses (fun F => evOps T m (Cf F) l fr S) r F := by
  intro l
  induction l with
  | nil => intro fr S r h; exact .none fun F' => h
  | cons o l ih =>
    intro fr S r h
    simp only [evOps] at h
    split at h
    · rename_i hw
      split at h
      · cases h
      · rename_i v S1 h1
        refine Uses.bind (G := fun F => evOp T m (Cf F) o.op fr S) (q := (v, S1)) (H := fun F q => evOps T m (Cf F) l (put fr o.dst q.1) q.2) (uses_evOp (Cf := Cf) hC h1) (ih h) fun F' hF' => ?_
        simp only [evOps, if_pos hw, hF']
    · rename_i hw
      refine (ih h).map fun F' hF' => ?_
      simp only [evOps, if_neg hw]
      exact hF'

theorem uses_norm {G : CF → Option (Fr × St)} {F : CF} (hG : ∀ {r}, G F = some r → Uses G r F) {r : Ex × Fr × St} (h : norm (G F) = some r) : Uses (fun F => norm (G F)) r F := by
  obtain ⟨ex, fr', S'⟩ := r
  obtain ⟨rfl, h1⟩ := norm_some h
  exact (hG h1).map fun F' hF' => by simp only [norm, hF']

theorem uses_evC {F : CF} : ∀ {k : Nat} {m : Nat} {c : PC} {fr : Fr} {S : St} {r : Ex × Fr × St}, evC T F k m c fr S = some r → Uses (fun F => evC T F k m c fr S) r F := by
  intro k
  induction k with
  | zero => intro m c fr S r h; simp [evC] at h
  | succ k ih =>
    intro m c fr S r h
    cases c with
    | reg l => simp only [evC] at h ⊢; exact uses_norm (G := fun F => evOps T m (evCall T m F) l fr S) (fun h => uses_evOps (Cf := fun F => evCall T m F) uses_evCall h) h
    | fz l => simp only [evC] at h ⊢; exact uses_norm (G := fun F => evOps T m (evCallFz T F) l fr S) (fun h => uses_evOps (Cf := fun F => evCallFz T F) uses_evCallFz h) h
    | seq a b =>
      simp only [evC] at h
      cases h1 : evC T F k m a fr S with
      | none => rw [h1] at h; cases h
      | some q =>
        refine (ih h1).bind (H := fun F q => match q with | (.normal, fr', S') => evC T F k m b fr' S' | q => some q) ?_ fun F' hF' => ?_
        · rw [h1] at h
          obtain ⟨ex, fr', S'⟩ := q
          cases ex with
          | normal => exact ih h
          | _ => exact .none fun F' => h
        · simp only [evC, hF']
          obtain ⟨ex, fr', S'⟩ := q
          cases ex <;> rfl
    | cond x a b =>
      simp only [evC] at h
      split at h
      · rename_i hx; exact (ih h).map fun F' hF' => by simp only [evC, hx]; exact hF'
      · rename_i hx; exact (ih h).map fun F' hF' => by simp only [evC, hx]; exact hF'
      · cases h
    | block id a =>
      simp only [evC] at h
      cases h1 : evC T F k m a fr S with
      | none => rw [h1] at h; cases h
      | some q =>
        rw [h1] at h
        exact (ih h1).map fun F' hF' => by simp only [evC, hF']; exact h
    | loop a =>
      simp only [evC] at h
      cases h1 : evC T F k m a fr S with
      | none => rw [h1] at h; cases h
      | some q =>
        refine (ih h1).bind (H := fun F q => match q with | (.normal, fr', S') => evC T F k m (.loop a) fr' S' | q => some q) ?_ fun F' hF' => ?_
        · rw [h1] at h
          obtain ⟨ex, fr', S'⟩ := q
          cases ex with
          | normal => exact ih h
          | _ => exact .none fun F' => h
        · simp only [evC, hF']
          obtain ⟨ex, fr', S'⟩ := q
          cases ex <;> rfl
    | _ => exact .none fun F' => by simp only [evC] at h ⊢; exact h

end Go.Pi

/- Pi: fuel-free. -/
namespace Go.Pi
open Go
variable {T : Tab} {fr fr' : Fr} {S S' : St} {v : AV} {m : Nat}

theorem evC_mono {F F' : CF} (hF : ∀ f a S r, F f a S = some r → F' f a S = some r) {k : Nat} {c : PC} {r : Ex × Fr × St} (h : evC T F k m c fr S = some r) : evC T F' k m c fr S = some r := by
  obtain ⟨L, h1, h2⟩ := uses_evC h
  exact h2 F' fun x hx => hF _ _ _ _ (h1 x hx)

theorem evC_step {F : CF} : ∀ {k : Nat} {m : Nat} {c : PC} {fr : Fr} {S : St} {r : Ex × Fr × St}, evC T F k m c fr S = some r → evC T F (k + 1) m c fr S = some r := by
  intro k
  induction k with
  | zero => intro m c fr S r h; simp [evC] at h
  | succ k ih =>
    intro m c fr S r h
    cases c with
    | seq a b =>
      simp only [evC] at h
      cases h1 : evC T F k m a fr S with
      | none => rw [h1] at h; cases h
      | some q =>
        rw [h1] at h
        have := ih h1
        simp only [evC] at this ⊢
        rw [this]
        obtain ⟨ex, fr', S'⟩ := q
        cases ex with
        | normal => exact ih h
        | _ => exact h
    | cond x a b =>
      simp only [evC] at h
      split at h
      · rename_i hx; have := ih h; simp only [evC, hx] at this ⊢; exact this
      · rename_i hx; have := ih h; simp only [evC, hx] at this ⊢; exact this
      · cases h
    | block id a =>
      simp only [evC] at h
      cases h1 : evC T F k m a fr S with
      | none => rw [h1] at h; cases h
      | some q =>
        rw [h1] at h
        have := ih h1
        simp only [evC] at this ⊢
        rw [this]
        exact h
    | loop a =>
      simp only [evC] at h
      cases h1 : evC T F k m a fr S with
      | none => rw [h1] at h; cases h
      | some q =>
        rw [h1] at h
        have := ih h1
        simp only [evC] at this ⊢
        rw [this]
        obtain ⟨ex, fr', S'⟩ := q
        cases ex with
        | normal => have := ih h; simp only [evC] at this; exact this
        | _ => exact h
    | _ => simp only [evC] at h ⊢; exact h

end Go.Pi

/- Pi: the limit. -/
namespace Go.Pi
open Go
variable {T : Tab} {fr fr' : Fr} {S S' : St} {v : AV} {m : Nat}

theorem evC_le {F : CF} {k k' : Nat} (hk : k ≤ k') {c : PC} {r : Ex × Fr × St} (h : evC T F k m c fr S = some r) : evC T F k' m c fr S = some r := by
  induction hk with
  | refl => exact h
  | step _ ih => exact evC_step ih

theorem evF_step : ∀ {k f : Nat} {a : List AV} {S : St} {r : AV × St}, evF T k f a S = some r → evF T (k + 1) f a S = some r := by
  intro k
  induction k with
  | zero => intro f a S r h; simp [evF] at h
  | succ k ih =>
    intro f a S r h
    rw [evF] at h ⊢
    cases hfi : T.fn f with
    | none => rw [hfi] at h; cases h
    | some fi =>
      rw [hfi] at h
      simp only at h ⊢
      split at h
      · rename_i hl
        rw [if_pos hl]
        cases h1 : evC T (evF T k) k (baseOf fi S) fi.body (args0 fi a) S with
        | none => rw [h1] at h; cases h
        | some q =>
          rw [h1] at h
          rw [evC_step (evC_mono (fun f a S r h => ih h) h1)]
          exact h
      · cases h

theorem evF_le {k k' f : Nat} (hk : k ≤ k') {a : List AV} {r : AV × St} (h : evF T k f a S = some r) : evF T k' f a S = some r := by
  induction hk with
  | refl => exact h
  | step _ ih => exact evF_step ih

open Classical in
/-- What function f does. -/
noncomputable def evFL (T : Tab) (f : Nat) (a : List AV) (S : St) : Option (AV × St) :=
  if h : ∃ k r, evF T k f a S = some r then some (Classical.choose (Classical.choose_spec h)) else none

theorem evFL_iff {f : Nat} {a : List AV} {r : AV × St} : evFL T f a S = some r ↔ ∃ k, evF T k f a S = some r := by
  unfold evFL
  constructor
  · intro h
    split at h
    · rename_i hex
      injection h with h
      subst h
      exact ⟨_, Classical.choose_spec (Classical.choose_spec hex)⟩
    · cases h
  · rintro ⟨k, hk⟩
    have hex : ∃ k r, evF T k f a S = some r := ⟨k, r, hk⟩
    rw [dif_pos hex]
    have h2 := Classical.choose_spec (Classical.choose_spec hex)
    have e1 := evF_le (Nat.le_max_left k (Classical.choose hex)) hk
    have e2 := evF_le (Nat.le_max_right k (Classical.choose hex)) h2
    rw [e1] at e2
    exact e2.symm

open Classical in
/-- What code does. -/
noncomputable def evCL (T : Tab) (m : Nat) (c : PC) (fr : Fr) (S : St) : Option (Ex × Fr × St) :=
  if h : ∃ k r, evC T (evFL T) k m c fr S = some r then some (Classical.choose (Classical.choose_spec h)) else none

theorem evCL_iff {c : PC} {r : Ex × Fr × St} : evCL T m c fr S = some r ↔ ∃ k, evC T (evFL T) k m c fr S = some r := by
  unfold evCL
  constructor
  · intro h
    split at h
    · rename_i hex
      injection h with h
      subst h
      exact ⟨_, Classical.choose_spec (Classical.choose_spec hex)⟩
    · cases h
  · rintro ⟨k, hk⟩
    have hex : ∃ k r, evC T (evFL T) k m c fr S = some r := ⟨k, r, hk⟩
    rw [dif_pos hex]
    have h2 := Classical.choose_spec (Classical.choose_spec hex)
    have e1 := evC_le (Nat.le_max_left k (Classical.choose hex)) hk
    have e2 := evC_le (Nat.le_max_right k (Classical.choose hex)) h2
    rw [e1] at e2
    exact e2.symm

/-- A run leans on finitely many calls. -/
theorem evC_fin {k : Nat} {c : PC} {r : Ex × Fr × St} (h : evC T (evFL T) k m c fr S = some r) : ∃ j, k ≤ j ∧ evC T (evF T j) j m c fr S = some r := by
  obtain ⟨L, h1, h2⟩ := uses_evC h
  have : ∃ j, ∀ x ∈ L, x.holds (evF T j) := by
    clear h2
    induction L with
    | nil => exact ⟨0, by simp⟩
    | cons x L ih =>
      obtain ⟨j, hj⟩ := ih fun y hy => h1 y (by simp [hy])
      obtain ⟨i, hi⟩ := evFL_iff.1 (h1 x (by simp))
      refine ⟨max i j, fun y hy => ?_⟩
      rcases List.mem_cons.1 hy with rfl | hy
      · exact evF_le (Nat.le_max_left _ _) hi
      · exact evF_le (Nat.le_max_right _ _) (hj y hy)
  obtain ⟨j, hj⟩ := this
  refine ⟨max k j, Nat.le_max_left _ _, evC_le (Nat.le_max_left k j) (h2 _ fun x hx => evF_le (Nat.le_max_right _ _) (hj x hx))⟩

theorem ext_some {α : Type} {x y : Option α} (h : ∀ r, x = some r ↔ y = some r) : x = y := by
  cases x with
  | none => cases y with
    | none => rfl
    | some r => exact absurd ((h r).2 rfl) (by simp)
  | some r => exact ((h r).1 rfl).symm

/-- A function's equation. -/
theorem evFL_eq {f : Nat} {fi : FnI} (hfi : T.fn f = some fi) {a : List AV} (hl : a.length ≤ fi.ntmps) : evFL T f a S = close T fi S (evCL T (baseOf fi S) fi.body (args0 fi a) S) := by
  apply ext_some
  intro r
  rw [evFL_iff]
  constructor
  · rintro ⟨k, hk⟩
    cases k with
    | zero => simp [evF] at hk
    | succ k =>
      rw [evF, hfi] at hk
      simp only [if_pos hl] at hk
      cases h1 : evC T (evF T k) k (baseOf fi S) fi.body (args0 fi a) S with
      | none => rw [h1] at hk; cases hk
      | some q =>
        rw [h1] at hk
        have : evCL T (baseOf fi S) fi.body (args0 fi a) S = some q := evCL_iff.2 ⟨k, evC_mono (fun f a S r h => evFL_iff.2 ⟨k, h⟩) h1⟩
        rw [this]
        exact hk
  · intro h
    cases h1 : evCL T (baseOf fi S) fi.body (args0 fi a) S with
    | none => rw [h1] at h; cases h
    | some q =>
      rw [h1] at h
      obtain ⟨k, hk⟩ := evCL_iff.1 h1
      obtain ⟨j, _, hj⟩ := evC_fin hk
      refine ⟨j + 1, ?_⟩
      rw [evF, hfi]
      simp only [if_pos hl, hj]
      exact h

end Go.Pi

/- Pi: the fuel-free evaluator's equations. -/
namespace Go.Pi
open Go
variable {P : Program} {T : Tab} {fr fr' : Fr} {S S' : St} {v : AV} {m : Nat}

theorem evCL_bad : evCL T m .bad fr S = none := by
  cases h : evCL T m .bad fr S with
  | none => rfl
  | some r => obtain ⟨k, hk⟩ := evCL_iff.1 h; cases k <;> simp [evC] at hk
theorem evCL_skip : evCL T m .skip fr S = some (.normal, fr, S) := evCL_iff.2 ⟨1, rfl⟩
theorem evCL_ret : evCL T m .ret fr S = some (.ret, fr, S) := evCL_iff.2 ⟨1, rfl⟩
theorem evCL_exit {id : Nat} : evCL T m (.exit id) fr S = some (.exit id, fr, S) := evCL_iff.2 ⟨1, rfl⟩

theorem evCL_reg {l : List PO} : evCL T m (.reg l) fr S = norm (evOps T m (evCall T m (evFL T)) l fr S) := by
  apply ext_some
  intro r
  rw [evCL_iff]
  constructor
  · rintro ⟨k, hk⟩
    cases k with
    | zero => simp [evC] at hk
    | succ k => simpa only [evC] using hk
  · intro h; exact ⟨1, by simpa only [evC] using h⟩

theorem evCL_fz {l : List PO} : evCL T m (.fz l) fr S = norm (evOps T m (evCallFz T (evFL T)) l fr S) := by
  apply ext_some
  intro r
  rw [evCL_iff]
  constructor
  · rintro ⟨k, hk⟩
    cases k with
    | zero => simp [evC] at hk
    | succ k => simpa only [evC] using hk
  · intro h; exact ⟨1, by simpa only [evC] using h⟩

/-- And then. -/
def andThen (r : Option (Ex × Fr × St)) (K : Fr → St → Option (Ex × Fr × St)) : Option (Ex × Fr × St) :=
  match r with
  | some (.normal, fr, S) => K fr S
  | r => r

theorem evCL_seq {a b : PC} : evCL T m (.seq a b) fr S = andThen (evCL T m a fr S) (evCL T m b) := by
  apply ext_some
  intro r
  rw [evCL_iff]
  constructor
  · rintro ⟨k, hk⟩
    cases k with
    | zero => simp [evC] at hk
    | succ k =>
      simp only [evC] at hk
      cases h1 : evC T (evFL T) k m a fr S with
      | none => rw [h1] at hk; cases hk
      | some q =>
        rw [h1] at hk
        rw [evCL_iff.2 ⟨k, h1⟩]
        obtain ⟨ex, fr1, S1⟩ := q
        cases ex with
        | normal => exact evCL_iff.2 ⟨k, hk⟩
        | _ => exact hk
  · intro h
    cases h1 : evCL T m a fr S with
    | none => rw [h1] at h; cases h
    | some q =>
      rw [h1] at h
      obtain ⟨k, hk⟩ := evCL_iff.1 h1
      obtain ⟨ex, fr1, S1⟩ := q
      cases ex with
      | normal =>
        obtain ⟨k2, hk2⟩ := evCL_iff.1 (show evCL T m b fr1 S1 = some r from h)
        refine ⟨max k k2 + 1, ?_⟩
        simp only [evC, evC_le (Nat.le_max_left k k2) hk]
        exact evC_le (Nat.le_max_right k k2) hk2
      | exit id => exact ⟨k + 1, by simp only [evC, hk]; exact h⟩
      | ret => exact ⟨k + 1, by simp only [evC, hk]; exact h⟩

theorem evCL_loop {a : PC} : evCL T m (.loop a) fr S = andThen (evCL T m a fr S) (evCL T m (.loop a)) := by
  apply ext_some
  intro r
  rw [evCL_iff]
  constructor
  · rintro ⟨k, hk⟩
    cases k with
    | zero => simp [evC] at hk
    | succ k =>
      simp only [evC] at hk
      cases h1 : evC T (evFL T) k m a fr S with
      | none => rw [h1] at hk; cases hk
      | some q =>
        rw [h1] at hk
        rw [evCL_iff.2 ⟨k, h1⟩]
        obtain ⟨ex, fr1, S1⟩ := q
        cases ex with
        | normal => exact evCL_iff.2 ⟨k, hk⟩
        | _ => exact hk
  · intro h
    cases h1 : evCL T m a fr S with
    | none => rw [h1] at h; cases h
    | some q =>
      rw [h1] at h
      obtain ⟨k, hk⟩ := evCL_iff.1 h1
      obtain ⟨ex, fr1, S1⟩ := q
      cases ex with
      | normal =>
        obtain ⟨k2, hk2⟩ := evCL_iff.1 (show evCL T m (.loop a) fr1 S1 = some r from h)
        refine ⟨max k k2 + 1, ?_⟩
        simp only [evC, evC_le (Nat.le_max_left k k2) hk]
        exact evC_le (Nat.le_max_right k k2) hk2
      | exit id => exact ⟨k + 1, by simp only [evC, hk]; exact h⟩
      | ret => exact ⟨k + 1, by simp only [evC, hk]; exact h⟩

def inBlock (id : Nat) (r : Option (Ex × Fr × St)) : Option (Ex × Fr × St) :=
  match r with
  | some (.exit i, fr, S) => if i = id then some (.normal, fr, S) else some (.exit i, fr, S)
  | r => r

theorem evCL_block {id : Nat} {a : PC} : evCL T m (.block id a) fr S = inBlock id (evCL T m a fr S) := by
  apply ext_some
  intro r
  rw [evCL_iff]
  constructor
  · rintro ⟨k, hk⟩
    cases k with
    | zero => simp [evC] at hk
    | succ k =>
      simp only [evC] at hk
      cases h1 : evC T (evFL T) k m a fr S with
      | none => rw [h1] at hk; cases hk
      | some q =>
        rw [h1] at hk
        rw [evCL_iff.2 ⟨k, h1⟩]
        exact hk
  · intro h
    cases h1 : evCL T m a fr S with
    | none => rw [h1] at h; cases h
    | some q =>
      rw [h1] at h
      obtain ⟨k, hk⟩ := evCL_iff.1 h1
      exact ⟨k + 1, by simp only [evC, hk]; exact h⟩

theorem evCL_cond {x : Operand} {a b : PC} : evCL T m (.cond x a b) fr S = (match evO fr x with | some (.bool c) => (if c then evCL T m a fr S else evCL T m b fr S) | _ => none) := by
  apply ext_some
  intro r
  rw [evCL_iff]
  constructor
  · rintro ⟨k, hk⟩
    cases k with
    | zero => simp [evC] at hk
    | succ k =>
      simp only [evC] at hk
      split at hk
      · rename_i hx; rw [hx]; exact evCL_iff.2 ⟨k, hk⟩
      · rename_i hx; rw [hx]; exact evCL_iff.2 ⟨k, hk⟩
      · cases hk
  · intro h
    split at h
    · rename_i c hx
      cases c with
      | true => obtain ⟨k, hk⟩ := evCL_iff.1 (show evCL T m a fr S = some r from h); exact ⟨k + 1, by simp only [evC, hx]; exact hk⟩
      | false => obtain ⟨k, hk⟩ := evCL_iff.1 (show evCL T m b fr S = some r from h); exact ⟨k + 1, by simp only [evC, hx]; exact hk⟩
    · cases h

/-- The fuel-free evaluator is sound. -/
theorem fokL (hT : TabOk P T) : FOK P T (evFL T) := by
  intro f args S0 res S' h
  obtain ⟨k, hk⟩ := evFL_iff.1 h
  exact fok hT k f args S0 res S' hk

end Go.Pi

/- Pi: a table of types, checked by running. -/
namespace Go.Pi
open Go
variable {P : Program} {T : Tab}

/-- The same plain value? -/
def sameZ : Value → AV → Bool
  | .int k n, .int k' n' => decide (k = k') && decide (n = n')
  | .bool b, .bool b' => b == b'
  | .string s, .str s' => s.toList.isEmpty && s'.toList.isEmpty && decide (s.size = 0) && decide (s'.size = 0)
  | .slice none 0 0, .nil => true
  | .pointer none, .nilp => true
  | _, _ => false

def sameZs : List Value → List AV → Bool
  | [], [] => true
  | v :: r, a :: s => sameZ v a && sameZs r s
  | _, _ => false

theorem bytes_empty {s : ByteArray} (h : s.size = 0) : s = ByteArray.empty := by
  cases s with
  | mk d =>
    have : d = #[] := Array.eq_empty_of_size_eq_zero h
    subst this
    rfl

theorem sameZ_ok {v : Value} {a : AV} (h : sameZ v a = true) : v = zOf a ∧ zOk a = true := by
  unfold sameZ at h
  split at h
  · simp only [Bool.and_eq_true, decide_eq_true_eq] at h
    obtain ⟨rfl, rfl⟩ := h
    exact ⟨rfl, rfl⟩
  · simp only [beq_iff_eq] at h; subst h; exact ⟨rfl, rfl⟩
  · simp only [Bool.and_eq_true, decide_eq_true_eq] at h
    refine ⟨?_, rfl⟩
    rw [bytes_empty h.1.2, zOf, bytes_empty h.2]
  · exact ⟨rfl, rfl⟩
  · exact ⟨rfl, rfl⟩
  · cases h

theorem sameZs_ok : ∀ {vs : List Value} {as : List AV}, sameZs vs as = true → vs = as.map zOf ∧ as.all zOk = true := by
  intro vs
  induction vs with
  | nil => intro as h; cases as with
    | nil => exact ⟨rfl, rfl⟩
    | cons => simp [sameZs] at h
  | cons v vs ih => intro as h; cases as with
    | nil => simp [sameZs] at h
    | cons a as =>
      simp only [sameZs, Bool.and_eq_true] at h
      obtain ⟨h1, h2⟩ := ih h.2
      obtain ⟨h3, h4⟩ := sameZ_ok h.1
      exact ⟨by rw [h1, h3]; rfl, by simp [h2, h4]⟩

def chkField (P : Program) (f : Field) (x : Nat × Nat × Bool) : Bool :=
  match P.info? f.type, P.underlying f.type with
  | some i, some d => decide (x = (f.offset, i.size, isAggD d))
  | _, _ => false
def chkFields (P : Program) : List Field → List (Nat × Nat × Bool) → Bool
  | [], [] => true
  | f :: r, x :: s => chkField P f x && chkFields P r s
  | _, _ => false

def tyChk (P : Program) (t : Nat) (ti : TyI) : Bool :=
  (match P.info? t, P.underlying t with
   | some i, some d => decide (isAggD d = ti.agg) && decide (i.size = ti.size) && decide (i.bytes = ti.bytes) &&
      (match i.zero with
       | some (.agg cs) => ti.agg && sameZs cs.toList ti.zero
       | some zv => !ti.agg && sameZs zv.cells.toList ti.zero
       | none => false) &&
      (decide (ti.elem = 0) || (match d with | .slice e => decide (e = ti.elem) | _ => false)) &&
      (ti.fields.isEmpty || (match d with | .struct fs => chkFields P fs.toList ti.fields | _ => false)) &&
      (match ti.base with
       | .other => true
       | .int k => (match d with | .int k' => decide (k' = k) | _ => false)
       | .bool => (match d with | .bool => true | _ => false)
       | .str => (match d with | .string => true | _ => false))
   | _, _ => false) &&
  decide (ti.zero.length = ti.size) && decide (ti.es.length = ti.size) && (ti.agg || decide (ti.size = 1)) && !ti.cmp

theorem chkFields_ok : ∀ {fs : List Field} {xs : List (Nat × Nat × Bool)}, chkFields P fs xs = true → fs.length = xs.length ∧ ∀ (j : Nat) (f : Field), fs[j]? = some f → ∃ i d, P.info? f.type = some i ∧ P.underlying f.type = some d ∧ xs[j]? = some (f.offset, i.size, isAggD d) := by
  intro fs
  induction fs with
  | nil => intro xs h; cases xs with
    | nil => exact ⟨rfl, fun j f hj => by simp at hj⟩
    | cons => simp [chkFields] at h
  | cons f fs ih => intro xs h; cases xs with
    | nil => simp [chkFields] at h
    | cons x xs =>
      simp only [chkFields, Bool.and_eq_true] at h
      obtain ⟨h1, h2⟩ := ih h.2
      refine ⟨by simp [h1], fun j g hj => ?_⟩
      cases j with
      | zero =>
        simp at hj
        subst hj
        have h0 := h.1
        unfold chkField at h0
        split at h0
        · rename_i i d hi hd
          simp only [decide_eq_true_eq] at h0
          exact ⟨i, d, hi, hd, by simp [h0]⟩
        · cases h0
      | succ j => simpa using h2 j g (by simpa using hj)

theorem tyChk_ok {t : Nat} {ti : TyI} (h : tyChk P t ti = true) : TyOk P t ti := by
  unfold tyChk at h
  simp only [Bool.and_eq_true, Bool.or_eq_true, decide_eq_true_eq, Bool.not_eq_true'] at h
  obtain ⟨⟨⟨⟨h1, hzl⟩, hel⟩, hag⟩, hcmp⟩ := h
  split at h1
  · rename_i i d hi hd
    simp only [Bool.and_eq_true, Bool.or_eq_true, decide_eq_true_eq] at h1
    obtain ⟨⟨⟨⟨⟨⟨ha, hs⟩, hb⟩, hz⟩, he⟩, hf⟩, hba⟩ := h1
    have hz' : ∃ zv, i.zero = some zv ∧ sameZs zv.cells.toList ti.zero = true ∧ (ti.agg = true → zv = .agg zv.cells) := by
      split at hz
      · rename_i cs hcs
        simp only [Bool.and_eq_true] at hz
        exact ⟨_, hcs, hz.2, fun _ => rfl⟩
      · rename_i zv hne hzv
        simp only [Bool.and_eq_true, Bool.not_eq_true'] at hz
        exact ⟨zv, hzv, hz.2, fun h => by rw [h] at hz; cases hz.1⟩
      · cases hz
    obtain ⟨zv, hzv, hzs, hza⟩ := hz'
    obtain ⟨k1, k2⟩ := sameZs_ok hzs
    refine ⟨⟨i, zv, d, hi, hd, ha, hs, hb, hzv, k1, hza⟩, k2, hzl, hel, fun h => ?_, fun hne => ?_, fun hne => ?_, ?_, fun hc => ?_⟩
    · rw [h] at hag; simpa using hag
    · rcases he with he | he
      · exact absurd he hne
      · split at he
        · simp only [decide_eq_true_eq] at he; subst he; exact hd
        · cases he
    · rcases hf with hf | hf
      · simp at hf; exact absurd hf hne
      · split at hf
        · rename_i fs
          obtain ⟨q1, q2⟩ := chkFields_ok hf
          exact ⟨fs, hd, by simpa using q1, fun j f hj => q2 j f (by simpa using hj)⟩
        · cases hf
    · cases hbb : ti.base with
      | other => trivial
      | int k =>
        rw [hbb] at hba
        simp only at hba ⊢
        split at hba
        · simp only [decide_eq_true_eq] at hba; subst hba; exact hd
        · cases hba
      | bool =>
        rw [hbb] at hba
        simp only at hba ⊢
        split at hba
        · exact hd
        · cases hba
      | str =>
        rw [hbb] at hba
        simp only at hba ⊢
        split at hba
        · exact hd
        · cases hba
    · rw [hcmp] at hc; cases hc
  · cases h1

end Go.Pi
