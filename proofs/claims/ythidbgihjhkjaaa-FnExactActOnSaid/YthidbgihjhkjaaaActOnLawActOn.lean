/- no condition -/
import Derived.Test.YthidbgihjhkjaaaActOnStdActOn
set_option linter.all false
namespace Go.Pi.Ythidbgihjhkjaaa.ActOn
open Go Go.Pi
theorem p75 (a x y : Int) : m75 a x y = some (decide (x ≤ a ∧ a ≤ y)) := by
 simp only [m75, m75_1, bnd_ok, br_bool]
 rw [Option.some.injEq, Bool.eq_iff_iff, decide_eq_true_eq]
 simp only [Bool.and_eq_true, Bool.or_eq_true, Bool.not_eq_true', leI_iff, ltI_iff, leI_not, and_false, or_false, Bool.false_eq_true]
theorem p71 (a x y : Int) : m71 a x y = some (decide (x ≤ a ∧ a ≤ y)) := p75 a x y
theorem p33 (p : Prefix) : ∃ b, m33 p = some b ∧ m37 p = some b := by
 simp only [m33, m33_1, m37, m37_1, m72, m76, m73, m77, p71, p75, bnd_ok]
 by_cases c : 0 ≤ p.len ∧ p.len ≤ 32
 · have e1 : wsub .i64 32 p.len = 32 - p.len := wsub64 (by omega) (by omega)
   have e2 : wcv .u64 (32 - p.len) = 32 - p.len := by simp [wcv, IntKind.wrap, IntKind.bits, IntKind.signed]; omega
   obtain ⟨k, hk⟩ : ∃ k : Nat, 32 - p.len = (k : Int) := ⟨(32 - p.len).toNat, by omega⟩
   have hk2 : k ≤ 32 := by omega
   have e3 : wshl .i64 1 (k : Int) = ((2 ^ k : Nat) : Int) := by
    have h2 : (2 ^ k : Nat) ≤ 4294967296 := by have := Nat.pow_le_pow_right (n := 2) (by omega) hk2; simpa using this
    unfold wshl
    have : min (k : Int).toNat IntKind.i64.bits = k := by simp [IntKind.bits]; omega
    rw [this, Int.one_mul]
    have e : ((2 : Int) ^ k) = ((2 ^ k : Nat) : Int) := by simp
    rw [e]
    generalize (2 ^ k : Nat) = z at h2
    exact w64 (by omega) (by omega)
   have h3 : ¬ ((2 ^ k : Nat) : Int) = 0 := by
    have := Nat.pow_pos (n := k) (show 0 < 2 by omega)
    generalize (2 ^ k : Nat) = z at this
    omega
   rw [decide_eq_true c, br_true, br_true, e1, e2, hk, ck_ok (show ¬ (k : Int) < 0 by omega), bnd_ok, e3, ck_ok h3]
   cases decide (0 ≤ p.addr ∧ p.addr ≤ 4294967295) <;> exact ⟨_, rfl, rfl⟩
 · rw [decide_eq_false c]; exact ⟨_, rfl, rfl⟩
noncomputable def okP (p : Prefix) : Bool := (m33 p).getD false
theorem p33' (p : Prefix) : m33 p = some (okP p) ∧ m37 p = some (okP p) := by
 obtain ⟨b, h1, h2⟩ := p33 p
 unfold okP; rw [h1, h2]; exact ⟨rfl, rfl⟩
def okAct (a : Acn) : Bool := decide ((1 ≤ a.kind ∧ a.kind ≤ 4 ∧ 0 ≤ a.n ∧ a.n ≤ 1000000) ∨ (a.kind = 5 ∧ 1 ≤ a.n ∧ a.n ≤ 65535))
theorem p48 (a : Acn) : m48 a = some (okAct a) := by
 simp only [m48, m48_1, m48_2, m48_3, m48_4, p71, bnd_ok, br_bool, okAct]
 rw [Option.some.injEq, Bool.eq_iff_iff]
 simp only [Bool.and_eq_true, Bool.or_eq_true, Bool.not_eq_true', decide_eq_true_eq, eqI_iff, eqI_not, Bool.or_eq_false_iff, Bool.and_eq_false_iff, and_false, or_false, Bool.false_eq_true]
 omega
theorem p50 (a : Acn) : m50 a = some (okAct a) := by
 simp only [m50, m50_1, m50_2, m50_3, m79, m91, p75, bnd_ok, br_bool, okAct]
 rw [Option.some.injEq, Bool.eq_iff_iff]
 simp only [Bool.and_eq_true, Bool.or_eq_true, Bool.not_eq_true', decide_eq_true_eq, eqI_iff, eqI_not, Bool.or_eq_false_iff, Bool.and_eq_false_iff, and_false, or_false, Bool.false_eq_true]
 omega
def ar (k : Int) : Int := if 1 ≤ k ∧ k ≤ 4 then 0 else if k = 5 ∨ k = 6 then 2 else if k = 7 then 1 else -1
def Ev {α : Type} (f : Nat → Option α) (r : α) : Prop := ∃ N, ∀ j, N ≤ j → f j = some r
theorem w11 : wadd .i64 1 1 = 2 := by decide
inductive Rtc (R : Nat → Nat → Prop) : Nat → Nat → Prop where
 | refl (i : Nat) : Rtc R i i
 | head {i k j : Nat} : R i k → Rtc R k j → Rtc R i j
theorem Rtc.trans {R : Nat → Nat → Prop} {i j k : Nat} (h : Rtc R i j) (g : Rtc R j k) : Rtc R i k := by
 induction h with
 | refl => exact g
 | head h _ ih => exact .head h (ih g)
theorem Rtc.le {R : Nat → Nat → Prop} (hR : ∀ i j, R i j → i ≤ j) {i j : Nat} (h : Rtc R i j) : i ≤ j := by
 induction h with
 | refl => exact Nat.le_refl _
 | head h _ ih => exact Nat.le_trans (hR _ _ h) ih
theorem Rtc.len {R : Nat → Nat → Prop} {n : Nat} (hR : ∀ i j, R i j → i ≤ n → j ≤ n) {i j : Nat} (h : Rtc R i j) : i ≤ n → j ≤ n := by
 induction h with
 | refl => exact id
 | head h _ ih => exact fun hi => ih (hR _ _ h hi)
theorem Rtc.first {R : Nat → Nat → Prop} (hR : ∀ i j, R i j → i ≤ j) {i j : Nat} (h : Rtc R i j) : i < j → ∃ k, i < k ∧ R i k ∧ Rtc R k j := by
 induction h with
 | refl => intro h; exact absurd h (Nat.lt_irrefl _)
 | head h g ih =>
  intro hl
  rename_i i k j
  by_cases c : k = i
  · subst c; exact ih hl
  · have := hR _ _ h; exact ⟨k, by omega, h, g⟩
theorem Rtc.congr {R S : Nat → Nat → Prop} (h : ∀ i j, R i j ↔ S i j) (i j : Nat) : Rtc R i j ↔ Rtc S i j := by
 constructor
 · intro g; induction g with
   | refl => exact .refl _
   | head g _ ih => exact .head ((h _ _).1 g) ih
 · intro g; induction g with
   | refl => exact .refl _
   | head g _ ih => exact .head ((h _ _).2 g) ih
def accC (f : Nat → Nat) : Nat → Nat
 | 0 => f 0
 | j + 1 => accC f j + 1 + f (j + 1)
def accS (g : Nat → Nat) : Nat → Nat
 | 0 => 0
 | 1 => 1 + g 0
 | j + 2 => accS g (j + 1) + 1 + (1 + g (j + 1) + accS g (j + 1))
def tabU : List (List Nat) := [[],
 [1, 1, 1, 1, 1, 1, 1, 1, 1, 1, 1],
 [2, 4, 9, 19, 39, 79, 159, 319, 639, 1279, 2559],
 [3, 8, 22, 55, 131, 303, 687, 1535, 3391, 7423, 16127],
 [4, 13, 41, 116, 309, 791, 1967, 4783, 11423, 26879, 62463],
 [5, 19, 67, 210, 614, 1711, 4599, 12015, 30671, 76799, 189183],
 [6, 26, 101, 346, 1097, 3292, 9473, 26363, 71383, 188895, 490175],
 [7, 34, 144, 534, 1820, 5836, 17854, 52599, 150219, 417951, 1137183],
 [8, 43, 197, 785, 2857, 9731, 31481, 97708, 293037, 853807, 2426847],
 [9, 53, 261, 1111, 4295, 15465, 52681, 171590, 538510, 1637791, 4848623],
 [10, 64, 337, 1525, 6235, 23641, 84499, 287908, 942737, 2984756, 9180345],
 [11, 76, 426, 2041, 8793, 34993, 130845, 465100, 1585030, 5212080, 16619750],
 [12, 89, 529, 2674, 12101, 50403, 196659, 727574, 2575079, 8777209, 28962089],
 [13, 103, 647, 3440, 16308, 70919, 288095, 1107106, 4061718, 14325567, 48836015],
 [14, 118, 781, 4356, 21581, 97774, 412725, 1644462, 6243537, 22750924, 80012297],
 [15, 134, 932, 5440, 28106, 132406, 579764, 2391266, 9381608, 35270604, 127802582],
 [16, 151, 1101, 6711, 36089, 176479, 800317, 3412137, 13814617, 53518231, 199568441],
 [17, 169, 1289, 8189, 45757, 231905, 1087649, 4787119, 19976719, 79657053, 305364317],
 [18, 188, 1497, 9895, 57359, 300867, 1457479, 6614429, 28418459, 116517253, 458741771],
 [19, 208, 1726, 11851, 71167, 385843, 1928299, 9013549, 39831129, 167761053, 677746625],
 [20, 229, 1977, 14080, 87477, 489631, 2521719, 12128689, 55074959, 238079843, 986145259],
 [21, 251, 2251, 16606, 106610, 615375, 3262839, 16132649, 75211569, 333428023, 1414921463],
 [22, 274, 2549, 19454, 128913, 766592, 4180649, 21231109, 101541139, 461298733, 2004090907],
 [23, 298, 2872, 22650, 154760, 947200, 5308458, 27667377, 135644785, 631047165, 2804886505],
 [24, 323, 3221, 26221, 184553, 1161547, 6684353, 35727626, 179432661, 854267703, 3882374747],
 [25, 349, 3597, 30195, 218723, 1414441, 8351689, 45746652, 235198340, 1145231723, 5318570491],
 [26, 376, 4001, 34601, 257731, 1711181, 10359611, 58114186, 305680061, 1521393506, 7216125781],
 [27, 404, 4434, 39469, 302069, 2057589, 12763609, 73281794, 394129464, 2003972374, 9702677024],
 [28, 433, 4897, 44830, 352261, 2460043, 15626107, 91770400, 504388471, 2618619853, 12935944357],
 [29, 463, 5391, 50716, 408864, 2925511, 19017087, 114178468, 640975008, 3396181399, 17109687303],
 [30, 494, 5917, 57160, 472469, 3461586, 23014749, 141190880, 809178301, 4373562994, 22460631893]]
def U (n j : Nat) : Nat := (tabU.getD n []).getD j 0
def catOk (n m j : Nat) : Bool := decide (1 + U n j + accC (U m) j ≤ U (n + m + 1) j) && decide (1 + U n j + U m j ≤ U (n + m + 1) j)
def putF : List Int → Int → List Int
 | [], n => [n]
 | x :: l, n => if x < n then x :: putF l n else if x = n then x :: l else n :: x :: l
theorem putF_len (n : Int) : ∀ l : List Int, l.length ≤ (putF l n).length ∧ (putF l n).length ≤ l.length + 1 ∧ ((putF l n).length = l.length → putF l n = l) := by
 intro l
 induction l with
 | nil => simp [putF]
 | cons x l ih =>
  simp only [putF]
  split
  · obtain ⟨h1, h2, h3⟩ := ih
    simp only [List.length_cons]
    exact ⟨by omega, by omega, fun h => by rw [h3 (by omega)]⟩
  split
  · exact ⟨Nat.le_refl _, by omega, fun _ => rfl⟩
  · simp only [List.length_cons]; exact ⟨by omega, by omega, fun h => by omega⟩
theorem putF_split (n : Int) : ∀ l : List Int, ∃ t d, l = t ++ d ∧ (∀ y ∈ t, y < n) ∧ (∀ x r, d = x :: r → ¬ x < n) ∧ putF l n = if d.head? = some n then l else t ++ n :: d := by
 intro l
 induction l with
 | nil => exact ⟨[], [], rfl, by simp, by simp, rfl⟩
 | cons x l ih =>
  simp only [putF]
  split
  · rename_i c
    obtain ⟨t, d, h1, h2, h3, h4⟩ := ih
    refine ⟨x :: t, d, by rw [h1]; rfl, ?_, h3, ?_⟩
    · intro y hy
      rcases List.mem_cons.1 hy with h | h
      · rw [h]; exact c
      · exact h2 y h
    · rw [h4]; split <;> rfl
  · rename_i c
    refine ⟨[], x :: l, rfl, by simp, fun a b h => by cases h; exact c, ?_⟩
    simp only [List.head?_cons, Option.some.injEq]
    rfl
theorem p90 (l : List Int) (n : Int) (hl : l.length ≤ 1000000) : m90 l n = some (putF l n) := by
 obtain ⟨t, d, e, ht, hd, hp⟩ := putF_split n l
 have hlen : l.length = t.length + d.length := by rw [e, List.length_append]
 have lp : ∀ (t2 t1 : List Int), t = t1 ++ t2 → loopP (m90_1b n l) (t1.length : Int) = some (t.length : Int) := by
  intro t2
  induction t2 with
  | nil =>
   intro t1 h
   rw [List.append_nil] at h
   subst h
   refine loopP_out ?_
   simp only [m90_1b, m90_3]
   cases d with
   | nil => rw [(ltI_not _ _).2 (by simp at hlen; omega)]; rfl
   | cons x r =>
    have hx := hd x r rfl
    rw [(ltI_iff _ _).2 (by simp at hlen; omega), br_true, idx_nat, e, List.getElem?_append_right (Nat.le_refl _), Nat.sub_self, List.getElem?_cons_zero, bnd_ok, (ltI_not x n).2 (by omega), bnd_ok, br_false]
  | cons y r ih =>
   intro t1 h
   have h1 : t.length = t1.length + (r.length + 1) := by rw [h]; simp
   have hy := ht y (by rw [h]; simp)
   have hlt : t1.length < l.length := by omega
   have hget : l[t1.length] = y := by simp [e, h]
   have hs := wsucc (i := t1.length) (n := l.length) hlt (by omega)
   rw [loopP_nxt (s' := (((t1 ++ [y]).length : Nat) : Int))]
   · exact ih (t1 ++ [y]) (by simp [h])
   · simp only [m90_1b, m90_3]
     rw [(ltI_iff _ _).2 (by omega), br_true, idx_get hlt, bnd_ok, hget, (ltI_iff y n).2 hy, bnd_ok, br_true, hs]
     simp
 have l0 : loopP (m90_1b n l) 0 = some (t.length : Int) := lp t [] rfl
 have e4 : m90_4 n (t.length : Int) l = some (decide (d.head? = some n)) := by
  unfold m90_4
  cases d with
  | nil => rw [(ltI_not _ _).2 (by simp at hlen; omega)]; rfl
  | cons x r =>
   rw [(ltI_iff _ _).2 (by simp at hlen; omega), br_true, idx_nat, e, List.getElem?_append_right (Nat.le_refl _), Nat.sub_self, List.getElem?_cons_zero, bnd_ok]
   simp [eqI]
 have tk : l.take t.length = t := by rw [e]; simp
 have dr : l.drop t.length = d := by rw [e]; simp
 unfold m90
 rw [l0, bnd_ok, e4, bnd_ok, hp]
 by_cases c : d.head? = some n
 · rw [decide_eq_true c, br_true, if_pos c]
 · rw [decide_eq_false c, br_false, if_neg c]
   rw [Int.toNat_natCast, tk, dr]
   rw [ck_ok (by omega), ck_ok (by omega), ck_ok (by omega), ck_ok (by omega), ck_ok (by simp; omega)]
   rw [List.take_of_length_le (by omega)]
   simp
def okPath (p : List Int) : Bool := decide (p.length ≤ 10) && p.all fun x => decide (1 ≤ x ∧ x ≤ 65535)
def inB (x lo hi : Int) : Bool := leI lo x && leI x hi
theorem p71B (x lo hi : Int) : m71 x lo hi = some (inB x lo hi) := by simp [m71, m71_1, inB]
theorem p75B (x lo hi : Int) : m75 x lo hi = some (inB x lo hi) := by simp [m75, m75_1, inB]
def pathB (xs : List Int) : Bool := allN xs.length (atB xs (fun x => inB x 1 65535))
def commsB (xs : List Int) : Bool := allN xs.length (fun k => match xs[k]? with | some x => inB x 0 1000000 && !(ltI 0 k && leI x (xs.getD (k - 1) 0)) | none => false)
theorem loop49_1 (a : Attrs) (h : smLInt a.path) : loopP (m34_1b a (a.path.length : Int)) 0 = some (if pathB a.path = true then .inl () else .inr ()) := by
 unfold smLInt at h
 refine loop_all _ _ _ _ (fun k hk => ?_) ?_
 · simp only [m34_1b, (ltI_iff _ _).2 (Int.ofNat_lt.2 hk), br_true, idx_get hk, bnd_ok, p71B, wsucc hk (by omega), atB_get hk, br_some, if_true]
 · simp only [m34_1b, (ltI_not _ _).2 (Int.le_refl _), br_false]
theorem p34_4 (k : Nat) (x : Int) (a : Attrs) (hk : k < a.comms.length) (h : smLInt a.comms) : m34_4 (k : Int) x a = some (!(inB x 0 1000000 && !(ltI 0 k && leI x (a.comms.getD (k - 1) 0)))) := by
 unfold smLInt at h
 simp only [m34_4, p71B, bnd_ok]
 cases inB x 0 1000000 with
 | false => rfl
 | true =>
  by_cases h0 : 0 < k
  · have hp : k - 1 < a.comms.length := by omega
    simp [(ltI_iff 0 (k : Int)).2 (by omega), wpred hk h0 (by omega), idx_get hp, List.getElem?_eq_getElem hp]
  · obtain rfl : k = 0 := by omega
    rfl
theorem loop49_2 (a : Attrs) (h : smLInt a.comms) : loopP (m34_2b a (a.comms.length : Int)) 0 = some (if commsB a.comms = true then .inl () else .inr ()) := by
 have h' := h
 unfold smLInt at h
 refine loop_all _ _ _ _ (fun k hk => ?_) ?_
 · simp only [m34_2b, (ltI_iff _ _).2 (Int.ofNat_lt.2 hk), br_true, idx_get hk, bnd_ok, p34_4 k _ a hk h', wsucc hk (by omega), List.getElem?_eq_getElem hk, br_some, if_true, ite_bnot]
 · simp only [m34_2b, (ltI_not _ _).2 (Int.le_refl _), br_false]
def attrsB (a : Attrs) : Bool := inB a.origin 0 2 && leI (a.path.length : Int) 10 && inB a.next 0 4294967295 && inB a.med 0 1000000 && inB a.pref 0 1000000 && leI (a.comms.length : Int) 6 && pathB a.path && commsB a.comms
theorem p34 (a : Attrs) (h : smAttrs a) : m34 a = some (attrsB a) := by
 obtain ⟨_, h1, _, _, _, h5⟩ := h
 simp only [m34, loop49_1 a h1, loop49_2 a h5, bnd_ok, m34_5, m72, p71B, attrsB]
 cases pathB a.path with
 | false => simp
 | true =>
  cases commsB a.comms with
  | false => simp
  | true => simp [br_and, Bool.and_assoc]
theorem p80_3 (k : Nat) (x : Int) (xs : List Int) (hk : k < xs.length) (h : smLInt xs) : m80_3 xs (k : Int) x = some (!(inB x 0 1000000 && !(ltI 0 k && leI x (xs.getD (k - 1) 0)))) := by
 unfold smLInt at h
 simp only [m80_3, m79, p75B, bnd_ok]
 cases inB x 0 1000000 with
 | false => rfl
 | true =>
  by_cases h0 : 0 < k
  · have hp : k - 1 < xs.length := by omega
    simp [(ltI_iff 0 (k : Int)).2 (by omega), wpred hk h0 (by omega), idx_get hp, List.getElem?_eq_getElem hp]
  · obtain rfl : k = 0 := by omega
    rfl
theorem p80 (xs : List Int) (h : smLInt xs) : m80 xs = some (leI (xs.length : Int) 6 && commsB xs) := by
 have h' := h
 unfold smLInt at h
 have hl : loopP (m80_1b xs (xs.length : Int)) 0 = some (if commsB xs = true then .inl () else .inr ()) := by
  refine loop_all _ _ _ _ (fun k hk => ?_) ?_
  · simp only [m80_1b, (ltI_iff _ _).2 (Int.ofNat_lt.2 hk), br_true, idx_get hk, bnd_ok, p80_3 k _ xs hk h', wsucc hk (by omega), List.getElem?_eq_getElem hk, br_some, if_true, ite_bnot]
  · simp only [m80_1b, (ltI_not _ _).2 (Int.le_refl _), br_false]
 simp only [m80, hl, bnd_ok]
 cases commsB xs <;> simp
theorem p133 (xs : List Int) (h : smLInt xs) (f : Int → Option Bool) (p : Int → Bool) (hf : ∀ x, f x = some (!p x)) : m133 xs f = some (if xs.all p = true then -1 else ((xs.findIdx (fun x => !p x) : Nat) : Int)) := by
 have h' := h
 unfold smLInt at h
 have key : ∀ (n k : Nat), n + k = xs.length → (∀ i, i < k → ∀ x, xs[i]? = some x → p x = true) → loopP (m133_1b xs (xs.length : Int) f) (k : Int) = some (if xs.all p = true then .inl () else .inr ((xs.findIdx (fun x => !p x) : Nat) : Int)) := by
  intro n
  induction n with
  | zero =>
   intro k hk hp
   obtain rfl : k = xs.length := by omega
   have : xs.all p = true := List.all_eq_true.2 fun x hx => by
    obtain ⟨i, hi, rfl⟩ := List.mem_iff_getElem.1 hx
    exact hp i hi _ (List.getElem?_eq_getElem hi)
   rw [loopP_out (b := .inl ()) (by simp only [m133_1b, (ltI_not _ _).2 (Int.le_refl _), br_false]), if_pos this]
  | succ n ih =>
   intro k hk hp
   have hl : k < xs.length := by omega
   cases hq : p xs[k] with
   | true =>
    rw [loopP_nxt (s' := ((k + 1 : Nat) : Int)) (by simp only [m133_1b, (ltI_iff _ _).2 (Int.ofNat_lt.2 hl), br_true, idx_get hl, bnd_ok, hf, hq, Bool.not_true, br_false, wsucc hl (by omega)])]
    refine ih (k + 1) (by omega) fun i hi x hx => ?_
    by_cases hik : i = k
    · subst hik; rw [List.getElem?_eq_getElem hl] at hx; cases hx; exact hq
    · exact hp i (by omega) x hx
   | false =>
    rw [loopP_out (b := .inr (k : Int)) (by simp only [m133_1b, (ltI_iff _ _).2 (Int.ofNat_lt.2 hl), br_true, idx_get hl, bnd_ok, hf, hq, Bool.not_false, br_true])]
    have h1 : ¬ xs.all p = true := fun ha => by have := List.all_eq_true.1 ha _ (List.getElem_mem hl); rw [hq] at this; cases this
    have h2 : xs.findIdx (fun x => !p x) = k := by
     refine (List.findIdx_eq hl).2 ⟨by simp [hq], fun j hj => ?_⟩
     have := hp j hj _ (List.getElem?_eq_getElem (by omega))
     simp [this]
    rw [if_neg h1, h2]
 have := key xs.length 0 (by omega) (fun i hi => by omega)
 simp only [m133, Int.ofNat_zero] at this ⊢
 rw [this, bnd_ok]
 split <;> rfl
theorem p78B (xs : List Int) (h : smLInt xs) : m78 xs = some (leI (xs.length : Int) 10 && pathB xs) := by
 have hp : pathB xs = xs.all (fun x => inB x 1 65535) := allN_list xs (fun x => inB x 1 65535)
 simp only [m78, m78_1, m120, p133 xs h (fun y0 => m121 y0) (fun x => inB x 1 65535) (fun x => by simp only [m121, m91, p75B, bnd_ok]), bnd_ok, hp]
 cases xs.all (fun x => inB x 1 65535) with
 | true => simp [leI]
 | false => simp [leI]
theorem p38 (a : Attrs) (h : smAttrs a) : m38 a = some (attrsB a) := by
 obtain ⟨_, h1, _, _, _, h5⟩ := h
 simp only [m38, m38_1, p75B, p78B _ h1, p80 _ h5, m76, m79, bnd_ok, attrsB, br_and]
 congr 1
 simp only [Bool.and_assoc]
 ac_rfl
noncomputable def okR (r : Route) : Bool := okP r.prefix_ && attrsB r.attrs
theorem p9 (r : Route) (h : smRoute r) : m9 r = some (okR r) := by
 simp only [m9, m9_1, (p33' r.prefix_).1, p34 _ h.2, bnd_ok, okR]
 cases okP r.prefix_ <;> rfl
theorem p11 (r : Route) (h : smRoute r) : m11 r = some (okR r) := by
 simp only [m11, m11_1, (p33' r.prefix_).2, p38 _ h.2, bnd_ok, okR]
 cases okP r.prefix_ <;> rfl
theorem inBlock (s A a : Int) (hs : 0 < s) (hA : A % s = 0) : a - a % s = A ↔ A ≤ a ∧ a ≤ A + s - 1 := by
 have h1 := Int.mul_ediv_add_emod a s
 have h2 := Int.emod_nonneg a (show s ≠ 0 by omega)
 have h3 := Int.emod_lt_of_pos a hs
 have h4 := Int.mul_ediv_add_emod A s
 generalize a / s = q at *
 generalize A / s = t at *
 generalize a % s = r at *
 rw [hA] at h4
 have lem : ∀ x y : Int, x < y → s * x + s ≤ s * y := fun x y h => by
  have := Int.mul_le_mul_of_nonneg_left (show x + 1 ≤ y by omega) (show 0 ≤ s by omega)
  rw [Int.mul_add, Int.mul_one] at this
  exact this
 rcases Int.lt_trichotomy q t with h | h | h
 · have := lem _ _ h; constructor <;> intro g <;> omega
 · subst h; constructor <;> intro g <;> omega
 · have := lem _ _ h; constructor <;> intro g <;> omega
theorem comms_sorted {xs : List Int} (h : commsB xs = true) : xs.Pairwise (· < ·) ∧ ∀ x ∈ xs, 0 ≤ x ∧ x ≤ 1000000 := by
 have h := allN_iff.1 h
 have one : ∀ k, (hk : k < xs.length) → (0 ≤ xs[k] ∧ xs[k] ≤ 1000000) ∧ (0 < k → xs[k - 1]'(by omega) < xs[k]) := by
  intro k hk
  have := h k hk
  rw [List.getElem?_eq_getElem hk] at this
  simp only [inB, Bool.and_eq_true, leI_iff, Bool.not_eq_true', Bool.and_eq_false_iff] at this
  refine ⟨this.1, fun h0 => ?_⟩
  rcases this.2 with g | g
  · rw [ltI_not] at g; omega
  · rw [leI_not] at g
    rw [List.getD_eq_getElem?_getD, List.getElem?_eq_getElem (by omega)] at g
    simpa using g
 refine ⟨List.pairwise_iff_getElem.2 fun i j hi hj hij => ?_, fun x hx => ?_⟩
 · induction j with
   | zero => omega
   | succ j ih =>
    have h1 := (one (j + 1) hj).2 (by omega)
    simp only [Nat.add_sub_cancel] at h1
    by_cases c : i = j
    · subst c; exact h1
    · have := ih (by omega) (by omega)
      omega
 · obtain ⟨k, hk, rfl⟩ := List.mem_iff_getElem.1 hx
   exact (one k hk).1
theorem putF_at (n : Int) : ∀ (l : List Int) (i : Nat), i ≤ l.length → (∀ k (hk : k < l.length), k < i → l[k] < n) → (∀ k (hk : k < l.length), i ≤ k → ¬ l[k] < n) →
    putF l n = if l[i]? = some n then l else l.take i ++ [n] ++ l.drop i := by
 intro l
 induction l with
 | nil =>
  intro i hi _ _
  have : i = 0 := by simpa using hi
  subst this; rfl
 | cons x l ih =>
  intro i hi h1 h2
  simp only [putF]
  cases i with
  | zero =>
   have h3 := h2 0 (by simp) (Nat.le_refl _)
   simp only [List.getElem_cons_zero] at h3
   rw [if_neg h3]
   simp only [List.getElem?_cons_zero, Option.some.injEq, List.take_zero, List.nil_append, List.drop_zero]
   rfl
  | succ i =>
   have h3 := h1 0 (by simp) (by omega)
   simp only [List.getElem_cons_zero] at h3
   rw [if_pos h3, ih i (by simpa using hi) (fun k hk hki => h1 (k + 1) (by simpa using hk) (by omega)) (fun k hk hki => h2 (k + 1) (by simpa using hk) (by omega))]
   simp only [List.getElem?_cons_succ, List.take_succ_cons, List.drop_succ_cons]
   split <;> rfl
theorem half {i j : Nat} (h : i + j ≤ 4611686018427387904) : wcv .i64 (wshr .u64 (wcv .u64 (wadd .i64 (i : Int) (j : Int))) 1) = (((i + j) / 2 : Nat) : Int) := by
 have e1 : wadd .i64 (i : Int) (j : Int) = ((i + j : Nat) : Int) := by rw [wadd64 (by omega) (by omega)]; omega
 have e2 : wcv .u64 ((i + j : Nat) : Int) = ((i + j : Nat) : Int) := by simp [wcv, IntKind.wrap, IntKind.bits, IntKind.signed]; omega
 have e3 : wshr .u64 ((i + j : Nat) : Int) 1 = (((i + j) / 2 : Nat) : Int) := by
  unfold wshr
  have : min (1 : Int).toNat IntKind.u64.bits = 1 := by decide
  rw [this]
  rw [Int.fdiv_eq_ediv_of_nonneg _ (by decide)]
  have : ((2 : Int) ^ 1) = 2 := by decide
  rw [this]; omega
 have e4 : wcv .i64 (((i + j) / 2 : Nat) : Int) = (((i + j) / 2 : Nat) : Int) := by simp [wcv, IntKind.wrap, IntKind.bits, IntKind.signed]; omega
 rw [e1, e2, e3, e4]
theorem p129 (a b : Int) : m129 a b = some (ltI a b) := by
 simp only [m129, m129_1, m147, eqI_self, Bool.not_true, bnd_ok, br_false]
theorem p93 (l : List Int) (n : Int) (hl : l.length ≤ 1000000) (hs : l.Pairwise (· < ·)) : ∃ i : Nat, i ≤ l.length ∧ m93 l n = some ((i : Int), decide (l[i]? = some n)) ∧ putF l n = if l[i]? = some n then l else l.take i ++ [n] ++ l.drop i := by
 have srt := List.pairwise_iff_getElem.1 hs
 obtain ⟨b, hb, i, rfl, hi, h1, h2⟩ := loopP_inv (body := m93_1b l n) (fun p => ∃ i j : Nat, p = ((i : Int), (j : Int)) ∧ i ≤ j ∧ j ≤ l.length ∧ (∀ k (hk : k < l.length), k < i → l[k] < n) ∧ (∀ k (hk : k < l.length), j ≤ k → ¬ l[k] < n))
  (fun b => ∃ i : Nat, b = (i : Int) ∧ i ≤ l.length ∧ (∀ k (hk : k < l.length), k < i → l[k] < n) ∧ (∀ k (hk : k < l.length), i ≤ k → ¬ l[k] < n)) (fun p => (p.2 - p.1).toNat)
  (fun p hp => by
   obtain ⟨i, j, rfl, hij, hj, h1, h2⟩ := hp
   by_cases c : i < j
   · have hh : (i + j) / 2 < l.length := by omega
     simp only [m93_1b, sel2_ok, (ltI_iff (i : Int) (j : Int)).2 (by omega), br_true]
     rw [half (by omega), idx_get hh, bnd_ok, p129, bnd_ok]
     by_cases d : l[(i + j) / 2] < n
     · rw [(ltI_iff _ _).2 d]
       simp only [m93_3, br_true, bnd_ok, sel2_ok]
       refine ⟨_, rfl, ⟨(i + j) / 2 + 1, j, ?_, by omega, hj, fun k hk hki => ?_, h2⟩, ?_⟩
       · rw [wadd64 (by omega) (by omega)]; rfl
       · by_cases ck : k = (i + j) / 2
         · subst ck; exact d
         · have := srt k _ hk hh (by omega); omega
       · rw [wadd64 (by omega) (by omega)]; show (((j : Int)) - _).toNat < ((j : Int) - (i : Int)).toNat; omega
     · rw [(ltI_not _ _).2 (by omega)]
       simp only [m93_3, br_false, bnd_ok, sel2_ok]
       refine ⟨_, rfl, ⟨i, (i + j) / 2, rfl, by omega, by omega, h1, fun k hk hki => ?_⟩, ?_⟩
       · by_cases ck : k = (i + j) / 2
         · subst ck; exact d
         · have := srt _ k hh hk (by omega); omega
       · show (((((i + j) / 2 : Nat) : Int)) - (i : Int)).toNat < ((j : Int) - (i : Int)).toNat; omega
   · simp only [m93_1b, sel2_ok, (ltI_not (i : Int) (j : Int)).2 (by omega), br_false]
     refine ⟨_, rfl, i, rfl, by omega, h1, fun k hk hki => h2 k hk (by omega)⟩) (0, (l.length : Int)) ⟨0, l.length, rfl, by omega, by omega, fun k hk h => by omega, fun k hk h => by omega⟩
 refine ⟨i, hi, ?_, putF_at n l i hi h1 h2⟩
 have e4 : m93_4 l n (l.length : Int) (i : Int) = some (decide (l[i]? = some n)) := by
  unfold m93_4
  by_cases c : i < l.length
  · rw [(ltI_iff _ _).2 (by omega), br_true, idx_get c, bnd_ok, List.getElem?_eq_getElem c]
    by_cases d : l[i] = n
    · rw [(eqI_iff _ _).2 d, br_true, d]; simp
    · rw [(eqI_not _ _).2 d, br_false, m130, eqI_self, bnd_ok, Bool.not_true, br_false]
      simp [d]
  · rw [(ltI_not _ _).2 (by omega), br_false, List.getElem?_eq_none (by omega)]; rfl
 unfold m93
 rw [hb, bnd_ok, e4, bnd_ok]
theorem p95 (l : List Int) (a : Acn) (hl : l.length ≤ 1000000) : m95 l (fun y0 => m96 y0 a) = some (l.filter fun x => !eqI x a.n) := by
 have h := deleteFunc (body := m95_1b (fun y0 => m96 y0 a)) (f := fun y0 => m96 y0 a) (fun x => eqI x a.n) l (fun x _ => rfl) hl (fun i j l => rfl)
 have e : m133 l (fun y0 => m96 y0 a) = some (match findI (fun x => eqI x a.n) l with | none => (-1 : Int) | some i => (i : Int)) := by
  unfold m133
  exact indexFunc (body := m133_1b l (l.length : Int) (fun y0 => m96 y0 a)) (f := fun y0 => m96 y0 a) l (fun x => eqI x a.n) (fun x _ => rfl) (by omega) (fun s => rfl)
 unfold m95
 rw [e, bnd_ok]
 exact h
def doF (a : Acn) (r : Route) : Route :=
 if a.kind = 1 then ⟨r.prefix_, ⟨r.attrs.origin, r.attrs.path, r.attrs.next, r.attrs.med, a.n, r.attrs.comms⟩⟩
 else if a.kind = 2 then ⟨r.prefix_, ⟨r.attrs.origin, r.attrs.path, r.attrs.next, a.n, r.attrs.pref, r.attrs.comms⟩⟩
 else if a.kind = 3 then ⟨r.prefix_, ⟨r.attrs.origin, r.attrs.path, r.attrs.next, r.attrs.med, r.attrs.pref, putF r.attrs.comms a.n⟩⟩
 else if a.kind = 4 then ⟨r.prefix_, ⟨r.attrs.origin, r.attrs.path, r.attrs.next, r.attrs.med, r.attrs.pref, r.attrs.comms.filter fun x => !eqI x a.n⟩⟩
 else if a.kind = 5 then ⟨r.prefix_, ⟨r.attrs.origin, a.n :: r.attrs.path, r.attrs.next, r.attrs.med, r.attrs.pref, r.attrs.comms⟩⟩
 else r
theorem doF_small (a : Acn) (r : Route) (h1 : r.attrs.path.length ≤ 1000) (h2 : r.attrs.comms.length ≤ 1000) : (doF a r).attrs.path.length ≤ 1001 ∧ (doF a r).attrs.comms.length ≤ 1001 := by
 have h3 := (putF_len a.n r.attrs.comms).2.1
 have h4 := List.length_filter_le (fun x => !eqI x a.n) r.attrs.comms
 unfold doF
 repeat' split
 all_goals (try simp only [List.length_cons])
 all_goals omega
theorem doF_sm (a : Acn) (r : Route) (h1 : r.attrs.path.length ≤ 1000) (h2 : r.attrs.comms.length ≤ 1000) : smRoute (doF a r) := by
 obtain ⟨k1, k2⟩ := doF_small a r h1 h2
 exact ⟨⟨trivial, trivial⟩, trivial, by unfold smLInt; omega, trivial, trivial, trivial, by unfold smLInt; omega⟩
theorem good_small {r : Route} (h : okR r = true) : r.attrs.path.length ≤ 10 ∧ r.attrs.comms.length ≤ 6 ∧ r.attrs.comms.Pairwise (· < ·) := by
 unfold okR at h
 rw [Bool.and_eq_true] at h
 have h2 := h.2
 simp only [attrsB, Bool.and_eq_true] at h2
 obtain ⟨⟨⟨⟨⟨⟨⟨_, g1⟩, _⟩, _⟩, _⟩, g2⟩, _⟩, g3⟩ := h2
 have a1 := (leI_iff _ _).1 g1
 have a2 := (leI_iff _ _).1 g2
 exact ⟨by omega, by omega, (comms_sorted g3).1⟩
theorem p49 (a : Acn) (r : Route) (h1 : r.attrs.path.length ≤ 1000) (h2 : r.attrs.comms.length ≤ 1000) : m49 a r = some (doF a r) := by
 have e89 : m89 r.attrs = some r.attrs := by unfold m89; rw [ck_ok (by omega), ck_ok (by omega)]
 have e5 : loopP (m49_5b r (r.attrs.comms.length : Int) a) (0, []) = some (r.attrs.comms.filter fun x => !eqI x a.n) := by
  have := loop_fold (body := m49_5b r (r.attrs.comms.length : Int) a) r.attrs.comms (fun acc x => if (!eqI x a.n) = true then acc ++ [x] else acc) id (fun k acc => acc.length ≤ k) (fun k hk acc hacc => by
   refine ⟨?_, ?_⟩
   · simp only [m49_5b, sel2_ok, (ltI_iff (k : Int) (r.attrs.comms.length : Int)).2 (by omega), br_true, idx_get hk, bnd_ok, m49_7, wsucc hk (by omega)]
     cases !eqI r.attrs.comms[k] a.n
     · rfl
     · rw [br_true, ck_ok (by omega), bnd_ok, if_pos rfl]
   · split
     · simp; omega
     · omega) (fun acc hacc => by simp only [m49_5b, sel2_ok, (ltI_not (r.attrs.comms.length : Int) (r.attrs.comms.length : Int)).2 (by omega), br_false]; rfl) [] (Nat.zero_le _)
  rw [this]
  have key : ∀ (l acc : List Int), l.foldl (fun acc x => if (!eqI x a.n) = true then acc ++ [x] else acc) acc = acc ++ l.filter fun x => !eqI x a.n := by
   intro l
   induction l with
   | nil => intro acc; simp
   | cons x l ih =>
    intro acc
    rw [List.foldl_cons, ih, List.filter_cons]
    split <;> simp
  rw [key]; rfl
 have e90 := p90 r.attrs.comms a.n (by omega)
 unfold m49
 rw [e89, bnd_ok]
 simp only [m49_1, m49_2, m49_3, m49_4, m49_8, e5, e90, bnd_ok, doF, ck_ok (show 1 + r.attrs.path.length ≤ 68719476736 by omega)]
 by_cases c1 : a.kind = 1
 · simp [c1, eqI]
 by_cases c2 : a.kind = 2
 · simp [c2, eqI]
 by_cases c3 : a.kind = 3
 · simp [c3, eqI]
 by_cases c4 : a.kind = 4
 · simp [c4, eqI]
 by_cases c5 : a.kind = 5
 · simp [c5, eqI]
 · simp [c1, c2, c3, c4, c5, eqI]
theorem p92 (r : Route) (h1 : r.attrs.path.length ≤ 1000) (h2 : r.attrs.comms.length ≤ 1000) : m92 r = some r := by
 unfold m92 m128 m146
 rw [ck_ok (by omega), bnd_ok, ck_ok (by omega), bnd_ok, bnd_ok]
theorem p51 (a : Acn) (r : Route) (h1 : r.attrs.path.length ≤ 1000) (h2 : r.attrs.comms.length ≤ 1000) (hs : r.attrs.comms.Pairwise (· < ·)) : m51 a r = some (doF a r, okR (doF a r)) := by
 obtain ⟨i, hi, e93, hp⟩ := p93 r.attrs.comms a.n (by omega) hs
 have e95 := p95 r.attrs.comms a (by omega)
 have e11 := p11 (doF a r) (doF_sm a r h1 h2)
 have e4 : m51_4 (i : Int) (!decide (r.attrs.comms[i]? = some a.n)) a r = some (putF r.attrs.comms a.n) := by
  unfold m51_4
  rw [hp]
  by_cases c : r.attrs.comms[i]? = some a.n
  · rw [decide_eq_true c, Bool.not_true, br_false, if_pos c]
  · rw [decide_eq_false c, Bool.not_false, br_true, ck_ok (by omega), if_neg c, Int.toNat_natCast]
 have e6 : ck (0 ≤ 0 ∧ (0 : Int) ≤ (r.attrs.path.length : Int) ∧ r.attrs.path.length + 1 ≤ 68719476736) (some (r.attrs.path.take 0 ++ [a.n] ++ r.attrs.path.drop 0)) = some (a.n :: r.attrs.path) := by
  rw [ck_ok (by omega)]; simp
 unfold m51
 rw [p92 r h1 h2, bnd_ok]
 simp only [m51_1, m51_2, m51_3, m51_5, m51_6, e93, e95, e6, e4, bnd_ok, sel2_ok]
 by_cases c1 : a.kind = 1
 · have hd : doF a r = ⟨r.prefix_, ⟨r.attrs.origin, r.attrs.path, r.attrs.next, r.attrs.med, a.n, r.attrs.comms⟩⟩ := by simp [doF, c1]
   rw [hd] at e11 ⊢
   simp [c1, eqI, e11]
 by_cases c2 : a.kind = 2
 · have hd : doF a r = ⟨r.prefix_, ⟨r.attrs.origin, r.attrs.path, r.attrs.next, a.n, r.attrs.pref, r.attrs.comms⟩⟩ := by simp [doF, c2]
   rw [hd] at e11 ⊢
   simp [c2, eqI, e11]
 by_cases c3 : a.kind = 3
 · have hd : doF a r = ⟨r.prefix_, ⟨r.attrs.origin, r.attrs.path, r.attrs.next, r.attrs.med, r.attrs.pref, putF r.attrs.comms a.n⟩⟩ := by simp [doF, c3]
   rw [hd] at e11 ⊢
   simp [c3, eqI, e11]
 by_cases c4 : a.kind = 4
 · have hd : doF a r = ⟨r.prefix_, ⟨r.attrs.origin, r.attrs.path, r.attrs.next, r.attrs.med, r.attrs.pref, r.attrs.comms.filter fun x => !eqI x a.n⟩⟩ := by simp [doF, c4]
   rw [hd] at e11 ⊢
   simp only [c4, eqI, decide_true, decide_false, br_true, br_false, bnd_ok, sel2_ok, sel3_ok, sel4_ok, show ¬ ((4 : Int) = 1) by decide, show ¬ ((4 : Int) = 2) by decide, show ¬ ((4 : Int) = 3) by decide]
   simp only [eqI] at e11
   rw [e11, bnd_ok]
 by_cases c5 : a.kind = 5
 · have hd : doF a r = ⟨r.prefix_, ⟨r.attrs.origin, a.n :: r.attrs.path, r.attrs.next, r.attrs.med, r.attrs.pref, r.attrs.comms⟩⟩ := by simp [doF, c5]
   rw [hd] at e11 ⊢
   simp [c5, eqI, e11]
 · have hd : doF a r = r := by simp [doF, c1, c2, c3, c4, c5]
   rw [hd] at e11 ⊢
   simp [c1, c2, c3, c4, c5, eqI, e11]
theorem kRoute (r : Route) (k : Int) (h1 : r.attrs.path.length ≤ 1048576) (h2 : r.attrs.comms.length ≤ 1048576) (h0 : 0 ≤ k) (hk : k ≤ 2305843009213693952) :
    m21 r k = some (k + r.attrs.path.length + r.attrs.comms.length, ramp k r.attrs.path.length, ramp (k + r.attrs.path.length) r.attrs.comms.length) := by
 unfold m21 m52
 rw [k97 _ _ h1 h0 (by omega), bnd_ok, sel2_ok, ck_ok (ramp_length _ _), k97 _ _ h2 (by omega) (by omega), bnd_ok, sel2_ok, ck_ok (ramp_length _ _), bnd_ok, sel3_ok, ck_ok (ramp_length _ _), ck_ok (ramp_length _ _)]
theorem dRoute (p : Prefix) (o nx me pf : Int) (n m : Nat) (k : Int) (h1 : n ≤ 1048576) (h2 : m ≤ 1048576) (h0 : 0 ≤ k) (hk : k ≤ 2305843009213693952) :
    m22 ⟨p, ⟨o, ramp k n, nx, me, pf, ramp (k + n) m⟩⟩ k = some (k + n + m) := by
 unfold m22 m53
 rw [d98 n k h1 h0 (by omega), bnd_ok, (ltI_not _ _).2 (by omega), br_false, d98 m _ h2 (by omega) (by omega), bnd_ok, (ltI_not _ _).2 (by omega), br_false, bnd_ok, (ltI_not _ _).2 (by omega), br_false]
theorem law (a0 : Acn) (a1 : Route) (w0 : wfAcn a0) (w1 : wfRoute a1) : m5 a0 a1 = some true := by
 unfold m5
 obtain ⟨u, hu, u1, u2, hsu⟩ := z8 a1 1048576 w1 (by omega) (by omega)
 rw [hu, bnd_ok]
 by_cases c1 : u < 0
 · rw [(ltI_iff _ _).2 c1, br_true]
 rw [(ltI_not _ _).2 (by omega), br_false]
 have sb : smRoute a1 := hsu (by omega)
 rw [t19 a0 ⟨trivial, trivial⟩, bnd_ok, t10 a1 sb, bnd_ok]
 have s1 : a1.attrs.path.length ≤ 1048576 := sb.2.2.1
 have s2 : a1.attrs.comms.length ≤ 1048576 := sb.2.2.2.2.2.2
 obtain ⟨X, B, e1, e2, hX1, hX2⟩ : ∃ X B, m18 a0 a1 = some (X, B) ∧ m20 a0 a1 = some (X, B) ∧ X.attrs.path.length ≤ 1001 ∧ X.attrs.comms.length ≤ 1001 := by
  have c1 : m18_1 a0 a1 = some (!(okAct a0 && okR a1)) := by
   unfold m18_1
   rw [p48, bnd_ok, p9 a1 sb, bnd_ok]
   cases okAct a0 <;> rfl
  have c2 : m20_1 a0 a1 = some (!(okAct a0 && okR a1)) := by
   unfold m20_1
   rw [p50, bnd_ok, p11 a1 sb, bnd_ok]
   cases okAct a0 <;> rfl
  unfold m18 m20
  rw [c1, c2, bnd_ok, bnd_ok]
  cases c : okAct a0 && okR a1 with
  | false => exact ⟨_, false, rfl, rfl, by simp, by simp⟩
  | true =>
   rw [Bool.and_eq_true] at c
   obtain ⟨g1, g2, g3⟩ := good_small c.2
   have q1 := p49 a0 a1 (by omega) (by omega)
   have q2 := p51 a0 a1 (by omega) (by omega) g3
   have q3 := p9 (doF a0 a1) (doF_sm a0 a1 (by omega) (by omega))
   obtain ⟨k1, k2⟩ := doF_small a0 a1 (by omega) (by omega)
   rw [Bool.not_true, br_false, br_false, q1, bnd_ok, q3, bnd_ok, q2, bnd_ok, sel2_ok]
   cases okR (doF a0 a1) with
   | true => exact ⟨_, true, rfl, rfl, k1, k2⟩
   | false => exact ⟨_, false, rfl, rfl, by simp, by simp⟩
 have sX : smRoute X := ⟨⟨trivial, trivial⟩, trivial, by unfold smLInt; omega, trivial, trivial, trivial, by unfold smLInt; omega⟩
 have qX := q12 X sX
 have qa := q12 a1 sb
 have d1 : m5_1 B B X X = some false := by simp only [m5_1, qX, bnd_ok, br_true, eqB_self, Bool.not_true]
 have d2 : m5_2 B B (1 + a1.attrs.path.length + a1.attrs.comms.length) X X = some false := by simp only [m5_2, (ltI_not (1 + a1.attrs.path.length + a1.attrs.comms.length : Int) 0).2 (by omega), br_false, qX, bnd_ok, br_true, eqB_self, Bool.not_true]
 have d3 : m5_3 B B X X = some false := by simp only [m5_3, qX, bnd_ok, br_true, eqB_self, Bool.not_true]
 rw [e1, bnd_ok, sel2_ok, e2, bnd_ok, sel2_ok, d1, bnd_ok, br_false, qa, bnd_ok, br_true, kRoute a1 1 s1 s2 (by omega) (by omega), bnd_ok, sel3_ok, ck_ok (ramp_length _ _), ck_ok (ramp_length _ _), d2, bnd_ok, br_false,
  kRoute X 1 (by omega) (by omega) (by omega) (by omega), bnd_ok, sel3_ok, ck_ok (ramp_length _ _), ck_ok (ramp_length _ _), dRoute _ _ _ _ _ _ _ 1 (by omega) (by omega) (by omega) (by omega), bnd_ok, (ltI_not _ _).2 (by omega), br_false, eqI_self, br_true, d3, bnd_ok, br_false]
end Go.Pi.Ythidbgihjhkjaaa.ActOn
