/- What functions of the program answer, and that the law answers true at every input; no condition -/
import Derived.Test.YtlcanbihlfncoaaCompareOffersTabCompareOffers
import Derived.Test.YtlcanbihlfncoaaCompareOffersModCompareOffers
set_option linter.all false
/- Functions of the program: that the code answers as the plain functions do. -/
namespace Go.Pi.Ytlcanbihlfncoaa.CompareOffers
open Go Go.Proofs Go.Pi
set_option maxRecDepth 100000
set_option linter.all false
def encInt (x : Int) : List AV := [.int .i64 x]
attribute [go_sem] encInt
theorem sq_encInt (q : Ql) (x : Int) : setQL q (encInt x) = encInt x := by simp [encInt]
theorem sqm_encInt (q : Ql) (xs : List Int) : setQLL q (xs.map encInt) = xs.map encInt := by rw [setQLL_map]; exact List.map_congr_left (fun x _ => sq_encInt q x)
theorem ow_encInt (x : Int) : ownOnlyL (encInt x) = true := by simp [encInt, ownOnlyL, ownOnly, ownLL_map]
theorem owm_encInt (xs : List Int) : ownOnlyLL (xs.map encInt) = true := ownLL_map _ ow_encInt xs
theorem fi_encInt (x : Int) : fine.fineL (encInt x) = true := by simp [encInt, fine.fineL, fine, fineLL_map]
theorem fim_encInt (xs : List Int) : fine.fineLL (xs.map encInt) = true := fineLL_map _ fi_encInt xs
theorem nu_encInt (x : Int) : nude.nudeL (encInt x) = true := by simp [encInt, nude.nudeL, nude, nudeLL_map]
theorem num_encInt (xs : List Int) : nude.nudeLL (xs.map encInt) = true := nudeLL_map _ nu_encInt xs
attribute [simp] sqm_encInt ow_encInt owm_encInt fi_encInt fim_encInt nu_encInt num_encInt
attribute [go_sem] sqm_encInt owm_encInt fim_encInt num_encInt
def encLInt (q : Ql) (x : (List Int)) : List AV := [.ts q 1 (x.map encInt)]
attribute [go_sem] encLInt
theorem sq_encLInt (q q1 : Ql) (x : (List Int)) : setQL q (encLInt q1 x) = encLInt q x := by simp [encLInt, sq_encInt]
theorem sqm_encLInt (q q1 : Ql) (xs : List (List Int)) : setQLL q (xs.map (encLInt q1)) = xs.map (encLInt q) := by rw [setQLL_map]; exact List.map_congr_left (fun x _ => sq_encLInt q q1 x)
theorem ow_encLInt (x : (List Int)) : ownOnlyL (encLInt .own x) = true := by simp [encLInt, ownOnlyL, ownOnly, ownLL_map]
theorem owm_encLInt (xs : List (List Int)) : ownOnlyLL (xs.map (encLInt .own)) = true := ownLL_map _ ow_encLInt xs
theorem fi_encLInt (x : (List Int)) : fine.fineL (encLInt .own x) = true := by simp [encLInt, fine.fineL, fine, fineLL_map]
theorem fim_encLInt (xs : List (List Int)) : fine.fineLL (xs.map (encLInt .own)) = true := fineLL_map _ fi_encLInt xs
theorem nu_encLInt (x : (List Int)) : nude.nudeL (encLInt .own x) = true := by simp [encLInt, nude.nudeL, nude, nudeLL_map]
theorem num_encLInt (xs : List (List Int)) : nude.nudeLL (xs.map (encLInt .own)) = true := nudeLL_map _ nu_encLInt xs
attribute [simp] sqm_encLInt ow_encLInt owm_encLInt fi_encLInt fim_encLInt nu_encLInt num_encLInt
attribute [go_sem] sqm_encLInt owm_encLInt fim_encLInt num_encLInt
def encAttrs (q : Ql) (x : Attrs) : List AV := [.int .i64 x.origin, .ts q 1 (x.path.map encInt), .int .i64 x.next, .int .i64 x.med, .int .i64 x.pref, .ts q 1 (x.comms.map encInt)]
attribute [go_sem] encAttrs
theorem sq_encAttrs (q q1 : Ql) (x : Attrs) : setQL q (encAttrs q1 x) = encAttrs q x := by simp [encAttrs, sq_encInt, sq_encInt]
theorem sqm_encAttrs (q q1 : Ql) (xs : List Attrs) : setQLL q (xs.map (encAttrs q1)) = xs.map (encAttrs q) := by rw [setQLL_map]; exact List.map_congr_left (fun x _ => sq_encAttrs q q1 x)
theorem ow_encAttrs (x : Attrs) : ownOnlyL (encAttrs .own x) = true := by simp [encAttrs, ownOnlyL, ownOnly, ownLL_map]
theorem owm_encAttrs (xs : List Attrs) : ownOnlyLL (xs.map (encAttrs .own)) = true := ownLL_map _ ow_encAttrs xs
theorem fi_encAttrs (x : Attrs) : fine.fineL (encAttrs .own x) = true := by simp [encAttrs, fine.fineL, fine, fineLL_map]
theorem fim_encAttrs (xs : List Attrs) : fine.fineLL (xs.map (encAttrs .own)) = true := fineLL_map _ fi_encAttrs xs
theorem nu_encAttrs (x : Attrs) : nude.nudeL (encAttrs .own x) = true := by simp [encAttrs, nude.nudeL, nude, nudeLL_map]
theorem num_encAttrs (xs : List Attrs) : nude.nudeLL (xs.map (encAttrs .own)) = true := nudeLL_map _ nu_encAttrs xs
attribute [simp] sqm_encAttrs ow_encAttrs owm_encAttrs fi_encAttrs fim_encAttrs nu_encAttrs num_encAttrs
attribute [go_sem] sqm_encAttrs owm_encAttrs fim_encAttrs num_encAttrs
def encOffer (q : Ql) (x : Offer) : List AV := [.int .i64 x.peer, .int .i64 x.attrs.origin, .ts q 1 (x.attrs.path.map encInt), .int .i64 x.attrs.next, .int .i64 x.attrs.med, .int .i64 x.attrs.pref, .ts q 1 (x.attrs.comms.map encInt)]
attribute [go_sem] encOffer
theorem sq_encOffer (q q1 : Ql) (x : Offer) : setQL q (encOffer q1 x) = encOffer q x := by simp [encOffer, sq_encInt, sq_encInt]
theorem sqm_encOffer (q q1 : Ql) (xs : List Offer) : setQLL q (xs.map (encOffer q1)) = xs.map (encOffer q) := by rw [setQLL_map]; exact List.map_congr_left (fun x _ => sq_encOffer q q1 x)
theorem ow_encOffer (x : Offer) : ownOnlyL (encOffer .own x) = true := by simp [encOffer, ownOnlyL, ownOnly, ownLL_map]
theorem owm_encOffer (xs : List Offer) : ownOnlyLL (xs.map (encOffer .own)) = true := ownLL_map _ ow_encOffer xs
theorem fi_encOffer (x : Offer) : fine.fineL (encOffer .own x) = true := by simp [encOffer, fine.fineL, fine, fineLL_map]
theorem fim_encOffer (xs : List Offer) : fine.fineLL (xs.map (encOffer .own)) = true := fineLL_map _ fi_encOffer xs
theorem nu_encOffer (x : Offer) : nude.nudeL (encOffer .own x) = true := by simp [encOffer, nude.nudeL, nude, nudeLL_map]
theorem num_encOffer (xs : List Offer) : nude.nudeLL (xs.map (encOffer .own)) = true := nudeLL_map _ nu_encOffer xs
attribute [simp] sqm_encOffer ow_encOffer owm_encOffer fi_encOffer fim_encOffer nu_encOffer num_encOffer
attribute [go_sem] sqm_encOffer owm_encOffer fim_encOffer num_encOffer
def encBool (x : Bool) : List AV := [.bool x]
attribute [go_sem] encBool
theorem sq_encBool (q : Ql) (x : Bool) : setQL q (encBool x) = encBool x := by simp [encBool]
theorem sqm_encBool (q : Ql) (xs : List Bool) : setQLL q (xs.map encBool) = xs.map encBool := by rw [setQLL_map]; exact List.map_congr_left (fun x _ => sq_encBool q x)
theorem ow_encBool (x : Bool) : ownOnlyL (encBool x) = true := by simp [encBool, ownOnlyL, ownOnly, ownLL_map]
theorem owm_encBool (xs : List Bool) : ownOnlyLL (xs.map encBool) = true := ownLL_map _ ow_encBool xs
theorem fi_encBool (x : Bool) : fine.fineL (encBool x) = true := by simp [encBool, fine.fineL, fine, fineLL_map]
theorem fim_encBool (xs : List Bool) : fine.fineLL (xs.map encBool) = true := fineLL_map _ fi_encBool xs
theorem nu_encBool (x : Bool) : nude.nudeL (encBool x) = true := by simp [encBool, nude.nudeL, nude, nudeLL_map]
theorem num_encBool (xs : List Bool) : nude.nudeLL (xs.map encBool) = true := nudeLL_map _ nu_encBool xs
attribute [simp] sqm_encBool ow_encBool owm_encBool fi_encBool fim_encBool nu_encBool num_encBool
attribute [go_sem] sqm_encBool owm_encBool fim_encBool num_encBool
def encLOffer (q : Ql) (x : (List Offer)) : List AV := [.ts q 7 (x.map (encOffer q))]
attribute [go_sem] encLOffer
theorem sq_encLOffer (q q1 : Ql) (x : (List Offer)) : setQL q (encLOffer q1 x) = encLOffer q x := by simp [encLOffer, sq_encOffer]
theorem sqm_encLOffer (q q1 : Ql) (xs : List (List Offer)) : setQLL q (xs.map (encLOffer q1)) = xs.map (encLOffer q) := by rw [setQLL_map]; exact List.map_congr_left (fun x _ => sq_encLOffer q q1 x)
theorem ow_encLOffer (x : (List Offer)) : ownOnlyL (encLOffer .own x) = true := by simp [encLOffer, ownOnlyL, ownOnly, ownLL_map]
theorem owm_encLOffer (xs : List (List Offer)) : ownOnlyLL (xs.map (encLOffer .own)) = true := ownLL_map _ ow_encLOffer xs
theorem fi_encLOffer (x : (List Offer)) : fine.fineL (encLOffer .own x) = true := by simp [encLOffer, fine.fineL, fine, fineLL_map]
theorem fim_encLOffer (xs : List (List Offer)) : fine.fineLL (xs.map (encLOffer .own)) = true := fineLL_map _ fi_encLOffer xs
theorem nu_encLOffer (x : (List Offer)) : nude.nudeL (encLOffer .own x) = true := by simp [encLOffer, nude.nudeL, nude, nudeLL_map]
theorem num_encLOffer (xs : List (List Offer)) : nude.nudeLL (xs.map (encLOffer .own)) = true := nudeLL_map _ nu_encLOffer xs
attribute [simp] sqm_encLOffer ow_encLOffer owm_encLOffer fi_encLOffer fim_encLOffer nu_encLOffer num_encLOffer
attribute [go_sem] sqm_encLOffer owm_encLOffer fim_encLOffer num_encLOffer
-- f78 laws.szIntS
theorem call78 (args : List AV) (S : St) : evCall T (evFL T) 78 args S = lendC (evFL T 78) S (lendAll S [[1], [0]] args) := evCall0 fn78 rfl rfl args S
theorem callz78 (args : List AV) (S : St) : evCallFz T (evFL T) 78 args S = lendZ (evFL T 78) S [[0]] (lendAll S [[1], [0]] args) := evCallFz0 fn78 rfl rfl args S
attribute [go_sem] call78 callz78
theorem e78 (a0 : (List Int)) (a1 : Int) (r : Int) (h : m78 a0 a1 = some r) : evFL T 78 [.ts .imm 1 (a0.map encInt), .int .i64 a1] [] = some (.int .i64 r, []) := by
  unfold m78 at h
  rw [evFL_at fn78 (Nat.le_of_ble_eq_true rfl) rfl (.inr rfl)]
  try simp -implicitDefEqProofs only [go_sem, Nat.reduceLT, Nat.reduceAdd, Nat.reduceSub, Nat.reduceMul, Nat.reduceEqDiff, Nat.reduceBEq, Nat.reduceLeDiff, Int.reduceToNat, Int.reduceLT, Int.reduceLE, Int.reduceEq, reduceCtorEq, ↓reduceIte, i78, c78]
  cases b1 : (ltI (wsub .i64 a1 (↑a0.length : Int)) 0 : Bool)
  · replace h := br_f b1 h
    cases h
    simp -implicitDefEqProofs only [go_sem, Nat.reduceLT, Nat.reduceAdd, Nat.reduceSub, Nat.reduceMul, Nat.reduceEqDiff, Nat.reduceBEq, Nat.reduceLeDiff, Int.reduceToNat, Int.reduceLT, Int.reduceLE, Int.reduceEq, reduceCtorEq, ↓reduceIte, i78, c78, b1]
  · replace h := br_t b1 h
    cases h
    simp -implicitDefEqProofs only [go_sem, Nat.reduceLT, Nat.reduceAdd, Nat.reduceSub, Nat.reduceMul, Nat.reduceEqDiff, Nat.reduceBEq, Nat.reduceLeDiff, Int.reduceToNat, Int.reduceLT, Int.reduceLE, Int.reduceEq, reduceCtorEq, ↓reduceIte, i78, c78, b1]
-- f51 laws.szAttrs
theorem call51 (args : List AV) (S : St) : evCall T (evFL T) 51 args S = lendC (evFL T 51) S (lendAll S [[0, 1, 0, 0, 0, 1], [0]] args) := evCall0 fn51 rfl rfl args S
theorem callz51 (args : List AV) (S : St) : evCallFz T (evFL T) 51 args S = lendZ (evFL T 51) S [[0]] (lendAll S [[0, 1, 0, 0, 0, 1], [0]] args) := evCallFz0 fn51 rfl rfl args S
attribute [go_sem] call51 callz51
theorem e51 (a0 : Attrs) (a1 : Int) (r : Int) (h : m51 a0 a1 = some r) : evFL T 51 [.agg [.int .i64 a0.origin, .ts .imm 1 (a0.path.map encInt), .int .i64 a0.next, .int .i64 a0.med, .int .i64 a0.pref, .ts .imm 1 (a0.comms.map encInt)], .int .i64 a1] [] = some (.int .i64 r, []) := by
  unfold m51 at h
  rw [evFL_at fn51 (Nat.le_of_ble_eq_true rfl) rfl (.inr rfl)]
  obtain ⟨r3, q1, h⟩ := bnd_some h
  have w2 := e78 a0.path a1 r3 q1
  try simp -implicitDefEqProofs only [go_sem, Nat.reduceLT, Nat.reduceAdd, Nat.reduceSub, Nat.reduceMul, Nat.reduceEqDiff, Nat.reduceBEq, Nat.reduceLeDiff, Int.reduceToNat, Int.reduceLT, Int.reduceLE, Int.reduceEq, reduceCtorEq, ↓reduceIte] at w2
  try simp -implicitDefEqProofs only [go_sem, Nat.reduceLT, Nat.reduceAdd, Nat.reduceSub, Nat.reduceMul, Nat.reduceEqDiff, Nat.reduceBEq, Nat.reduceLeDiff, Int.reduceToNat, Int.reduceLT, Int.reduceLE, Int.reduceEq, reduceCtorEq, ↓reduceIte, i51, c51, w2]
  cases b4 : (ltI r3 0 : Bool)
  · replace h := br_f b4 h
    obtain ⟨r7, q5, h⟩ := bnd_some h
    have w6 := e78 a0.comms r3 r7 q5
    try simp -implicitDefEqProofs only [go_sem, Nat.reduceLT, Nat.reduceAdd, Nat.reduceSub, Nat.reduceMul, Nat.reduceEqDiff, Nat.reduceBEq, Nat.reduceLeDiff, Int.reduceToNat, Int.reduceLT, Int.reduceLE, Int.reduceEq, reduceCtorEq, ↓reduceIte] at w6
    try simp -implicitDefEqProofs only [go_sem, Nat.reduceLT, Nat.reduceAdd, Nat.reduceSub, Nat.reduceMul, Nat.reduceEqDiff, Nat.reduceBEq, Nat.reduceLeDiff, Int.reduceToNat, Int.reduceLT, Int.reduceLE, Int.reduceEq, reduceCtorEq, ↓reduceIte, i51, c51, w2, b4, w6]
    cases b8 : (ltI r7 0 : Bool)
    · replace h := br_f b8 h
      cases h
      simp -implicitDefEqProofs only [go_sem, Nat.reduceLT, Nat.reduceAdd, Nat.reduceSub, Nat.reduceMul, Nat.reduceEqDiff, Nat.reduceBEq, Nat.reduceLeDiff, Int.reduceToNat, Int.reduceLT, Int.reduceLE, Int.reduceEq, reduceCtorEq, ↓reduceIte, i51, c51, w2, b4, w6, b8]
    · replace h := br_t b8 h
      cases h
      simp -implicitDefEqProofs only [go_sem, Nat.reduceLT, Nat.reduceAdd, Nat.reduceSub, Nat.reduceMul, Nat.reduceEqDiff, Nat.reduceBEq, Nat.reduceLeDiff, Int.reduceToNat, Int.reduceLT, Int.reduceLE, Int.reduceEq, reduceCtorEq, ↓reduceIte, i51, c51, w2, b4, w6, b8]
  · replace h := br_t b4 h
    cases h
    simp -implicitDefEqProofs only [go_sem, Nat.reduceLT, Nat.reduceAdd, Nat.reduceSub, Nat.reduceMul, Nat.reduceEqDiff, Nat.reduceBEq, Nat.reduceLeDiff, Int.reduceToNat, Int.reduceLT, Int.reduceLE, Int.reduceEq, reduceCtorEq, ↓reduceIte, i51, c51, w2, b4]
-- f17 laws.szOffer
theorem call17 (args : List AV) (S : St) : evCall T (evFL T) 17 args S = lendC (evFL T 17) S (lendAll S [[0, 0, 1, 0, 0, 0, 1], [0]] args) := evCall0 fn17 rfl rfl args S
theorem callz17 (args : List AV) (S : St) : evCallFz T (evFL T) 17 args S = lendZ (evFL T 17) S [[0]] (lendAll S [[0, 0, 1, 0, 0, 0, 1], [0]] args) := evCallFz0 fn17 rfl rfl args S
attribute [go_sem] call17 callz17
theorem e17 (a0 : Offer) (a1 : Int) (r : Int) (h : m17 a0 a1 = some r) : evFL T 17 [.agg [.int .i64 a0.peer, .int .i64 a0.attrs.origin, .ts .imm 1 (a0.attrs.path.map encInt), .int .i64 a0.attrs.next, .int .i64 a0.attrs.med, .int .i64 a0.attrs.pref, .ts .imm 1 (a0.attrs.comms.map encInt)], .int .i64 a1] [] = some (.int .i64 r, []) := by
  unfold m17 at h
  rw [evFL_at fn17 (Nat.le_of_ble_eq_true rfl) rfl (.inr rfl)]
  obtain ⟨r3, q1, h⟩ := bnd_some h
  have w2 := e51 a0.attrs a1 r3 q1
  try simp -implicitDefEqProofs only [go_sem, Nat.reduceLT, Nat.reduceAdd, Nat.reduceSub, Nat.reduceMul, Nat.reduceEqDiff, Nat.reduceBEq, Nat.reduceLeDiff, Int.reduceToNat, Int.reduceLT, Int.reduceLE, Int.reduceEq, reduceCtorEq, ↓reduceIte] at w2
  try simp -implicitDefEqProofs only [go_sem, Nat.reduceLT, Nat.reduceAdd, Nat.reduceSub, Nat.reduceMul, Nat.reduceEqDiff, Nat.reduceBEq, Nat.reduceLeDiff, Int.reduceToNat, Int.reduceLT, Int.reduceLE, Int.reduceEq, reduceCtorEq, ↓reduceIte, i17, c17, w2]
  cases b4 : (ltI r3 0 : Bool)
  · replace h := br_f b4 h
    cases h
    simp -implicitDefEqProofs only [go_sem, Nat.reduceLT, Nat.reduceAdd, Nat.reduceSub, Nat.reduceMul, Nat.reduceEqDiff, Nat.reduceBEq, Nat.reduceLeDiff, Int.reduceToNat, Int.reduceLT, Int.reduceLE, Int.reduceEq, reduceCtorEq, ↓reduceIte, i17, c17, w2, b4]
  · replace h := br_t b4 h
    cases h
    simp -implicitDefEqProofs only [go_sem, Nat.reduceLT, Nat.reduceAdd, Nat.reduceSub, Nat.reduceMul, Nat.reduceEqDiff, Nat.reduceBEq, Nat.reduceLeDiff, Int.reduceToNat, Int.reduceLT, Int.reduceLE, Int.reduceEq, reduceCtorEq, ↓reduceIte, i17, c17, w2, b4]
-- f80 laws.toIntS
def X80_1 (a0 : (List Int)) (o : (List Int)) : Ex × Fr × St :=
  (.exit 0, frOf 22 (upd anyF 3 (.sl 0 0 o.length)), [some ⟨.arr, 1, o.map encInt⟩])
def E80_1 (a0 : (List Int)) (s : (Int × List Int)) : Fr × St := (frOf 22 (upd (upd (upd anyF 0 (.ts .imm 1 (a0.map encInt))) 3 (.sl 0 0 s.2.length)) 4 (.int .i64 s.1)), [some ⟨.arr, 1, s.2.map encInt⟩])
theorem b80_1 (a0 : (List Int)) (s : (Int × List Int)) (o : Ctl (Int × List Int) (List Int)) (h : m80_1b a0 s = some o) : evCL T 0 k80_1b (E80_1 a0 s).1 (E80_1 a0 s).2 = some (ctlX (E80_1 a0) (X80_1 a0) o) := by
  unfold m80_1b at h
  obtain ⟨s14, s15⟩ := s
  replace h := sel2_some h
  try simp -implicitDefEqProofs only [go_sem, Nat.reduceLT, Nat.reduceAdd, Nat.reduceSub, Nat.reduceMul, Nat.reduceEqDiff, Nat.reduceBEq, Nat.reduceLeDiff, Int.reduceToNat, Int.reduceLT, Int.reduceLE, Int.reduceEq, reduceCtorEq, ↓reduceIte, E80_1, X80_1, k80_1b]
  cases b16 : (ltI s14 (↑a0.length : Int) : Bool)
  · replace h := br_f b16 h
    cases h
    simp -implicitDefEqProofs only [go_sem, Nat.reduceLT, Nat.reduceAdd, Nat.reduceSub, Nat.reduceMul, Nat.reduceEqDiff, Nat.reduceBEq, Nat.reduceLeDiff, Int.reduceToNat, Int.reduceLT, Int.reduceLE, Int.reduceEq, reduceCtorEq, ↓reduceIte, E80_1, X80_1, k80_1b, b16]
  · replace h := br_t b16 h
    obtain ⟨x17, q18, h⟩ := bnd_some h
    obtain ⟨g19, g20, g21⟩ := idx_row encInt q18
    try simp -implicitDefEqProofs only [go_sem, Nat.reduceLT, Nat.reduceAdd, Nat.reduceSub, Nat.reduceMul, Nat.reduceEqDiff, Nat.reduceBEq, Nat.reduceLeDiff, Int.reduceToNat, Int.reduceLT, Int.reduceLE, Int.reduceEq, reduceCtorEq, ↓reduceIte] at g20
    try simp -implicitDefEqProofs only [go_sem, Nat.reduceLT, Nat.reduceAdd, Nat.reduceSub, Nat.reduceMul, Nat.reduceEqDiff, Nat.reduceBEq, Nat.reduceLeDiff, Int.reduceToNat, Int.reduceLT, Int.reduceLE, Int.reduceEq, reduceCtorEq, ↓reduceIte] at g21
    obtain ⟨x22, q23, h⟩ := bnd_some h
    obtain ⟨g24, g25, g26⟩ := idx_row encInt q23
    try simp -implicitDefEqProofs only [go_sem, Nat.reduceLT, Nat.reduceAdd, Nat.reduceSub, Nat.reduceMul, Nat.reduceEqDiff, Nat.reduceBEq, Nat.reduceLeDiff, Int.reduceToNat, Int.reduceLT, Int.reduceLE, Int.reduceEq, reduceCtorEq, ↓reduceIte] at g25
    try simp -implicitDefEqProofs only [go_sem, Nat.reduceLT, Nat.reduceAdd, Nat.reduceSub, Nat.reduceMul, Nat.reduceEqDiff, Nat.reduceBEq, Nat.reduceLeDiff, Int.reduceToNat, Int.reduceLT, Int.reduceLE, Int.reduceEq, reduceCtorEq, ↓reduceIte] at g26
    cases h
    simp -implicitDefEqProofs only [go_sem, Nat.reduceLT, Nat.reduceAdd, Nat.reduceSub, Nat.reduceMul, Nat.reduceEqDiff, Nat.reduceBEq, Nat.reduceLeDiff, Int.reduceToNat, Int.reduceLT, Int.reduceLE, Int.reduceEq, reduceCtorEq, ↓reduceIte, E80_1, X80_1, k80_1b, b16, g19, g20, g21, g24, g25, g26]
theorem e80_1 (a0 : (List Int)) (s : (Int × List Int)) (o : (List Int)) (h : loopP (m80_1b a0) s = some o) : evCL T 0 (.loop k80_1b) (E80_1 a0 s).1 (E80_1 a0 s).2 = some (X80_1 a0 o) :=
  loop_walk (E := E80_1 a0) (X := X80_1 a0) (by intro b; (simp only [X80_1]; nofun)) (b80_1 a0) s o h
theorem call80 (args : List AV) (S : St) : evCall T (evFL T) 80 args S = lendC (evFL T 80) S (lendAll S [[1]] args) := evCall0 fn80 rfl rfl args S
theorem callz80 (args : List AV) (S : St) : evCallFz T (evFL T) 80 args S = lendZ (evFL T 80) S [[1]] (lendAll S [[1]] args) := evCallFz0 fn80 rfl rfl args S
attribute [go_sem] call80 callz80
theorem e80 (a0 : (List Int)) (r : (List Int)) (h : m80 a0 = some r) : evFL T 80 [.ts .imm 1 (a0.map encInt)] [] = some (.sl 0 0 r.length, [some ⟨.arr, 1, r.map encInt⟩]) := by
  unfold m80 at h
  rw [evFL_at fn80 (Nat.le_of_ble_eq_true rfl) rfl (.inr rfl)]
  obtain ⟨g1, h⟩ := ck_some h
  try simp -implicitDefEqProofs only [go_sem, Nat.reduceLT, Nat.reduceAdd, Nat.reduceSub, Nat.reduceMul, Nat.reduceEqDiff, Nat.reduceBEq, Nat.reduceLeDiff, Int.reduceToNat, Int.reduceLT, Int.reduceLE, Int.reduceEq, reduceCtorEq, ↓reduceIte] at g1
  obtain ⟨v29, q27, h⟩ := bnd_some h
  have w28 := e80_1 a0 (0, List.replicate a0.length 0) v29 q27
  simp only [E80_1, X80_1] at w28
  try simp -implicitDefEqProofs only [go_sem, Nat.reduceLT, Nat.reduceAdd, Nat.reduceSub, Nat.reduceMul, Nat.reduceEqDiff, Nat.reduceBEq, Nat.reduceLeDiff, Int.reduceToNat, Int.reduceLT, Int.reduceLE, Int.reduceEq, reduceCtorEq, ↓reduceIte] at w28
  cases h
  simp -implicitDefEqProofs only [go_sem, Nat.reduceLT, Nat.reduceAdd, Nat.reduceSub, Nat.reduceMul, Nat.reduceEqDiff, Nat.reduceBEq, Nat.reduceLeDiff, Int.reduceToNat, Int.reduceLT, Int.reduceLE, Int.reduceEq, reduceCtorEq, ↓reduceIte, i80, c80, g1, w28]
-- f53 laws.toAttrs
theorem call53 (args : List AV) (S : St) : evCall T (evFL T) 53 args S = lendC (evFL T 53) S (lendAll S [[0, 1, 0, 0, 0, 1]] args) := evCall0 fn53 rfl rfl args S
theorem callz53 (args : List AV) (S : St) : evCallFz T (evFL T) 53 args S = lendZ (evFL T 53) S [[0, 1, 0, 0, 0, 1]] (lendAll S [[0, 1, 0, 0, 0, 1]] args) := evCallFz0 fn53 rfl rfl args S
attribute [go_sem] call53 callz53
theorem e53 (a0 : Attrs) (r : Attrs) (h : m53 a0 = some r) : evFL T 53 [.agg [.int .i64 a0.origin, .ts .imm 1 (a0.path.map encInt), .int .i64 a0.next, .int .i64 a0.med, .int .i64 a0.pref, .ts .imm 1 (a0.comms.map encInt)]] [] = some (.agg [.int .i64 r.origin, .sl 0 0 r.path.length, .int .i64 r.next, .int .i64 r.med, .int .i64 r.pref, .sl 1 0 r.comms.length], [some ⟨.arr, 1, r.path.map encInt⟩, some ⟨.arr, 1, r.comms.map encInt⟩]) := by
  unfold m53 at h
  rw [evFL_at fn53 (Nat.le_of_ble_eq_true rfl) rfl (.inr rfl)]
  obtain ⟨r3, q1, h⟩ := bnd_some h
  have w2 := e80 a0.path r3 q1
  try simp -implicitDefEqProofs only [go_sem, Nat.reduceLT, Nat.reduceAdd, Nat.reduceSub, Nat.reduceMul, Nat.reduceEqDiff, Nat.reduceBEq, Nat.reduceLeDiff, Int.reduceToNat, Int.reduceLT, Int.reduceLE, Int.reduceEq, reduceCtorEq, ↓reduceIte] at w2
  obtain ⟨r6, q4, h⟩ := bnd_some h
  have w5 := e80 a0.comms r6 q4
  try simp -implicitDefEqProofs only [go_sem, Nat.reduceLT, Nat.reduceAdd, Nat.reduceSub, Nat.reduceMul, Nat.reduceEqDiff, Nat.reduceBEq, Nat.reduceLeDiff, Int.reduceToNat, Int.reduceLT, Int.reduceLE, Int.reduceEq, reduceCtorEq, ↓reduceIte] at w5
  cases h
  simp -implicitDefEqProofs only [go_sem, Nat.reduceLT, Nat.reduceAdd, Nat.reduceSub, Nat.reduceMul, Nat.reduceEqDiff, Nat.reduceBEq, Nat.reduceLeDiff, Int.reduceToNat, Int.reduceLT, Int.reduceLE, Int.reduceEq, reduceCtorEq, ↓reduceIte, i53, c53, w2, w5]
-- f19 laws.toOffer
theorem call19 (args : List AV) (S : St) : evCall T (evFL T) 19 args S = lendC (evFL T 19) S (lendAll S [[0, 0, 1, 0, 0, 0, 1]] args) := evCall0 fn19 rfl rfl args S
theorem callz19 (args : List AV) (S : St) : evCallFz T (evFL T) 19 args S = lendZ (evFL T 19) S [[0, 0, 1, 0, 0, 0, 1]] (lendAll S [[0, 0, 1, 0, 0, 0, 1]] args) := evCallFz0 fn19 rfl rfl args S
attribute [go_sem] call19 callz19
theorem e19 (a0 : Offer) (r : Offer) (h : m19 a0 = some r) : evFL T 19 [.agg [.int .i64 a0.peer, .int .i64 a0.attrs.origin, .ts .imm 1 (a0.attrs.path.map encInt), .int .i64 a0.attrs.next, .int .i64 a0.attrs.med, .int .i64 a0.attrs.pref, .ts .imm 1 (a0.attrs.comms.map encInt)]] [] = some (.agg [.int .i64 r.peer, .int .i64 r.attrs.origin, .sl 0 0 r.attrs.path.length, .int .i64 r.attrs.next, .int .i64 r.attrs.med, .int .i64 r.attrs.pref, .sl 1 0 r.attrs.comms.length], [some ⟨.arr, 1, r.attrs.path.map encInt⟩, some ⟨.arr, 1, r.attrs.comms.map encInt⟩]) := by
  unfold m19 at h
  rw [evFL_at fn19 (Nat.le_of_ble_eq_true rfl) rfl (.inr rfl)]
  obtain ⟨r3, q1, h⟩ := bnd_some h
  have w2 := e53 a0.attrs r3 q1
  try simp -implicitDefEqProofs only [go_sem, Nat.reduceLT, Nat.reduceAdd, Nat.reduceSub, Nat.reduceMul, Nat.reduceEqDiff, Nat.reduceBEq, Nat.reduceLeDiff, Int.reduceToNat, Int.reduceLT, Int.reduceLE, Int.reduceEq, reduceCtorEq, ↓reduceIte] at w2
  cases h
  simp -implicitDefEqProofs only [go_sem, Nat.reduceLT, Nat.reduceAdd, Nat.reduceSub, Nat.reduceMul, Nat.reduceEqDiff, Nat.reduceBEq, Nat.reduceLeDiff, Int.reduceToNat, Int.reduceLT, Int.reduceLE, Int.reduceEq, reduceCtorEq, ↓reduceIte, i19, c19, w2]
-- f48 spec.l1In
def X48_1 (a0 : Int) (a1 : Int) (a2 : Int) (o : Bool) : Ex × Fr × St :=
  (.normal, frOf 15 (upd anyF 6 (.bool o)), [])
theorem e48_1 (a0 : Int) (a1 : Int) (a2 : Int) (o : Bool) (h : m48_1 a0 a1 a2 = some o) : evCL T 0 k48_1 (frOf 15 (upd (upd (upd anyF 0 (.int .i64 a0)) 1 (.int .i64 a1)) 2 (.int .i64 a2))) [] = some (X48_1 a0 a1 a2 o) := by
  unfold m48_1 at h
  try simp -implicitDefEqProofs only [go_sem, Nat.reduceLT, Nat.reduceAdd, Nat.reduceSub, Nat.reduceMul, Nat.reduceEqDiff, Nat.reduceBEq, Nat.reduceLeDiff, Int.reduceToNat, Int.reduceLT, Int.reduceLE, Int.reduceEq, reduceCtorEq, ↓reduceIte, X48_1, k48_1]
  cases b1 : (leI a1 a0 : Bool)
  · replace h := br_f b1 h
    cases h
    simp -implicitDefEqProofs only [go_sem, Nat.reduceLT, Nat.reduceAdd, Nat.reduceSub, Nat.reduceMul, Nat.reduceEqDiff, Nat.reduceBEq, Nat.reduceLeDiff, Int.reduceToNat, Int.reduceLT, Int.reduceLE, Int.reduceEq, reduceCtorEq, ↓reduceIte, X48_1, k48_1, b1]
  · replace h := br_t b1 h
    cases h
    simp -implicitDefEqProofs only [go_sem, Nat.reduceLT, Nat.reduceAdd, Nat.reduceSub, Nat.reduceMul, Nat.reduceEqDiff, Nat.reduceBEq, Nat.reduceLeDiff, Int.reduceToNat, Int.reduceLT, Int.reduceLE, Int.reduceEq, reduceCtorEq, ↓reduceIte, X48_1, k48_1, b1]
theorem call48 (args : List AV) (S : St) : evCall T (evFL T) 48 args S = lendC (evFL T 48) S (lendAll S [[0], [0], [0]] args) := evCall0 fn48 rfl rfl args S
theorem callz48 (args : List AV) (S : St) : evCallFz T (evFL T) 48 args S = lendZ (evFL T 48) S [[0]] (lendAll S [[0], [0], [0]] args) := evCallFz0 fn48 rfl rfl args S
attribute [go_sem] call48 callz48
theorem e48 (a0 : Int) (a1 : Int) (a2 : Int) (r : Bool) (h : m48 a0 a1 a2 = some r) : evFL T 48 [.int .i64 a0, .int .i64 a1, .int .i64 a2] [] = some (.bool r, []) := by
  unfold m48 at h
  rw [evFL_at fn48 (Nat.le_of_ble_eq_true rfl) rfl (.inr rfl)]
  obtain ⟨v4, q2, h⟩ := bnd_some h
  have w3 := e48_1 a0 a1 a2 v4 q2
  simp only [X48_1] at w3
  try simp -implicitDefEqProofs only [go_sem, Nat.reduceLT, Nat.reduceAdd, Nat.reduceSub, Nat.reduceMul, Nat.reduceEqDiff, Nat.reduceBEq, Nat.reduceLeDiff, Int.reduceToNat, Int.reduceLT, Int.reduceLE, Int.reduceEq, reduceCtorEq, ↓reduceIte] at w3
  cases h
  simp -implicitDefEqProofs only [go_sem, Nat.reduceLT, Nat.reduceAdd, Nat.reduceSub, Nat.reduceMul, Nat.reduceEqDiff, Nat.reduceBEq, Nat.reduceLeDiff, Int.reduceToNat, Int.reduceLT, Int.reduceLE, Int.reduceEq, reduceCtorEq, ↓reduceIte, i48, c48, w3]
-- f75 spec.l1Addr
theorem call75 (args : List AV) (S : St) : evCall T (evFL T) 75 args S = lendC (evFL T 75) S (lendAll S [[0]] args) := evCall0 fn75 rfl rfl args S
theorem callz75 (args : List AV) (S : St) : evCallFz T (evFL T) 75 args S = lendZ (evFL T 75) S [[0]] (lendAll S [[0]] args) := evCallFz0 fn75 rfl rfl args S
attribute [go_sem] call75 callz75
theorem e75 (a0 : Int) (r : Bool) (h : m75 a0 = some r) : evFL T 75 [.int .i64 a0] [] = some (.bool r, []) := by
  unfold m75 at h
  rw [evFL_at fn75 (Nat.le_of_ble_eq_true rfl) rfl (.inr rfl)]
  obtain ⟨r3, q1, h⟩ := bnd_some h
  have w2 := e48 a0 0 4294967295 r3 q1
  try simp -implicitDefEqProofs only [go_sem, Nat.reduceLT, Nat.reduceAdd, Nat.reduceSub, Nat.reduceMul, Nat.reduceEqDiff, Nat.reduceBEq, Nat.reduceLeDiff, Int.reduceToNat, Int.reduceLT, Int.reduceLE, Int.reduceEq, reduceCtorEq, ↓reduceIte] at w2
  cases h
  simp -implicitDefEqProofs only [go_sem, Nat.reduceLT, Nat.reduceAdd, Nat.reduceSub, Nat.reduceMul, Nat.reduceEqDiff, Nat.reduceBEq, Nat.reduceLeDiff, Int.reduceToNat, Int.reduceLT, Int.reduceLE, Int.reduceEq, reduceCtorEq, ↓reduceIte, i75, c75, w2]
-- f49 spec.GoodAttrs
def X49_1 (a0 : Attrs) (p1 : Int) (o : (Unit ⊕ Unit)) : Ex × Fr × St :=
  match o with
  | .inl o => (.exit 0, frOf 74 (upd anyF 1 (.ptr 0 0 0)), [some ⟨.box, 6, [[.int .i64 a0.origin, .ts .imm 1 (a0.path.map encInt), .int .i64 a0.next, .int .i64 a0.med, .int .i64 a0.pref, .ts .imm 1 (a0.comms.map encInt)]]⟩])
  | .inr o => (.ret, frOf 74 (upd anyF 2 (.bool false)), [])
def E49_1 (a0 : Attrs) (p1 : Int) (s : Int) : Fr × St := (frOf 74 (upd (upd (upd (upd anyF 1 (.ptr 0 0 0)) 8 (.ts .imm 1 (a0.path.map encInt))) 9 (.int .i64 p1)) 10 (.int .i64 s)), [some ⟨.box, 6, [[.int .i64 a0.origin, .ts .imm 1 (a0.path.map encInt), .int .i64 a0.next, .int .i64 a0.med, .int .i64 a0.pref, .ts .imm 1 (a0.comms.map encInt)]]⟩])
theorem b49_1 (a0 : Attrs) (p1 : Int) (s : Int) (o : Ctl Int (Unit ⊕ Unit)) (h : m49_1b a0 p1 s = some o) : evCL T 0 k49_1b (E49_1 a0 p1 s).1 (E49_1 a0 p1 s).2 = some (ctlX (E49_1 a0 p1) (X49_1 a0 p1) o) := by
  unfold m49_1b at h
  revert h
  generalize s = s12
  intro h
  try simp -implicitDefEqProofs only [go_sem, Nat.reduceLT, Nat.reduceAdd, Nat.reduceSub, Nat.reduceMul, Nat.reduceEqDiff, Nat.reduceBEq, Nat.reduceLeDiff, Int.reduceToNat, Int.reduceLT, Int.reduceLE, Int.reduceEq, reduceCtorEq, ↓reduceIte, E49_1, X49_1, k49_1b]
  cases b13 : (ltI s12 p1 : Bool)
  · replace h := br_f b13 h
    cases h
    simp -implicitDefEqProofs only [go_sem, Nat.reduceLT, Nat.reduceAdd, Nat.reduceSub, Nat.reduceMul, Nat.reduceEqDiff, Nat.reduceBEq, Nat.reduceLeDiff, Int.reduceToNat, Int.reduceLT, Int.reduceLE, Int.reduceEq, reduceCtorEq, ↓reduceIte, E49_1, X49_1, k49_1b, b13]
  · replace h := br_t b13 h
    obtain ⟨x14, q15, h⟩ := bnd_some h
    obtain ⟨g16, g17, g18⟩ := idx_row encInt q15
    try simp -implicitDefEqProofs only [go_sem, Nat.reduceLT, Nat.reduceAdd, Nat.reduceSub, Nat.reduceMul, Nat.reduceEqDiff, Nat.reduceBEq, Nat.reduceLeDiff, Int.reduceToNat, Int.reduceLT, Int.reduceLE, Int.reduceEq, reduceCtorEq, ↓reduceIte] at g17
    try simp -implicitDefEqProofs only [go_sem, Nat.reduceLT, Nat.reduceAdd, Nat.reduceSub, Nat.reduceMul, Nat.reduceEqDiff, Nat.reduceBEq, Nat.reduceLeDiff, Int.reduceToNat, Int.reduceLT, Int.reduceLE, Int.reduceEq, reduceCtorEq, ↓reduceIte] at g18
    obtain ⟨r21, q19, h⟩ := bnd_some h
    have w20 := e48 x14 1 65535 r21 q19
    try simp -implicitDefEqProofs only [go_sem, Nat.reduceLT, Nat.reduceAdd, Nat.reduceSub, Nat.reduceMul, Nat.reduceEqDiff, Nat.reduceBEq, Nat.reduceLeDiff, Int.reduceToNat, Int.reduceLT, Int.reduceLE, Int.reduceEq, reduceCtorEq, ↓reduceIte] at w20
    try simp -implicitDefEqProofs only [go_sem, Nat.reduceLT, Nat.reduceAdd, Nat.reduceSub, Nat.reduceMul, Nat.reduceEqDiff, Nat.reduceBEq, Nat.reduceLeDiff, Int.reduceToNat, Int.reduceLT, Int.reduceLE, Int.reduceEq, reduceCtorEq, ↓reduceIte, E49_1, X49_1, k49_1b, b13, g16, g17, g18, w20]
    cases b22 : (r21 : Bool)
    · replace h := br_f b22 h
      cases h
      simp -implicitDefEqProofs only [go_sem, Nat.reduceLT, Nat.reduceAdd, Nat.reduceSub, Nat.reduceMul, Nat.reduceEqDiff, Nat.reduceBEq, Nat.reduceLeDiff, Int.reduceToNat, Int.reduceLT, Int.reduceLE, Int.reduceEq, reduceCtorEq, ↓reduceIte, E49_1, X49_1, k49_1b, b13, g16, g17, g18, w20, b22]
    · replace h := br_t b22 h
      cases h
      simp -implicitDefEqProofs only [go_sem, Nat.reduceLT, Nat.reduceAdd, Nat.reduceSub, Nat.reduceMul, Nat.reduceEqDiff, Nat.reduceBEq, Nat.reduceLeDiff, Int.reduceToNat, Int.reduceLT, Int.reduceLE, Int.reduceEq, reduceCtorEq, ↓reduceIte, E49_1, X49_1, k49_1b, b13, g16, g17, g18, w20, b22]
theorem e49_1 (a0 : Attrs) (p1 : Int) (s : Int) (o : (Unit ⊕ Unit)) (h : loopP (m49_1b a0 p1) s = some o) : evCL T 0 (.loop k49_1b) (E49_1 a0 p1 s).1 (E49_1 a0 p1 s).2 = some (X49_1 a0 p1 o) :=
  loop_walk (E := E49_1 a0 p1) (X := X49_1 a0 p1) (by intro b; rcases b with b | b <;> (simp only [X49_1]; nofun)) (b49_1 a0 p1) s o h
def X49_4 (s46 : Int) (x48 : Int) (a0 : Attrs) (p25 : Int) (o : Bool) : Ex × Fr × St :=
  (.normal, frOf 74 (upd (upd (upd (upd (upd anyF 1 (.ptr 0 0 0)) 19 (.ts .imm 1 (a0.comms.map encInt))) 20 (.int .i64 p25)) 21 (.int .i64 s46)) 42 (.bool o)), [some ⟨.box, 6, [[.int .i64 a0.origin, .ts .imm 1 (a0.path.map encInt), .int .i64 a0.next, .int .i64 a0.med, .int .i64 a0.pref, .ts .imm 1 (a0.comms.map encInt)]]⟩])
theorem e49_4 (s46 : Int) (x48 : Int) (a0 : Attrs) (p25 : Int) (o : Bool) (h : m49_4 s46 x48 a0 = some o) : evCL T 0 k49_4 (frOf 74 (upd (upd (upd (upd (upd (upd anyF 1 (.ptr 0 0 0)) 5 (.int .i64 s46)) 6 (.int .i64 x48)) 19 (.ts .imm 1 (a0.comms.map encInt))) 20 (.int .i64 p25)) 21 (.int .i64 s46))) [some ⟨.box, 6, [[.int .i64 a0.origin, .ts .imm 1 (a0.path.map encInt), .int .i64 a0.next, .int .i64 a0.med, .int .i64 a0.pref, .ts .imm 1 (a0.comms.map encInt)]]⟩] = some (X49_4 s46 x48 a0 p25 o) := by
  unfold m49_4 at h
  obtain ⟨r55, q53, h⟩ := bnd_some h
  have w54 := e48 x48 0 1000000 r55 q53
  try simp -implicitDefEqProofs only [go_sem, Nat.reduceLT, Nat.reduceAdd, Nat.reduceSub, Nat.reduceMul, Nat.reduceEqDiff, Nat.reduceBEq, Nat.reduceLeDiff, Int.reduceToNat, Int.reduceLT, Int.reduceLE, Int.reduceEq, reduceCtorEq, ↓reduceIte] at w54
  try simp -implicitDefEqProofs only [go_sem, Nat.reduceLT, Nat.reduceAdd, Nat.reduceSub, Nat.reduceMul, Nat.reduceEqDiff, Nat.reduceBEq, Nat.reduceLeDiff, Int.reduceToNat, Int.reduceLT, Int.reduceLE, Int.reduceEq, reduceCtorEq, ↓reduceIte, X49_4, k49_4, w54]
  cases b56 : (r55 : Bool)
  · replace h := br_f b56 h
    cases h
    simp -implicitDefEqProofs only [go_sem, Nat.reduceLT, Nat.reduceAdd, Nat.reduceSub, Nat.reduceMul, Nat.reduceEqDiff, Nat.reduceBEq, Nat.reduceLeDiff, Int.reduceToNat, Int.reduceLT, Int.reduceLE, Int.reduceEq, reduceCtorEq, ↓reduceIte, X49_4, k49_4, w54, b56]
  · replace h := br_t b56 h
    try simp -implicitDefEqProofs only [go_sem, Nat.reduceLT, Nat.reduceAdd, Nat.reduceSub, Nat.reduceMul, Nat.reduceEqDiff, Nat.reduceBEq, Nat.reduceLeDiff, Int.reduceToNat, Int.reduceLT, Int.reduceLE, Int.reduceEq, reduceCtorEq, ↓reduceIte, X49_4, k49_4, w54, b56]
    cases b57 : (ltI 0 s46 : Bool)
    · replace h := br_f b57 h
      cases h
      simp -implicitDefEqProofs only [go_sem, Nat.reduceLT, Nat.reduceAdd, Nat.reduceSub, Nat.reduceMul, Nat.reduceEqDiff, Nat.reduceBEq, Nat.reduceLeDiff, Int.reduceToNat, Int.reduceLT, Int.reduceLE, Int.reduceEq, reduceCtorEq, ↓reduceIte, X49_4, k49_4, w54, b56, b57]
    · replace h := br_t b57 h
      obtain ⟨x58, q59, h⟩ := bnd_some h
      obtain ⟨g60, g61, g62⟩ := idx_row encInt q59
      try simp -implicitDefEqProofs only [go_sem, Nat.reduceLT, Nat.reduceAdd, Nat.reduceSub, Nat.reduceMul, Nat.reduceEqDiff, Nat.reduceBEq, Nat.reduceLeDiff, Int.reduceToNat, Int.reduceLT, Int.reduceLE, Int.reduceEq, reduceCtorEq, ↓reduceIte] at g61
      try simp -implicitDefEqProofs only [go_sem, Nat.reduceLT, Nat.reduceAdd, Nat.reduceSub, Nat.reduceMul, Nat.reduceEqDiff, Nat.reduceBEq, Nat.reduceLeDiff, Int.reduceToNat, Int.reduceLT, Int.reduceLE, Int.reduceEq, reduceCtorEq, ↓reduceIte] at g62
      cases h
      simp -implicitDefEqProofs only [go_sem, Nat.reduceLT, Nat.reduceAdd, Nat.reduceSub, Nat.reduceMul, Nat.reduceEqDiff, Nat.reduceBEq, Nat.reduceLeDiff, Int.reduceToNat, Int.reduceLT, Int.reduceLE, Int.reduceEq, reduceCtorEq, ↓reduceIte, X49_4, k49_4, w54, b56, b57, g60, g61, g62]
def X49_2 (a0 : Attrs) (p25 : Int) (o : (Unit ⊕ Unit)) : Ex × Fr × St :=
  match o with
  | .inl o => (.exit 2, frOf 74 (upd anyF 1 (.ptr 0 0 0)), [some ⟨.box, 6, [[.int .i64 a0.origin, .ts .imm 1 (a0.path.map encInt), .int .i64 a0.next, .int .i64 a0.med, .int .i64 a0.pref, .ts .imm 1 (a0.comms.map encInt)]]⟩])
  | .inr o => (.ret, frOf 74 (upd anyF 2 (.bool false)), [])
def E49_2 (a0 : Attrs) (p25 : Int) (s : Int) : Fr × St := (frOf 74 (upd (upd (upd (upd anyF 1 (.ptr 0 0 0)) 19 (.ts .imm 1 (a0.comms.map encInt))) 20 (.int .i64 p25)) 21 (.int .i64 s)), [some ⟨.box, 6, [[.int .i64 a0.origin, .ts .imm 1 (a0.path.map encInt), .int .i64 a0.next, .int .i64 a0.med, .int .i64 a0.pref, .ts .imm 1 (a0.comms.map encInt)]]⟩])
theorem b49_2 (a0 : Attrs) (p25 : Int) (s : Int) (o : Ctl Int (Unit ⊕ Unit)) (h : m49_2b a0 p25 s = some o) : evCL T 0 k49_2b (E49_2 a0 p25 s).1 (E49_2 a0 p25 s).2 = some (ctlX (E49_2 a0 p25) (X49_2 a0 p25) o) := by
  unfold m49_2b at h
  revert h
  generalize s = s46
  intro h
  try simp -implicitDefEqProofs only [go_sem, Nat.reduceLT, Nat.reduceAdd, Nat.reduceSub, Nat.reduceMul, Nat.reduceEqDiff, Nat.reduceBEq, Nat.reduceLeDiff, Int.reduceToNat, Int.reduceLT, Int.reduceLE, Int.reduceEq, reduceCtorEq, ↓reduceIte, E49_2, X49_2, k49_2b]
  cases b47 : (ltI s46 p25 : Bool)
  · replace h := br_f b47 h
    cases h
    simp -implicitDefEqProofs only [go_sem, Nat.reduceLT, Nat.reduceAdd, Nat.reduceSub, Nat.reduceMul, Nat.reduceEqDiff, Nat.reduceBEq, Nat.reduceLeDiff, Int.reduceToNat, Int.reduceLT, Int.reduceLE, Int.reduceEq, reduceCtorEq, ↓reduceIte, E49_2, X49_2, k49_2b, b47]
  · replace h := br_t b47 h
    obtain ⟨x48, q49, h⟩ := bnd_some h
    obtain ⟨g50, g51, g52⟩ := idx_row encInt q49
    try simp -implicitDefEqProofs only [go_sem, Nat.reduceLT, Nat.reduceAdd, Nat.reduceSub, Nat.reduceMul, Nat.reduceEqDiff, Nat.reduceBEq, Nat.reduceLeDiff, Int.reduceToNat, Int.reduceLT, Int.reduceLE, Int.reduceEq, reduceCtorEq, ↓reduceIte] at g51
    try simp -implicitDefEqProofs only [go_sem, Nat.reduceLT, Nat.reduceAdd, Nat.reduceSub, Nat.reduceMul, Nat.reduceEqDiff, Nat.reduceBEq, Nat.reduceLeDiff, Int.reduceToNat, Int.reduceLT, Int.reduceLE, Int.reduceEq, reduceCtorEq, ↓reduceIte] at g52
    obtain ⟨v65, q63, h⟩ := bnd_some h
    have w64 := e49_4 s46 x48 a0 p25 v65 q63
    simp only [X49_4] at w64
    try simp -implicitDefEqProofs only [go_sem, Nat.reduceLT, Nat.reduceAdd, Nat.reduceSub, Nat.reduceMul, Nat.reduceEqDiff, Nat.reduceBEq, Nat.reduceLeDiff, Int.reduceToNat, Int.reduceLT, Int.reduceLE, Int.reduceEq, reduceCtorEq, ↓reduceIte] at w64
    try simp -implicitDefEqProofs only [go_sem, Nat.reduceLT, Nat.reduceAdd, Nat.reduceSub, Nat.reduceMul, Nat.reduceEqDiff, Nat.reduceBEq, Nat.reduceLeDiff, Int.reduceToNat, Int.reduceLT, Int.reduceLE, Int.reduceEq, reduceCtorEq, ↓reduceIte, E49_2, X49_2, k49_2b, b47, g50, g51, g52, w64]
    cases b66 : (v65 : Bool)
    · replace h := br_f b66 h
      cases h
      simp -implicitDefEqProofs only [go_sem, Nat.reduceLT, Nat.reduceAdd, Nat.reduceSub, Nat.reduceMul, Nat.reduceEqDiff, Nat.reduceBEq, Nat.reduceLeDiff, Int.reduceToNat, Int.reduceLT, Int.reduceLE, Int.reduceEq, reduceCtorEq, ↓reduceIte, E49_2, X49_2, k49_2b, b47, g50, g51, g52, w64, b66]
    · replace h := br_t b66 h
      cases h
      simp -implicitDefEqProofs only [go_sem, Nat.reduceLT, Nat.reduceAdd, Nat.reduceSub, Nat.reduceMul, Nat.reduceEqDiff, Nat.reduceBEq, Nat.reduceLeDiff, Int.reduceToNat, Int.reduceLT, Int.reduceLE, Int.reduceEq, reduceCtorEq, ↓reduceIte, E49_2, X49_2, k49_2b, b47, g50, g51, g52, w64, b66]
theorem e49_2 (a0 : Attrs) (p25 : Int) (s : Int) (o : (Unit ⊕ Unit)) (h : loopP (m49_2b a0 p25) s = some o) : evCL T 0 (.loop k49_2b) (E49_2 a0 p25 s).1 (E49_2 a0 p25 s).2 = some (X49_2 a0 p25 o) :=
  loop_walk (E := E49_2 a0 p25) (X := X49_2 a0 p25) (by intro b; rcases b with b | b <;> (simp only [X49_2]; nofun)) (b49_2 a0 p25) s o h
def X49_5 (a0 : Attrs) (o : Bool) : Ex × Fr × St :=
  (.normal, frOf 74 (upd anyF 2 (.bool o)), [])
theorem e49_5 (a0 : Attrs) (o : Bool) (h : m49_5 a0 = some o) : evCL T 0 k49_5 (frOf 74 (upd anyF 1 (.ptr 0 0 0))) [some ⟨.box, 6, [[.int .i64 a0.origin, .ts .imm 1 (a0.path.map encInt), .int .i64 a0.next, .int .i64 a0.med, .int .i64 a0.pref, .ts .imm 1 (a0.comms.map encInt)]]⟩] = some (X49_5 a0 o) := by
  unfold m49_5 at h
  obtain ⟨r71, q69, h⟩ := bnd_some h
  have w70 := e48 a0.origin 0 2 r71 q69
  try simp -implicitDefEqProofs only [go_sem, Nat.reduceLT, Nat.reduceAdd, Nat.reduceSub, Nat.reduceMul, Nat.reduceEqDiff, Nat.reduceBEq, Nat.reduceLeDiff, Int.reduceToNat, Int.reduceLT, Int.reduceLE, Int.reduceEq, reduceCtorEq, ↓reduceIte] at w70
  try simp -implicitDefEqProofs only [go_sem, Nat.reduceLT, Nat.reduceAdd, Nat.reduceSub, Nat.reduceMul, Nat.reduceEqDiff, Nat.reduceBEq, Nat.reduceLeDiff, Int.reduceToNat, Int.reduceLT, Int.reduceLE, Int.reduceEq, reduceCtorEq, ↓reduceIte, X49_5, k49_5, w70]
  cases b72 : (r71 : Bool)
  · replace h := br_f b72 h
    cases h
    simp -implicitDefEqProofs only [go_sem, Nat.reduceLT, Nat.reduceAdd, Nat.reduceSub, Nat.reduceMul, Nat.reduceEqDiff, Nat.reduceBEq, Nat.reduceLeDiff, Int.reduceToNat, Int.reduceLT, Int.reduceLE, Int.reduceEq, reduceCtorEq, ↓reduceIte, X49_5, k49_5, w70, b72]
  · replace h := br_t b72 h
    try simp -implicitDefEqProofs only [go_sem, Nat.reduceLT, Nat.reduceAdd, Nat.reduceSub, Nat.reduceMul, Nat.reduceEqDiff, Nat.reduceBEq, Nat.reduceLeDiff, Int.reduceToNat, Int.reduceLT, Int.reduceLE, Int.reduceEq, reduceCtorEq, ↓reduceIte, X49_5, k49_5, w70, b72]
    cases b73 : (leI (↑a0.path.length : Int) 10 : Bool)
    · replace h := br_f b73 h
      cases h
      simp -implicitDefEqProofs only [go_sem, Nat.reduceLT, Nat.reduceAdd, Nat.reduceSub, Nat.reduceMul, Nat.reduceEqDiff, Nat.reduceBEq, Nat.reduceLeDiff, Int.reduceToNat, Int.reduceLT, Int.reduceLE, Int.reduceEq, reduceCtorEq, ↓reduceIte, X49_5, k49_5, w70, b72, b73]
    · replace h := br_t b73 h
      obtain ⟨r76, q74, h⟩ := bnd_some h
      have w75 := e75 a0.next r76 q74
      try simp -implicitDefEqProofs only [go_sem, Nat.reduceLT, Nat.reduceAdd, Nat.reduceSub, Nat.reduceMul, Nat.reduceEqDiff, Nat.reduceBEq, Nat.reduceLeDiff, Int.reduceToNat, Int.reduceLT, Int.reduceLE, Int.reduceEq, reduceCtorEq, ↓reduceIte] at w75
      try simp -implicitDefEqProofs only [go_sem, Nat.reduceLT, Nat.reduceAdd, Nat.reduceSub, Nat.reduceMul, Nat.reduceEqDiff, Nat.reduceBEq, Nat.reduceLeDiff, Int.reduceToNat, Int.reduceLT, Int.reduceLE, Int.reduceEq, reduceCtorEq, ↓reduceIte, X49_5, k49_5, w70, b72, b73, w75]
      cases b77 : (r76 : Bool)
      · replace h := br_f b77 h
        cases h
        simp -implicitDefEqProofs only [go_sem, Nat.reduceLT, Nat.reduceAdd, Nat.reduceSub, Nat.reduceMul, Nat.reduceEqDiff, Nat.reduceBEq, Nat.reduceLeDiff, Int.reduceToNat, Int.reduceLT, Int.reduceLE, Int.reduceEq, reduceCtorEq, ↓reduceIte, X49_5, k49_5, w70, b72, b73, w75, b77]
      · replace h := br_t b77 h
        obtain ⟨r80, q78, h⟩ := bnd_some h
        have w79 := e48 a0.med 0 1000000 r80 q78
        try simp -implicitDefEqProofs only [go_sem, Nat.reduceLT, Nat.reduceAdd, Nat.reduceSub, Nat.reduceMul, Nat.reduceEqDiff, Nat.reduceBEq, Nat.reduceLeDiff, Int.reduceToNat, Int.reduceLT, Int.reduceLE, Int.reduceEq, reduceCtorEq, ↓reduceIte] at w79
        try simp -implicitDefEqProofs only [go_sem, Nat.reduceLT, Nat.reduceAdd, Nat.reduceSub, Nat.reduceMul, Nat.reduceEqDiff, Nat.reduceBEq, Nat.reduceLeDiff, Int.reduceToNat, Int.reduceLT, Int.reduceLE, Int.reduceEq, reduceCtorEq, ↓reduceIte, X49_5, k49_5, w70, b72, b73, w75, b77, w79]
        cases b81 : (r80 : Bool)
        · replace h := br_f b81 h
          cases h
          simp -implicitDefEqProofs only [go_sem, Nat.reduceLT, Nat.reduceAdd, Nat.reduceSub, Nat.reduceMul, Nat.reduceEqDiff, Nat.reduceBEq, Nat.reduceLeDiff, Int.reduceToNat, Int.reduceLT, Int.reduceLE, Int.reduceEq, reduceCtorEq, ↓reduceIte, X49_5, k49_5, w70, b72, b73, w75, b77, w79, b81]
        · replace h := br_t b81 h
          obtain ⟨r84, q82, h⟩ := bnd_some h
          have w83 := e48 a0.pref 0 1000000 r84 q82
          try simp -implicitDefEqProofs only [go_sem, Nat.reduceLT, Nat.reduceAdd, Nat.reduceSub, Nat.reduceMul, Nat.reduceEqDiff, Nat.reduceBEq, Nat.reduceLeDiff, Int.reduceToNat, Int.reduceLT, Int.reduceLE, Int.reduceEq, reduceCtorEq, ↓reduceIte] at w83
          try simp -implicitDefEqProofs only [go_sem, Nat.reduceLT, Nat.reduceAdd, Nat.reduceSub, Nat.reduceMul, Nat.reduceEqDiff, Nat.reduceBEq, Nat.reduceLeDiff, Int.reduceToNat, Int.reduceLT, Int.reduceLE, Int.reduceEq, reduceCtorEq, ↓reduceIte, X49_5, k49_5, w70, b72, b73, w75, b77, w79, b81, w83]
          cases b85 : (r84 : Bool)
          · replace h := br_f b85 h
            cases h
            simp -implicitDefEqProofs only [go_sem, Nat.reduceLT, Nat.reduceAdd, Nat.reduceSub, Nat.reduceMul, Nat.reduceEqDiff, Nat.reduceBEq, Nat.reduceLeDiff, Int.reduceToNat, Int.reduceLT, Int.reduceLE, Int.reduceEq, reduceCtorEq, ↓reduceIte, X49_5, k49_5, w70, b72, b73, w75, b77, w79, b81, w83, b85]
          · replace h := br_t b85 h
            cases h
            simp -implicitDefEqProofs only [go_sem, Nat.reduceLT, Nat.reduceAdd, Nat.reduceSub, Nat.reduceMul, Nat.reduceEqDiff, Nat.reduceBEq, Nat.reduceLeDiff, Int.reduceToNat, Int.reduceLT, Int.reduceLE, Int.reduceEq, reduceCtorEq, ↓reduceIte, X49_5, k49_5, w70, b72, b73, w75, b77, w79, b81, w83, b85]
theorem call49 (args : List AV) (S : St) : evCall T (evFL T) 49 args S = lendC (evFL T 49) S (lendAll S [[0, 1, 0, 0, 0, 1]] args) := evCall0 fn49 rfl rfl args S
theorem callz49 (args : List AV) (S : St) : evCallFz T (evFL T) 49 args S = lendZ (evFL T 49) S [[0]] (lendAll S [[0, 1, 0, 0, 0, 1]] args) := evCallFz0 fn49 rfl rfl args S
attribute [go_sem] call49 callz49
theorem e49 (a0 : Attrs) (r : Bool) (h : m49 a0 = some r) : evFL T 49 [.agg [.int .i64 a0.origin, .ts .imm 1 (a0.path.map encInt), .int .i64 a0.next, .int .i64 a0.med, .int .i64 a0.pref, .ts .imm 1 (a0.comms.map encInt)]] [] = some (.bool r, []) := by
  unfold m49 at h
  rw [evFL_at fn49 (Nat.le_of_ble_eq_true rfl) rfl (.inr rfl)]
  try simp -implicitDefEqProofs only [go_sem, Nat.reduceLT, Nat.reduceAdd, Nat.reduceSub, Nat.reduceMul, Nat.reduceEqDiff, Nat.reduceBEq, Nat.reduceLeDiff, Int.reduceToNat, Int.reduceLT, Int.reduceLE, Int.reduceEq, reduceCtorEq, ↓reduceIte, i49, c49]
  obtain ⟨o, q23, h⟩ := bnd_some h
  rcases o with ⟨⟩ | ⟨⟩
  · replace h := selS_l h
    have w24 := e49_1 a0 (↑a0.path.length : Int) 0 (.inl ()) q23
    simp only [E49_1, X49_1] at w24
    try simp -implicitDefEqProofs only [go_sem, Nat.reduceLT, Nat.reduceAdd, Nat.reduceSub, Nat.reduceMul, Nat.reduceEqDiff, Nat.reduceBEq, Nat.reduceLeDiff, Int.reduceToNat, Int.reduceLT, Int.reduceLE, Int.reduceEq, reduceCtorEq, ↓reduceIte] at w24
    try simp -implicitDefEqProofs only [go_sem, Nat.reduceLT, Nat.reduceAdd, Nat.reduceSub, Nat.reduceMul, Nat.reduceEqDiff, Nat.reduceBEq, Nat.reduceLeDiff, Int.reduceToNat, Int.reduceLT, Int.reduceLE, Int.reduceEq, reduceCtorEq, ↓reduceIte, i49, c49, w24]
    obtain ⟨o, q67, h⟩ := bnd_some h
    rcases o with ⟨⟩ | ⟨⟩
    · replace h := selS_l h
      have w68 := e49_2 a0 (↑a0.comms.length : Int) 0 (.inl ()) q67
      simp only [E49_2, X49_2] at w68
      try simp -implicitDefEqProofs only [go_sem, Nat.reduceLT, Nat.reduceAdd, Nat.reduceSub, Nat.reduceMul, Nat.reduceEqDiff, Nat.reduceBEq, Nat.reduceLeDiff, Int.reduceToNat, Int.reduceLT, Int.reduceLE, Int.reduceEq, reduceCtorEq, ↓reduceIte] at w68
      obtain ⟨v88, q86, h⟩ := bnd_some h
      have w87 := e49_5 a0 v88 q86
      simp only [X49_5] at w87
      try simp -implicitDefEqProofs only [go_sem, Nat.reduceLT, Nat.reduceAdd, Nat.reduceSub, Nat.reduceMul, Nat.reduceEqDiff, Nat.reduceBEq, Nat.reduceLeDiff, Int.reduceToNat, Int.reduceLT, Int.reduceLE, Int.reduceEq, reduceCtorEq, ↓reduceIte] at w87
      cases h
      simp -implicitDefEqProofs only [go_sem, Nat.reduceLT, Nat.reduceAdd, Nat.reduceSub, Nat.reduceMul, Nat.reduceEqDiff, Nat.reduceBEq, Nat.reduceLeDiff, Int.reduceToNat, Int.reduceLT, Int.reduceLE, Int.reduceEq, reduceCtorEq, ↓reduceIte, i49, c49, w24, w68, w87]
    · replace h := selS_r h
      have w68 := e49_2 a0 (↑a0.comms.length : Int) 0 (.inr ()) q67
      simp only [E49_2, X49_2] at w68
      try simp -implicitDefEqProofs only [go_sem, Nat.reduceLT, Nat.reduceAdd, Nat.reduceSub, Nat.reduceMul, Nat.reduceEqDiff, Nat.reduceBEq, Nat.reduceLeDiff, Int.reduceToNat, Int.reduceLT, Int.reduceLE, Int.reduceEq, reduceCtorEq, ↓reduceIte] at w68
      cases h
      simp -implicitDefEqProofs only [go_sem, Nat.reduceLT, Nat.reduceAdd, Nat.reduceSub, Nat.reduceMul, Nat.reduceEqDiff, Nat.reduceBEq, Nat.reduceLeDiff, Int.reduceToNat, Int.reduceLT, Int.reduceLE, Int.reduceEq, reduceCtorEq, ↓reduceIte, i49, c49, w24, w68]
  · replace h := selS_r h
    have w24 := e49_1 a0 (↑a0.path.length : Int) 0 (.inr ()) q23
    simp only [E49_1, X49_1] at w24
    try simp -implicitDefEqProofs only [go_sem, Nat.reduceLT, Nat.reduceAdd, Nat.reduceSub, Nat.reduceMul, Nat.reduceEqDiff, Nat.reduceBEq, Nat.reduceLeDiff, Int.reduceToNat, Int.reduceLT, Int.reduceLE, Int.reduceEq, reduceCtorEq, ↓reduceIte] at w24
    cases h
    simp -implicitDefEqProofs only [go_sem, Nat.reduceLT, Nat.reduceAdd, Nat.reduceSub, Nat.reduceMul, Nat.reduceEqDiff, Nat.reduceBEq, Nat.reduceLeDiff, Int.reduceToNat, Int.reduceLT, Int.reduceLE, Int.reduceEq, reduceCtorEq, ↓reduceIte, i49, c49, w24]
-- f13 spec.GoodOffers
def X13_3 (a0 : (List Offer)) (s26 : Int) (p1 : Int) (x28 : Offer) (o : Bool) : Ex × Fr × St :=
  (.normal, frOf 38 (upd (upd (upd (upd (upd anyF 0 (.ts .imm 7 (a0.map (encOffer .imm)))) 5 (.ts .imm 7 (a0.map (encOffer .imm)))) 6 (.int .i64 p1)) 7 (.int .i64 s26)) 36 (.bool o)), [])
theorem e13_3 (a0 : (List Offer)) (s26 : Int) (p1 : Int) (x28 : Offer) (o : Bool) (h : m13_3 a0 s26 x28 = some o) : evCL T 0 k13_3 (frOf 38 (upd (upd (upd (upd (upd (upd anyF 0 (.ts .imm 7 (a0.map (encOffer .imm)))) 3 (.int .i64 s26)) 4 (.ptr 0 0 0)) 5 (.ts .imm 7 (a0.map (encOffer .imm)))) 6 (.int .i64 p1)) 7 (.int .i64 s26))) [some ⟨.box, 7, [[.int .i64 x28.peer, .int .i64 x28.attrs.origin, .ts .imm 1 (x28.attrs.path.map encInt), .int .i64 x28.attrs.next, .int .i64 x28.attrs.med, .int .i64 x28.attrs.pref, .ts .imm 1 (x28.attrs.comms.map encInt)]]⟩] = some (X13_3 a0 s26 p1 x28 o) := by
  unfold m13_3 at h
  obtain ⟨r35, q33, h⟩ := bnd_some h
  have w34 := e48 x28.peer 0 5 r35 q33
  try simp -implicitDefEqProofs only [go_sem, Nat.reduceLT, Nat.reduceAdd, Nat.reduceSub, Nat.reduceMul, Nat.reduceEqDiff, Nat.reduceBEq, Nat.reduceLeDiff, Int.reduceToNat, Int.reduceLT, Int.reduceLE, Int.reduceEq, reduceCtorEq, ↓reduceIte] at w34
  try simp -implicitDefEqProofs only [go_sem, Nat.reduceLT, Nat.reduceAdd, Nat.reduceSub, Nat.reduceMul, Nat.reduceEqDiff, Nat.reduceBEq, Nat.reduceLeDiff, Int.reduceToNat, Int.reduceLT, Int.reduceLE, Int.reduceEq, reduceCtorEq, ↓reduceIte, X13_3, k13_3, w34]
  cases b36 : (r35 : Bool)
  · replace h := br_f b36 h
    cases h
    simp -implicitDefEqProofs only [go_sem, Nat.reduceLT, Nat.reduceAdd, Nat.reduceSub, Nat.reduceMul, Nat.reduceEqDiff, Nat.reduceBEq, Nat.reduceLeDiff, Int.reduceToNat, Int.reduceLT, Int.reduceLE, Int.reduceEq, reduceCtorEq, ↓reduceIte, X13_3, k13_3, w34, b36]
  · replace h := br_t b36 h
    obtain ⟨r39, q37, h⟩ := bnd_some h
    have w38 := e49 x28.attrs r39 q37
    try simp -implicitDefEqProofs only [go_sem, Nat.reduceLT, Nat.reduceAdd, Nat.reduceSub, Nat.reduceMul, Nat.reduceEqDiff, Nat.reduceBEq, Nat.reduceLeDiff, Int.reduceToNat, Int.reduceLT, Int.reduceLE, Int.reduceEq, reduceCtorEq, ↓reduceIte] at w38
    try simp -implicitDefEqProofs only [go_sem, Nat.reduceLT, Nat.reduceAdd, Nat.reduceSub, Nat.reduceMul, Nat.reduceEqDiff, Nat.reduceBEq, Nat.reduceLeDiff, Int.reduceToNat, Int.reduceLT, Int.reduceLE, Int.reduceEq, reduceCtorEq, ↓reduceIte, X13_3, k13_3, w34, b36, w38]
    cases b40 : (r39 : Bool)
    · replace h := br_f b40 h
      cases h
      simp -implicitDefEqProofs only [go_sem, Nat.reduceLT, Nat.reduceAdd, Nat.reduceSub, Nat.reduceMul, Nat.reduceEqDiff, Nat.reduceBEq, Nat.reduceLeDiff, Int.reduceToNat, Int.reduceLT, Int.reduceLE, Int.reduceEq, reduceCtorEq, ↓reduceIte, X13_3, k13_3, w34, b36, w38, b40]
    · replace h := br_t b40 h
      try simp -implicitDefEqProofs only [go_sem, Nat.reduceLT, Nat.reduceAdd, Nat.reduceSub, Nat.reduceMul, Nat.reduceEqDiff, Nat.reduceBEq, Nat.reduceLeDiff, Int.reduceToNat, Int.reduceLT, Int.reduceLE, Int.reduceEq, reduceCtorEq, ↓reduceIte, X13_3, k13_3, w34, b36, w38, b40]
      cases b41 : (ltI 0 s26 : Bool)
      · replace h := br_f b41 h
        cases h
        simp -implicitDefEqProofs only [go_sem, Nat.reduceLT, Nat.reduceAdd, Nat.reduceSub, Nat.reduceMul, Nat.reduceEqDiff, Nat.reduceBEq, Nat.reduceLeDiff, Int.reduceToNat, Int.reduceLT, Int.reduceLE, Int.reduceEq, reduceCtorEq, ↓reduceIte, X13_3, k13_3, w34, b36, w38, b40, b41]
      · replace h := br_t b41 h
        obtain ⟨x42, q43, h⟩ := bnd_some h
        obtain ⟨g44, g45, g46⟩ := idx_row (encOffer .imm) q43
        try simp -implicitDefEqProofs only [go_sem, Nat.reduceLT, Nat.reduceAdd, Nat.reduceSub, Nat.reduceMul, Nat.reduceEqDiff, Nat.reduceBEq, Nat.reduceLeDiff, Int.reduceToNat, Int.reduceLT, Int.reduceLE, Int.reduceEq, reduceCtorEq, ↓reduceIte] at g45
        try simp -implicitDefEqProofs only [go_sem, Nat.reduceLT, Nat.reduceAdd, Nat.reduceSub, Nat.reduceMul, Nat.reduceEqDiff, Nat.reduceBEq, Nat.reduceLeDiff, Int.reduceToNat, Int.reduceLT, Int.reduceLE, Int.reduceEq, reduceCtorEq, ↓reduceIte] at g46
        cases h
        simp -implicitDefEqProofs only [go_sem, Nat.reduceLT, Nat.reduceAdd, Nat.reduceSub, Nat.reduceMul, Nat.reduceEqDiff, Nat.reduceBEq, Nat.reduceLeDiff, Int.reduceToNat, Int.reduceLT, Int.reduceLE, Int.reduceEq, reduceCtorEq, ↓reduceIte, X13_3, k13_3, w34, b36, w38, b40, b41, g44, g45, g46]
def X13_1 (a0 : (List Offer)) (p1 : Int) (o : (Unit ⊕ Unit)) : Ex × Fr × St :=
  match o with
  | .inl o => (.exit 0, frOf 38 (anyF), [])
  | .inr o => (.ret, frOf 38 (upd anyF 2 (.bool false)), [])
def E13_1 (a0 : (List Offer)) (p1 : Int) (s : Int) : Fr × St := (frOf 38 (upd (upd (upd (upd anyF 0 (.ts .imm 7 (a0.map (encOffer .imm)))) 5 (.ts .imm 7 (a0.map (encOffer .imm)))) 6 (.int .i64 p1)) 7 (.int .i64 s)), [])
theorem b13_1 (a0 : (List Offer)) (p1 : Int) (s : Int) (o : Ctl Int (Unit ⊕ Unit)) (h : m13_1b a0 p1 s = some o) : evCL T 0 k13_1b (E13_1 a0 p1 s).1 (E13_1 a0 p1 s).2 = some (ctlX (E13_1 a0 p1) (X13_1 a0 p1) o) := by
  unfold m13_1b at h
  revert h
  generalize s = s26
  intro h
  try simp -implicitDefEqProofs only [go_sem, Nat.reduceLT, Nat.reduceAdd, Nat.reduceSub, Nat.reduceMul, Nat.reduceEqDiff, Nat.reduceBEq, Nat.reduceLeDiff, Int.reduceToNat, Int.reduceLT, Int.reduceLE, Int.reduceEq, reduceCtorEq, ↓reduceIte, E13_1, X13_1, k13_1b]
  cases b27 : (ltI s26 p1 : Bool)
  · replace h := br_f b27 h
    cases h
    simp -implicitDefEqProofs only [go_sem, Nat.reduceLT, Nat.reduceAdd, Nat.reduceSub, Nat.reduceMul, Nat.reduceEqDiff, Nat.reduceBEq, Nat.reduceLeDiff, Int.reduceToNat, Int.reduceLT, Int.reduceLE, Int.reduceEq, reduceCtorEq, ↓reduceIte, E13_1, X13_1, k13_1b, b27]
  · replace h := br_t b27 h
    obtain ⟨x28, q29, h⟩ := bnd_some h
    obtain ⟨g30, g31, g32⟩ := idx_row (encOffer .imm) q29
    try simp -implicitDefEqProofs only [go_sem, Nat.reduceLT, Nat.reduceAdd, Nat.reduceSub, Nat.reduceMul, Nat.reduceEqDiff, Nat.reduceBEq, Nat.reduceLeDiff, Int.reduceToNat, Int.reduceLT, Int.reduceLE, Int.reduceEq, reduceCtorEq, ↓reduceIte] at g31
    try simp -implicitDefEqProofs only [go_sem, Nat.reduceLT, Nat.reduceAdd, Nat.reduceSub, Nat.reduceMul, Nat.reduceEqDiff, Nat.reduceBEq, Nat.reduceLeDiff, Int.reduceToNat, Int.reduceLT, Int.reduceLE, Int.reduceEq, reduceCtorEq, ↓reduceIte] at g32
    obtain ⟨v49, q47, h⟩ := bnd_some h
    have w48 := e13_3 a0 s26 p1 x28 v49 q47
    simp only [X13_3] at w48
    try simp -implicitDefEqProofs only [go_sem, Nat.reduceLT, Nat.reduceAdd, Nat.reduceSub, Nat.reduceMul, Nat.reduceEqDiff, Nat.reduceBEq, Nat.reduceLeDiff, Int.reduceToNat, Int.reduceLT, Int.reduceLE, Int.reduceEq, reduceCtorEq, ↓reduceIte] at w48
    try simp -implicitDefEqProofs only [go_sem, Nat.reduceLT, Nat.reduceAdd, Nat.reduceSub, Nat.reduceMul, Nat.reduceEqDiff, Nat.reduceBEq, Nat.reduceLeDiff, Int.reduceToNat, Int.reduceLT, Int.reduceLE, Int.reduceEq, reduceCtorEq, ↓reduceIte, E13_1, X13_1, k13_1b, b27, g30, g31, g32, w48]
    cases b50 : (v49 : Bool)
    · replace h := br_f b50 h
      cases h
      simp -implicitDefEqProofs only [go_sem, Nat.reduceLT, Nat.reduceAdd, Nat.reduceSub, Nat.reduceMul, Nat.reduceEqDiff, Nat.reduceBEq, Nat.reduceLeDiff, Int.reduceToNat, Int.reduceLT, Int.reduceLE, Int.reduceEq, reduceCtorEq, ↓reduceIte, E13_1, X13_1, k13_1b, b27, g30, g31, g32, w48, b50]
    · replace h := br_t b50 h
      cases h
      simp -implicitDefEqProofs only [go_sem, Nat.reduceLT, Nat.reduceAdd, Nat.reduceSub, Nat.reduceMul, Nat.reduceEqDiff, Nat.reduceBEq, Nat.reduceLeDiff, Int.reduceToNat, Int.reduceLT, Int.reduceLE, Int.reduceEq, reduceCtorEq, ↓reduceIte, E13_1, X13_1, k13_1b, b27, g30, g31, g32, w48, b50]
theorem e13_1 (a0 : (List Offer)) (p1 : Int) (s : Int) (o : (Unit ⊕ Unit)) (h : loopP (m13_1b a0 p1) s = some o) : evCL T 0 (.loop k13_1b) (E13_1 a0 p1 s).1 (E13_1 a0 p1 s).2 = some (X13_1 a0 p1 o) :=
  loop_walk (E := E13_1 a0 p1) (X := X13_1 a0 p1) (by intro b; rcases b with b | b <;> (simp only [X13_1]; nofun)) (b13_1 a0 p1) s o h
theorem call13 (args : List AV) (S : St) : evCall T (evFL T) 13 args S = lendC (evFL T 13) S (lendAll S [[7]] args) := evCall0 fn13 rfl rfl args S
theorem callz13 (args : List AV) (S : St) : evCallFz T (evFL T) 13 args S = lendZ (evFL T 13) S [[0]] (lendAll S [[7]] args) := evCallFz0 fn13 rfl rfl args S
attribute [go_sem] call13 callz13
theorem e13 (a0 : (List Offer)) (r : Bool) (h : m13 a0 = some r) : evFL T 13 [.ts .imm 7 (a0.map (encOffer .imm))] [] = some (.bool r, []) := by
  unfold m13 at h
  rw [evFL_at fn13 (Nat.le_of_ble_eq_true rfl) rfl (.inr rfl)]
  try simp -implicitDefEqProofs only [go_sem, Nat.reduceLT, Nat.reduceAdd, Nat.reduceSub, Nat.reduceMul, Nat.reduceEqDiff, Nat.reduceBEq, Nat.reduceLeDiff, Int.reduceToNat, Int.reduceLT, Int.reduceLE, Int.reduceEq, reduceCtorEq, ↓reduceIte, i13, c13]
  obtain ⟨o, q51, h⟩ := bnd_some h
  rcases o with ⟨⟩ | ⟨⟩
  · replace h := selS_l h
    have w52 := e13_1 a0 (↑a0.length : Int) 0 (.inl ()) q51
    simp only [E13_1, X13_1] at w52
    try simp -implicitDefEqProofs only [go_sem, Nat.reduceLT, Nat.reduceAdd, Nat.reduceSub, Nat.reduceMul, Nat.reduceEqDiff, Nat.reduceBEq, Nat.reduceLeDiff, Int.reduceToNat, Int.reduceLT, Int.reduceLE, Int.reduceEq, reduceCtorEq, ↓reduceIte] at w52
    cases h
    simp -implicitDefEqProofs only [go_sem, Nat.reduceLT, Nat.reduceAdd, Nat.reduceSub, Nat.reduceMul, Nat.reduceEqDiff, Nat.reduceBEq, Nat.reduceLeDiff, Int.reduceToNat, Int.reduceLT, Int.reduceLE, Int.reduceEq, reduceCtorEq, ↓reduceIte, i13, c13, w52]
  · replace h := selS_r h
    have w52 := e13_1 a0 (↑a0.length : Int) 0 (.inr ()) q51
    simp only [E13_1, X13_1] at w52
    try simp -implicitDefEqProofs only [go_sem, Nat.reduceLT, Nat.reduceAdd, Nat.reduceSub, Nat.reduceMul, Nat.reduceEqDiff, Nat.reduceBEq, Nat.reduceLeDiff, Int.reduceToNat, Int.reduceLT, Int.reduceLE, Int.reduceEq, reduceCtorEq, ↓reduceIte] at w52
    cases h
    simp -implicitDefEqProofs only [go_sem, Nat.reduceLT, Nat.reduceAdd, Nat.reduceSub, Nat.reduceMul, Nat.reduceEqDiff, Nat.reduceBEq, Nat.reduceLeDiff, Int.reduceToNat, Int.reduceLT, Int.reduceLE, Int.reduceEq, reduceCtorEq, ↓reduceIte, i13, c13, w52]
-- f79 spec.l8By
theorem call79 (args : List AV) (S : St) : evCall T (evFL T) 79 args S = lendC (evFL T 79) S (lendAll S [[0], [0]] args) := evCall0 fn79 rfl rfl args S
theorem callz79 (args : List AV) (S : St) : evCallFz T (evFL T) 79 args S = lendZ (evFL T 79) S [[0]] (lendAll S [[0], [0]] args) := evCallFz0 fn79 rfl rfl args S
attribute [go_sem] call79 callz79
theorem e79 (a0 : Int) (a1 : Int) (r : Int) (h : m79 a0 a1 = some r) : evFL T 79 [.int .i64 a0, .int .i64 a1] [] = some (.int .i64 r, []) := by
  unfold m79 at h
  rw [evFL_at fn79 (Nat.le_of_ble_eq_true rfl) rfl (.inr rfl)]
  try simp -implicitDefEqProofs only [go_sem, Nat.reduceLT, Nat.reduceAdd, Nat.reduceSub, Nat.reduceMul, Nat.reduceEqDiff, Nat.reduceBEq, Nat.reduceLeDiff, Int.reduceToNat, Int.reduceLT, Int.reduceLE, Int.reduceEq, reduceCtorEq, ↓reduceIte, i79, c79]
  cases b1 : (ltI a0 a1 : Bool)
  · replace h := br_f b1 h
    try simp -implicitDefEqProofs only [go_sem, Nat.reduceLT, Nat.reduceAdd, Nat.reduceSub, Nat.reduceMul, Nat.reduceEqDiff, Nat.reduceBEq, Nat.reduceLeDiff, Int.reduceToNat, Int.reduceLT, Int.reduceLE, Int.reduceEq, reduceCtorEq, ↓reduceIte, i79, c79, b1]
    cases b2 : (ltI a1 a0 : Bool)
    · replace h := br_f b2 h
      cases h
      simp -implicitDefEqProofs only [go_sem, Nat.reduceLT, Nat.reduceAdd, Nat.reduceSub, Nat.reduceMul, Nat.reduceEqDiff, Nat.reduceBEq, Nat.reduceLeDiff, Int.reduceToNat, Int.reduceLT, Int.reduceLE, Int.reduceEq, reduceCtorEq, ↓reduceIte, i79, c79, b1, b2]
    · replace h := br_t b2 h
      cases h
      simp -implicitDefEqProofs only [go_sem, Nat.reduceLT, Nat.reduceAdd, Nat.reduceSub, Nat.reduceMul, Nat.reduceEqDiff, Nat.reduceBEq, Nat.reduceLeDiff, Int.reduceToNat, Int.reduceLT, Int.reduceLE, Int.reduceEq, reduceCtorEq, ↓reduceIte, i79, c79, b1, b2]
  · replace h := br_t b1 h
    cases h
    simp -implicitDefEqProofs only [go_sem, Nat.reduceLT, Nat.reduceAdd, Nat.reduceSub, Nat.reduceMul, Nat.reduceEqDiff, Nat.reduceBEq, Nat.reduceLeDiff, Int.reduceToNat, Int.reduceLT, Int.reduceLE, Int.reduceEq, reduceCtorEq, ↓reduceIte, i79, c79, b1]
-- f52 spec.l8Compare
def X52_1 (a0 : Offer) (a1 : Offer) (p17 : List Int) (o : (Unit ⊕ Int)) : Ex × Fr × St :=
  match o with
  | .inl o => (.exit 0, frOf 64 (upd (upd anyF 2 (.ptr 0 0 0)) 3 (.ptr 1 0 0)), [some ⟨.box, 7, [[.int .i64 a0.peer, .int .i64 a0.attrs.origin, .ts .imm 1 (a0.attrs.path.map encInt), .int .i64 a0.attrs.next, .int .i64 a0.attrs.med, .int .i64 a0.attrs.pref, .ts .imm 1 (a0.attrs.comms.map encInt)]]⟩, some ⟨.box, 7, [[.int .i64 a1.peer, .int .i64 a1.attrs.origin, .ts .imm 1 (a1.attrs.path.map encInt), .int .i64 a1.attrs.next, .int .i64 a1.attrs.med, .int .i64 a1.attrs.pref, .ts .imm 1 (a1.attrs.comms.map encInt)]]⟩])
  | .inr o => (.ret, frOf 64 (upd anyF 4 (.int .i64 o)), [])
def E52_1 (a0 : Offer) (a1 : Offer) (p17 : List Int) (s : Int) : Fr × St := (frOf 64 (upd (upd (upd (upd (upd anyF 2 (.ptr 0 0 0)) 3 (.ptr 1 0 0)) 49 (.sl 2 0 p17.length)) 50 (.int .i64 5)) 51 (.int .i64 s)), [some ⟨.box, 7, [[.int .i64 a0.peer, .int .i64 a0.attrs.origin, .ts .imm 1 (a0.attrs.path.map encInt), .int .i64 a0.attrs.next, .int .i64 a0.attrs.med, .int .i64 a0.attrs.pref, .ts .imm 1 (a0.attrs.comms.map encInt)]]⟩, some ⟨.box, 7, [[.int .i64 a1.peer, .int .i64 a1.attrs.origin, .ts .imm 1 (a1.attrs.path.map encInt), .int .i64 a1.attrs.next, .int .i64 a1.attrs.med, .int .i64 a1.attrs.pref, .ts .imm 1 (a1.attrs.comms.map encInt)]]⟩, some ⟨.arr, 1, p17.map encInt⟩])
theorem b52_1 (a0 : Offer) (a1 : Offer) (p17 : List Int) (s : Int) (o : Ctl Int (Unit ⊕ Int)) (h : m52_1b p17 s = some o) : evCL T 0 k52_1b (E52_1 a0 a1 p17 s).1 (E52_1 a0 a1 p17 s).2 = some (ctlX (E52_1 a0 a1 p17) (X52_1 a0 a1 p17) o) := by
  unfold m52_1b at h
  revert h
  generalize s = s25
  intro h
  try simp -implicitDefEqProofs only [go_sem, Nat.reduceLT, Nat.reduceAdd, Nat.reduceSub, Nat.reduceMul, Nat.reduceEqDiff, Nat.reduceBEq, Nat.reduceLeDiff, Int.reduceToNat, Int.reduceLT, Int.reduceLE, Int.reduceEq, reduceCtorEq, ↓reduceIte, E52_1, X52_1, k52_1b]
  cases b26 : (ltI s25 5 : Bool)
  · replace h := br_f b26 h
    cases h
    simp -implicitDefEqProofs only [go_sem, Nat.reduceLT, Nat.reduceAdd, Nat.reduceSub, Nat.reduceMul, Nat.reduceEqDiff, Nat.reduceBEq, Nat.reduceLeDiff, Int.reduceToNat, Int.reduceLT, Int.reduceLE, Int.reduceEq, reduceCtorEq, ↓reduceIte, E52_1, X52_1, k52_1b, b26]
  · replace h := br_t b26 h
    obtain ⟨x27, q28, h⟩ := bnd_some h
    obtain ⟨g29, g30, g31⟩ := idx_row encInt q28
    try simp -implicitDefEqProofs only [go_sem, Nat.reduceLT, Nat.reduceAdd, Nat.reduceSub, Nat.reduceMul, Nat.reduceEqDiff, Nat.reduceBEq, Nat.reduceLeDiff, Int.reduceToNat, Int.reduceLT, Int.reduceLE, Int.reduceEq, reduceCtorEq, ↓reduceIte] at g30
    try simp -implicitDefEqProofs only [go_sem, Nat.reduceLT, Nat.reduceAdd, Nat.reduceSub, Nat.reduceMul, Nat.reduceEqDiff, Nat.reduceBEq, Nat.reduceLeDiff, Int.reduceToNat, Int.reduceLT, Int.reduceLE, Int.reduceEq, reduceCtorEq, ↓reduceIte] at g31
    try simp -implicitDefEqProofs only [go_sem, Nat.reduceLT, Nat.reduceAdd, Nat.reduceSub, Nat.reduceMul, Nat.reduceEqDiff, Nat.reduceBEq, Nat.reduceLeDiff, Int.reduceToNat, Int.reduceLT, Int.reduceLE, Int.reduceEq, reduceCtorEq, ↓reduceIte, E52_1, X52_1, k52_1b, b26, g29, g30, g31]
    cases b32 : (eqI x27 0 : Bool)
    · replace h := br_f b32 h
      cases h
      simp -implicitDefEqProofs only [go_sem, Nat.reduceLT, Nat.reduceAdd, Nat.reduceSub, Nat.reduceMul, Nat.reduceEqDiff, Nat.reduceBEq, Nat.reduceLeDiff, Int.reduceToNat, Int.reduceLT, Int.reduceLE, Int.reduceEq, reduceCtorEq, ↓reduceIte, E52_1, X52_1, k52_1b, b26, g29, g30, g31, b32]
    · replace h := br_t b32 h
      cases h
      simp -implicitDefEqProofs only [go_sem, Nat.reduceLT, Nat.reduceAdd, Nat.reduceSub, Nat.reduceMul, Nat.reduceEqDiff, Nat.reduceBEq, Nat.reduceLeDiff, Int.reduceToNat, Int.reduceLT, Int.reduceLE, Int.reduceEq, reduceCtorEq, ↓reduceIte, E52_1, X52_1, k52_1b, b26, g29, g30, g31, b32]
theorem e52_1 (a0 : Offer) (a1 : Offer) (p17 : List Int) (s : Int) (o : (Unit ⊕ Int)) (h : loopP (m52_1b p17) s = some o) : evCL T 0 (.loop k52_1b) (E52_1 a0 a1 p17 s).1 (E52_1 a0 a1 p17 s).2 = some (X52_1 a0 a1 p17 o) :=
  loop_walk (E := E52_1 a0 a1 p17) (X := X52_1 a0 a1 p17) (by intro b; rcases b with b | b <;> (simp only [X52_1]; nofun)) (b52_1 a0 a1 p17) s o h
theorem call52 (args : List AV) (S : St) : evCall T (evFL T) 52 args S = lendC (evFL T 52) S (lendAll S [[0, 0, 1, 0, 0, 0, 1], [0, 0, 1, 0, 0, 0, 1]] args) := evCall0 fn52 rfl rfl args S
theorem callz52 (args : List AV) (S : St) : evCallFz T (evFL T) 52 args S = lendZ (evFL T 52) S [[0]] (lendAll S [[0, 0, 1, 0, 0, 0, 1], [0, 0, 1, 0, 0, 0, 1]] args) := evCallFz0 fn52 rfl rfl args S
attribute [go_sem] call52 callz52
theorem e52 (a0 : Offer) (a1 : Offer) (r : Int) (h : m52 a0 a1 = some r) : evFL T 52 [.agg [.int .i64 a0.peer, .int .i64 a0.attrs.origin, .ts .imm 1 (a0.attrs.path.map encInt), .int .i64 a0.attrs.next, .int .i64 a0.attrs.med, .int .i64 a0.attrs.pref, .ts .imm 1 (a0.attrs.comms.map encInt)], .agg [.int .i64 a1.peer, .int .i64 a1.attrs.origin, .ts .imm 1 (a1.attrs.path.map encInt), .int .i64 a1.attrs.next, .int .i64 a1.attrs.med, .int .i64 a1.attrs.pref, .ts .imm 1 (a1.attrs.comms.map encInt)]] [] = some (.int .i64 r, []) := by
  unfold m52 at h
  rw [evFL_at fn52 (Nat.le_of_ble_eq_true rfl) rfl (.inr rfl)]
  try simp -implicitDefEqProofs only [go_sem, Nat.reduceLT, Nat.reduceAdd, Nat.reduceSub, Nat.reduceMul, Nat.reduceEqDiff, Nat.reduceBEq, Nat.reduceLeDiff, Int.reduceToNat, Int.reduceLT, Int.reduceLE, Int.reduceEq, reduceCtorEq, ↓reduceIte, i52, c52]
  cases b1 : (eqI a0.peer a1.peer : Bool)
  · replace h := br_f b1 h
    obtain ⟨r4, q2, h⟩ := bnd_some h
    have w3 := e79 a1.attrs.pref a0.attrs.pref r4 q2
    try simp -implicitDefEqProofs only [go_sem, Nat.reduceLT, Nat.reduceAdd, Nat.reduceSub, Nat.reduceMul, Nat.reduceEqDiff, Nat.reduceBEq, Nat.reduceLeDiff, Int.reduceToNat, Int.reduceLT, Int.reduceLE, Int.reduceEq, reduceCtorEq, ↓reduceIte] at w3
    obtain ⟨r7, q5, h⟩ := bnd_some h
    have w6 := e79 (↑a0.attrs.path.length : Int) (↑a1.attrs.path.length : Int) r7 q5
    try simp -implicitDefEqProofs only [go_sem, Nat.reduceLT, Nat.reduceAdd, Nat.reduceSub, Nat.reduceMul, Nat.reduceEqDiff, Nat.reduceBEq, Nat.reduceLeDiff, Int.reduceToNat, Int.reduceLT, Int.reduceLE, Int.reduceEq, reduceCtorEq, ↓reduceIte] at w6
    obtain ⟨r10, q8, h⟩ := bnd_some h
    have w9 := e79 a0.attrs.origin a1.attrs.origin r10 q8
    try simp -implicitDefEqProofs only [go_sem, Nat.reduceLT, Nat.reduceAdd, Nat.reduceSub, Nat.reduceMul, Nat.reduceEqDiff, Nat.reduceBEq, Nat.reduceLeDiff, Int.reduceToNat, Int.reduceLT, Int.reduceLE, Int.reduceEq, reduceCtorEq, ↓reduceIte] at w9
    obtain ⟨r13, q11, h⟩ := bnd_some h
    have w12 := e79 a0.attrs.med a1.attrs.med r13 q11
    try simp -implicitDefEqProofs only [go_sem, Nat.reduceLT, Nat.reduceAdd, Nat.reduceSub, Nat.reduceMul, Nat.reduceEqDiff, Nat.reduceBEq, Nat.reduceLeDiff, Int.reduceToNat, Int.reduceLT, Int.reduceLE, Int.reduceEq, reduceCtorEq, ↓reduceIte] at w12
    obtain ⟨r16, q14, h⟩ := bnd_some h
    have w15 := e79 a0.attrs.next a1.attrs.next r16 q14
    try simp -implicitDefEqProofs only [go_sem, Nat.reduceLT, Nat.reduceAdd, Nat.reduceSub, Nat.reduceMul, Nat.reduceEqDiff, Nat.reduceBEq, Nat.reduceLeDiff, Int.reduceToNat, Int.reduceLT, Int.reduceLE, Int.reduceEq, reduceCtorEq, ↓reduceIte] at w15
    try simp -implicitDefEqProofs only [go_sem, Nat.reduceLT, Nat.reduceAdd, Nat.reduceSub, Nat.reduceMul, Nat.reduceEqDiff, Nat.reduceBEq, Nat.reduceLeDiff, Int.reduceToNat, Int.reduceLT, Int.reduceLE, Int.reduceEq, reduceCtorEq, ↓reduceIte, i52, c52, b1, w3, w6, w9, w12, w15]
    obtain ⟨o, q33, h⟩ := bnd_some h
    rcases o with ⟨⟩ | v38
    · replace h := selS_l h
      have w34 := e52_1 a0 a1 [r4, r7, r10, r13, r16] 0 (.inl ()) q33
      simp only [E52_1, X52_1] at w34
      try simp -implicitDefEqProofs only [go_sem, Nat.reduceLT, Nat.reduceAdd, Nat.reduceSub, Nat.reduceMul, Nat.reduceEqDiff, Nat.reduceBEq, Nat.reduceLeDiff, Int.reduceToNat, Int.reduceLT, Int.reduceLE, Int.reduceEq, reduceCtorEq, ↓reduceIte] at w34
      obtain ⟨r37, q35, h⟩ := bnd_some h
      have w36 := e79 a0.peer a1.peer r37 q35
      try simp -implicitDefEqProofs only [go_sem, Nat.reduceLT, Nat.reduceAdd, Nat.reduceSub, Nat.reduceMul, Nat.reduceEqDiff, Nat.reduceBEq, Nat.reduceLeDiff, Int.reduceToNat, Int.reduceLT, Int.reduceLE, Int.reduceEq, reduceCtorEq, ↓reduceIte] at w36
      cases h
      simp -implicitDefEqProofs only [go_sem, Nat.reduceLT, Nat.reduceAdd, Nat.reduceSub, Nat.reduceMul, Nat.reduceEqDiff, Nat.reduceBEq, Nat.reduceLeDiff, Int.reduceToNat, Int.reduceLT, Int.reduceLE, Int.reduceEq, reduceCtorEq, ↓reduceIte, i52, c52, b1, w3, w6, w9, w12, w15, w34, w36]
    · replace h := selS_r h
      have w34 := e52_1 a0 a1 [r4, r7, r10, r13, r16] 0 (.inr v38) q33
      simp only [E52_1, X52_1] at w34
      try simp -implicitDefEqProofs only [go_sem, Nat.reduceLT, Nat.reduceAdd, Nat.reduceSub, Nat.reduceMul, Nat.reduceEqDiff, Nat.reduceBEq, Nat.reduceLeDiff, Int.reduceToNat, Int.reduceLT, Int.reduceLE, Int.reduceEq, reduceCtorEq, ↓reduceIte] at w34
      cases h
      simp -implicitDefEqProofs only [go_sem, Nat.reduceLT, Nat.reduceAdd, Nat.reduceSub, Nat.reduceMul, Nat.reduceEqDiff, Nat.reduceBEq, Nat.reduceLeDiff, Int.reduceToNat, Int.reduceLT, Int.reduceLE, Int.reduceEq, reduceCtorEq, ↓reduceIte, i52, c52, b1, w3, w6, w9, w12, w15, w34]
  · replace h := br_t b1 h
    cases h
    simp -implicitDefEqProofs only [go_sem, Nat.reduceLT, Nat.reduceAdd, Nat.reduceSub, Nat.reduceMul, Nat.reduceEqDiff, Nat.reduceBEq, Nat.reduceLeDiff, Int.reduceToNat, Int.reduceLT, Int.reduceLE, Int.reduceEq, reduceCtorEq, ↓reduceIte, i52, c52, b1]
-- f18 spec.CompareOffers
def X18_1 (a0 : Offer) (a1 : Offer) (o : Bool) : Ex × Fr × St :=
  (.normal, frOf 19 (upd (upd (upd anyF 2 (.ptr 0 0 0)) 3 (.ptr 1 0 0)) 15 (.bool o)), [some ⟨.box, 7, [[.int .i64 a0.peer, .int .i64 a0.attrs.origin, .ts .imm 1 (a0.attrs.path.map encInt), .int .i64 a0.attrs.next, .int .i64 a0.attrs.med, .int .i64 a0.attrs.pref, .ts .imm 1 (a0.attrs.comms.map encInt)]]⟩, some ⟨.box, 7, [[.int .i64 a1.peer, .int .i64 a1.attrs.origin, .ts .imm 1 (a1.attrs.path.map encInt), .int .i64 a1.attrs.next, .int .i64 a1.attrs.med, .int .i64 a1.attrs.pref, .ts .imm 1 (a1.attrs.comms.map encInt)]]⟩])
theorem e18_1 (a0 : Offer) (a1 : Offer) (o : Bool) (h : m18_1 a0 a1 = some o) : evCL T 0 k18_1 (frOf 19 (upd (upd anyF 2 (.ptr 0 0 0)) 3 (.ptr 1 0 0))) [some ⟨.box, 7, [[.int .i64 a0.peer, .int .i64 a0.attrs.origin, .ts .imm 1 (a0.attrs.path.map encInt), .int .i64 a0.attrs.next, .int .i64 a0.attrs.med, .int .i64 a0.attrs.pref, .ts .imm 1 (a0.attrs.comms.map encInt)]]⟩, some ⟨.box, 7, [[.int .i64 a1.peer, .int .i64 a1.attrs.origin, .ts .imm 1 (a1.attrs.path.map encInt), .int .i64 a1.attrs.next, .int .i64 a1.attrs.med, .int .i64 a1.attrs.pref, .ts .imm 1 (a1.attrs.comms.map encInt)]]⟩] = some (X18_1 a0 a1 o) := by
  unfold m18_1 at h
  obtain ⟨r3, q1, h⟩ := bnd_some h
  have w2 := e13 [a0] r3 q1
  try simp -implicitDefEqProofs only [go_sem, Nat.reduceLT, Nat.reduceAdd, Nat.reduceSub, Nat.reduceMul, Nat.reduceEqDiff, Nat.reduceBEq, Nat.reduceLeDiff, Int.reduceToNat, Int.reduceLT, Int.reduceLE, Int.reduceEq, reduceCtorEq, ↓reduceIte] at w2
  try simp -implicitDefEqProofs only [go_sem, Nat.reduceLT, Nat.reduceAdd, Nat.reduceSub, Nat.reduceMul, Nat.reduceEqDiff, Nat.reduceBEq, Nat.reduceLeDiff, Int.reduceToNat, Int.reduceLT, Int.reduceLE, Int.reduceEq, reduceCtorEq, ↓reduceIte, X18_1, k18_1, w2]
  cases b4 : (r3 : Bool)
  · replace h := br_f b4 h
    cases h
    simp -implicitDefEqProofs only [go_sem, Nat.reduceLT, Nat.reduceAdd, Nat.reduceSub, Nat.reduceMul, Nat.reduceEqDiff, Nat.reduceBEq, Nat.reduceLeDiff, Int.reduceToNat, Int.reduceLT, Int.reduceLE, Int.reduceEq, reduceCtorEq, ↓reduceIte, X18_1, k18_1, w2, b4]
  · replace h := br_t b4 h
    obtain ⟨r7, q5, h⟩ := bnd_some h
    have w6 := e13 [a1] r7 q5
    try simp -implicitDefEqProofs only [go_sem, Nat.reduceLT, Nat.reduceAdd, Nat.reduceSub, Nat.reduceMul, Nat.reduceEqDiff, Nat.reduceBEq, Nat.reduceLeDiff, Int.reduceToNat, Int.reduceLT, Int.reduceLE, Int.reduceEq, reduceCtorEq, ↓reduceIte] at w6
    cases h
    simp -implicitDefEqProofs only [go_sem, Nat.reduceLT, Nat.reduceAdd, Nat.reduceSub, Nat.reduceMul, Nat.reduceEqDiff, Nat.reduceBEq, Nat.reduceLeDiff, Int.reduceToNat, Int.reduceLT, Int.reduceLE, Int.reduceEq, reduceCtorEq, ↓reduceIte, X18_1, k18_1, w2, b4, w6]
theorem call18 (args : List AV) (S : St) : evCall T (evFL T) 18 args S = lendC (evFL T 18) S (lendAll S [[0, 0, 1, 0, 0, 0, 1], [0, 0, 1, 0, 0, 0, 1]] args) := evCall0 fn18 rfl rfl args S
theorem callz18 (args : List AV) (S : St) : evCallFz T (evFL T) 18 args S = lendZ (evFL T 18) S [[0], [0]] (lendAll S [[0, 0, 1, 0, 0, 0, 1], [0, 0, 1, 0, 0, 0, 1]] args) := evCallFz0 fn18 rfl rfl args S
attribute [go_sem] call18 callz18
theorem e18 (a0 : Offer) (a1 : Offer) (r : (Int × Bool)) (h : m18 a0 a1 = some r) : evFL T 18 [.agg [.int .i64 a0.peer, .int .i64 a0.attrs.origin, .ts .imm 1 (a0.attrs.path.map encInt), .int .i64 a0.attrs.next, .int .i64 a0.attrs.med, .int .i64 a0.attrs.pref, .ts .imm 1 (a0.attrs.comms.map encInt)], .agg [.int .i64 a1.peer, .int .i64 a1.attrs.origin, .ts .imm 1 (a1.attrs.path.map encInt), .int .i64 a1.attrs.next, .int .i64 a1.attrs.med, .int .i64 a1.attrs.pref, .ts .imm 1 (a1.attrs.comms.map encInt)]] [] = some (.tup [.int .i64 r.1, .bool r.2], []) := by
  unfold m18 at h
  rw [evFL_at fn18 (Nat.le_of_ble_eq_true rfl) rfl (.inr rfl)]
  obtain ⟨v10, q8, h⟩ := bnd_some h
  have w9 := e18_1 a0 a1 v10 q8
  simp only [X18_1] at w9
  try simp -implicitDefEqProofs only [go_sem, Nat.reduceLT, Nat.reduceAdd, Nat.reduceSub, Nat.reduceMul, Nat.reduceEqDiff, Nat.reduceBEq, Nat.reduceLeDiff, Int.reduceToNat, Int.reduceLT, Int.reduceLE, Int.reduceEq, reduceCtorEq, ↓reduceIte] at w9
  try simp -implicitDefEqProofs only [go_sem, Nat.reduceLT, Nat.reduceAdd, Nat.reduceSub, Nat.reduceMul, Nat.reduceEqDiff, Nat.reduceBEq, Nat.reduceLeDiff, Int.reduceToNat, Int.reduceLT, Int.reduceLE, Int.reduceEq, reduceCtorEq, ↓reduceIte, i18, c18, w9]
  cases b11 : (v10 : Bool)
  · replace h := br_f b11 h
    obtain ⟨r14, q12, h⟩ := bnd_some h
    have w13 := e52 a0 a1 r14 q12
    try simp -implicitDefEqProofs only [go_sem, Nat.reduceLT, Nat.reduceAdd, Nat.reduceSub, Nat.reduceMul, Nat.reduceEqDiff, Nat.reduceBEq, Nat.reduceLeDiff, Int.reduceToNat, Int.reduceLT, Int.reduceLE, Int.reduceEq, reduceCtorEq, ↓reduceIte] at w13
    cases h
    simp -implicitDefEqProofs only [go_sem, Nat.reduceLT, Nat.reduceAdd, Nat.reduceSub, Nat.reduceMul, Nat.reduceEqDiff, Nat.reduceBEq, Nat.reduceLeDiff, Int.reduceToNat, Int.reduceLT, Int.reduceLE, Int.reduceEq, reduceCtorEq, ↓reduceIte, i18, c18, w9, b11, w13]
  · replace h := br_t b11 h
    cases h
    simp -implicitDefEqProofs only [go_sem, Nat.reduceLT, Nat.reduceAdd, Nat.reduceSub, Nat.reduceMul, Nat.reduceEqDiff, Nat.reduceBEq, Nat.reduceLeDiff, Int.reduceToNat, Int.reduceLT, Int.reduceLE, Int.reduceEq, reduceCtorEq, ↓reduceIte, i18, c18, w9, b11]
-- f91 impl.within
def X91_1 (a0 : Int) (a1 : Int) (a2 : Int) (o : Bool) : Ex × Fr × St :=
  (.normal, frOf 15 (upd anyF 6 (.bool o)), [])
theorem e91_1 (a0 : Int) (a1 : Int) (a2 : Int) (o : Bool) (h : m91_1 a0 a1 a2 = some o) : evCL T 0 k91_1 (frOf 15 (upd (upd (upd anyF 0 (.int .i64 a0)) 1 (.int .i64 a1)) 2 (.int .i64 a2))) [] = some (X91_1 a0 a1 a2 o) := by
  unfold m91_1 at h
  try simp -implicitDefEqProofs only [go_sem, Nat.reduceLT, Nat.reduceAdd, Nat.reduceSub, Nat.reduceMul, Nat.reduceEqDiff, Nat.reduceBEq, Nat.reduceLeDiff, Int.reduceToNat, Int.reduceLT, Int.reduceLE, Int.reduceEq, reduceCtorEq, ↓reduceIte, X91_1, k91_1]
  cases b1 : (leI a1 a0 : Bool)
  · replace h := br_f b1 h
    cases h
    simp -implicitDefEqProofs only [go_sem, Nat.reduceLT, Nat.reduceAdd, Nat.reduceSub, Nat.reduceMul, Nat.reduceEqDiff, Nat.reduceBEq, Nat.reduceLeDiff, Int.reduceToNat, Int.reduceLT, Int.reduceLE, Int.reduceEq, reduceCtorEq, ↓reduceIte, X91_1, k91_1, b1]
  · replace h := br_t b1 h
    cases h
    simp -implicitDefEqProofs only [go_sem, Nat.reduceLT, Nat.reduceAdd, Nat.reduceSub, Nat.reduceMul, Nat.reduceEqDiff, Nat.reduceBEq, Nat.reduceLeDiff, Int.reduceToNat, Int.reduceLT, Int.reduceLE, Int.reduceEq, reduceCtorEq, ↓reduceIte, X91_1, k91_1, b1]
theorem call91 (args : List AV) (S : St) : evCall T (evFL T) 91 args S = lendC (evFL T 91) S (lendAll S [[0], [0], [0]] args) := evCall0 fn91 rfl rfl args S
theorem callz91 (args : List AV) (S : St) : evCallFz T (evFL T) 91 args S = lendZ (evFL T 91) S [[0]] (lendAll S [[0], [0], [0]] args) := evCallFz0 fn91 rfl rfl args S
attribute [go_sem] call91 callz91
theorem e91 (a0 : Int) (a1 : Int) (a2 : Int) (r : Bool) (h : m91 a0 a1 a2 = some r) : evFL T 91 [.int .i64 a0, .int .i64 a1, .int .i64 a2] [] = some (.bool r, []) := by
  unfold m91 at h
  rw [evFL_at fn91 (Nat.le_of_ble_eq_true rfl) rfl (.inr rfl)]
  obtain ⟨v4, q2, h⟩ := bnd_some h
  have w3 := e91_1 a0 a1 a2 v4 q2
  simp only [X91_1] at w3
  try simp -implicitDefEqProofs only [go_sem, Nat.reduceLT, Nat.reduceAdd, Nat.reduceSub, Nat.reduceMul, Nat.reduceEqDiff, Nat.reduceBEq, Nat.reduceLeDiff, Int.reduceToNat, Int.reduceLT, Int.reduceLE, Int.reduceEq, reduceCtorEq, ↓reduceIte] at w3
  cases h
  simp -implicitDefEqProofs only [go_sem, Nat.reduceLT, Nat.reduceAdd, Nat.reduceSub, Nat.reduceMul, Nat.reduceEqDiff, Nat.reduceBEq, Nat.reduceLeDiff, Int.reduceToNat, Int.reduceLT, Int.reduceLE, Int.reduceEq, reduceCtorEq, ↓reduceIte, i91, c91, w3]
-- f76 impl.isPeer
theorem call76 (args : List AV) (S : St) : evCall T (evFL T) 76 args S = lendC (evFL T 76) S (lendAll S [[0]] args) := evCall0 fn76 rfl rfl args S
theorem callz76 (args : List AV) (S : St) : evCallFz T (evFL T) 76 args S = lendZ (evFL T 76) S [[0]] (lendAll S [[0]] args) := evCallFz0 fn76 rfl rfl args S
attribute [go_sem] call76 callz76
theorem e76 (a0 : Int) (r : Bool) (h : m76 a0 = some r) : evFL T 76 [.int .i64 a0] [] = some (.bool r, []) := by
  unfold m76 at h
  rw [evFL_at fn76 (Nat.le_of_ble_eq_true rfl) rfl (.inr rfl)]
  obtain ⟨r3, q1, h⟩ := bnd_some h
  have w2 := e91 a0 0 5 r3 q1
  try simp -implicitDefEqProofs only [go_sem, Nat.reduceLT, Nat.reduceAdd, Nat.reduceSub, Nat.reduceMul, Nat.reduceEqDiff, Nat.reduceBEq, Nat.reduceLeDiff, Int.reduceToNat, Int.reduceLT, Int.reduceLE, Int.reduceEq, reduceCtorEq, ↓reduceIte] at w2
  cases h
  simp -implicitDefEqProofs only [go_sem, Nat.reduceLT, Nat.reduceAdd, Nat.reduceSub, Nat.reduceMul, Nat.reduceEqDiff, Nat.reduceBEq, Nat.reduceLeDiff, Int.reduceToNat, Int.reduceLT, Int.reduceLE, Int.reduceEq, reduceCtorEq, ↓reduceIte, i76, c76, w2]
-- f115 slices.IndexFunc[[]int,int]
def X115_1 (a1_f : Nat) (a1_c : List AV) (a0 : (List Int)) (p1 : Int) (a1 : (Int → Option Bool)) (o : (Unit ⊕ Int)) : Ex × Fr × St :=
  match o with
  | .inl o => (.exit 0, frOf 19 (anyF), [])
  | .inr o => (.ret, frOf 19 (upd anyF 4 (.int .i64 o)), [])
def E115_1 (a1_f : Nat) (a1_c : List AV) (a0 : (List Int)) (p1 : Int) (a1 : (Int → Option Bool)) (s : Int) : Fr × St := (frOf 19 (upd (upd (upd (upd anyF 0 (.ts .imm 1 (a0.map encInt))) 1 (.fn a1_f a1_c)) 7 (.int .i64 p1)) 8 (.int .i64 s)), [])
theorem b115_1 (a0 : (List Int)) (p1 : Int) (a1 : (Int → Option Bool)) (a1_f : Nat) (a1_c : List AV) (a1_h : ((∀ S, mapO (lendPtr S) a1_c = some a1_c) ∧ (∀ n0 src R tm t c, tdL n0 src R tm t c a1_c = some a1_c)) ∧ ∀ y0 r, a1 y0 = some r → (∀ S, evCall T (evFL T) a1_f ([.int .i64 y0] ++ a1_c) S = some (.bool r, S)) ∧ (∀ S, evCallFz T (evFL T) a1_f ([.int .i64 y0] ++ a1_c) S = some (.bool r, S))) (s : Int) (o : Ctl Int (Unit ⊕ Int)) (h : m115_1b a0 p1 a1 s = some o) : evCL T 0 k115_1b (E115_1 a1_f a1_c a0 p1 a1 s).1 (E115_1 a1_f a1_c a0 p1 a1 s).2 = some (ctlX (E115_1 a1_f a1_c a0 p1 a1) (X115_1 a1_f a1_c a0 p1 a1) o) := by
  unfold m115_1b at h
  revert h
  generalize s = s12
  intro h
  try simp -implicitDefEqProofs only [go_sem, Nat.reduceLT, Nat.reduceAdd, Nat.reduceSub, Nat.reduceMul, Nat.reduceEqDiff, Nat.reduceBEq, Nat.reduceLeDiff, Int.reduceToNat, Int.reduceLT, Int.reduceLE, Int.reduceEq, reduceCtorEq, ↓reduceIte, E115_1, X115_1, k115_1b, a1_h.1]
  cases b13 : (ltI s12 p1 : Bool)
  · replace h := br_f b13 h
    cases h
    simp -implicitDefEqProofs only [go_sem, Nat.reduceLT, Nat.reduceAdd, Nat.reduceSub, Nat.reduceMul, Nat.reduceEqDiff, Nat.reduceBEq, Nat.reduceLeDiff, Int.reduceToNat, Int.reduceLT, Int.reduceLE, Int.reduceEq, reduceCtorEq, ↓reduceIte, E115_1, X115_1, k115_1b, a1_h.1, b13]
  · replace h := br_t b13 h
    obtain ⟨x14, q15, h⟩ := bnd_some h
    obtain ⟨g16, g17, g18⟩ := idx_row encInt q15
    try simp -implicitDefEqProofs only [go_sem, Nat.reduceLT, Nat.reduceAdd, Nat.reduceSub, Nat.reduceMul, Nat.reduceEqDiff, Nat.reduceBEq, Nat.reduceLeDiff, Int.reduceToNat, Int.reduceLT, Int.reduceLE, Int.reduceEq, reduceCtorEq, ↓reduceIte] at g17
    try simp -implicitDefEqProofs only [go_sem, Nat.reduceLT, Nat.reduceAdd, Nat.reduceSub, Nat.reduceMul, Nat.reduceEqDiff, Nat.reduceBEq, Nat.reduceLeDiff, Int.reduceToNat, Int.reduceLT, Int.reduceLE, Int.reduceEq, reduceCtorEq, ↓reduceIte] at g18
    obtain ⟨r19, q20, h⟩ := bnd_some h
    have w21 := a1_h.2 x14 r19 q20
    try simp -implicitDefEqProofs only [go_sem, Nat.reduceLT, Nat.reduceAdd, Nat.reduceSub, Nat.reduceMul, Nat.reduceEqDiff, Nat.reduceBEq, Nat.reduceLeDiff, Int.reduceToNat, Int.reduceLT, Int.reduceLE, Int.reduceEq, reduceCtorEq, ↓reduceIte] at w21
    try simp -implicitDefEqProofs only [go_sem, Nat.reduceLT, Nat.reduceAdd, Nat.reduceSub, Nat.reduceMul, Nat.reduceEqDiff, Nat.reduceBEq, Nat.reduceLeDiff, Int.reduceToNat, Int.reduceLT, Int.reduceLE, Int.reduceEq, reduceCtorEq, ↓reduceIte, E115_1, X115_1, k115_1b, a1_h.1, b13, g16, g17, g18, w21.1, w21.2]
    cases b22 : (r19 : Bool)
    · replace h := br_f b22 h
      cases h
      simp -implicitDefEqProofs only [go_sem, Nat.reduceLT, Nat.reduceAdd, Nat.reduceSub, Nat.reduceMul, Nat.reduceEqDiff, Nat.reduceBEq, Nat.reduceLeDiff, Int.reduceToNat, Int.reduceLT, Int.reduceLE, Int.reduceEq, reduceCtorEq, ↓reduceIte, E115_1, X115_1, k115_1b, a1_h.1, b13, g16, g17, g18, w21.1, w21.2, b22]
    · replace h := br_t b22 h
      cases h
      simp -implicitDefEqProofs only [go_sem, Nat.reduceLT, Nat.reduceAdd, Nat.reduceSub, Nat.reduceMul, Nat.reduceEqDiff, Nat.reduceBEq, Nat.reduceLeDiff, Int.reduceToNat, Int.reduceLT, Int.reduceLE, Int.reduceEq, reduceCtorEq, ↓reduceIte, E115_1, X115_1, k115_1b, a1_h.1, b13, g16, g17, g18, w21.1, w21.2, b22]
theorem e115_1 (a0 : (List Int)) (p1 : Int) (a1 : (Int → Option Bool)) (a1_f : Nat) (a1_c : List AV) (a1_h : ((∀ S, mapO (lendPtr S) a1_c = some a1_c) ∧ (∀ n0 src R tm t c, tdL n0 src R tm t c a1_c = some a1_c)) ∧ ∀ y0 r, a1 y0 = some r → (∀ S, evCall T (evFL T) a1_f ([.int .i64 y0] ++ a1_c) S = some (.bool r, S)) ∧ (∀ S, evCallFz T (evFL T) a1_f ([.int .i64 y0] ++ a1_c) S = some (.bool r, S))) (s : Int) (o : (Unit ⊕ Int)) (h : loopP (m115_1b a0 p1 a1) s = some o) : evCL T 0 (.loop k115_1b) (E115_1 a1_f a1_c a0 p1 a1 s).1 (E115_1 a1_f a1_c a0 p1 a1 s).2 = some (X115_1 a1_f a1_c a0 p1 a1 o) :=
  loop_walk (E := E115_1 a1_f a1_c a0 p1 a1) (X := X115_1 a1_f a1_c a0 p1 a1) (by intro b; rcases b with b | b <;> (simp only [X115_1]; nofun)) (b115_1 a0 p1 a1 a1_f a1_c a1_h) s o h
theorem call115 (args : List AV) (S : St) : evCall T (evFL T) 115 args S = lendC (evFL T 115) S (lendAll S [[1], [0]] args) := evCall0 fn115 rfl rfl args S
theorem callz115 (args : List AV) (S : St) : evCallFz T (evFL T) 115 args S = lendZ (evFL T 115) S [[0]] (lendAll S [[1], [0]] args) := evCallFz0 fn115 rfl rfl args S
attribute [go_sem] call115 callz115
theorem e115 (a0 : (List Int)) (a1 : (Int → Option Bool)) (a1_f : Nat) (a1_c : List AV) (a1_h : ((∀ S, mapO (lendPtr S) a1_c = some a1_c) ∧ (∀ n0 src R tm t c, tdL n0 src R tm t c a1_c = some a1_c)) ∧ ∀ y0 r, a1 y0 = some r → (∀ S, evCall T (evFL T) a1_f ([.int .i64 y0] ++ a1_c) S = some (.bool r, S)) ∧ (∀ S, evCallFz T (evFL T) a1_f ([.int .i64 y0] ++ a1_c) S = some (.bool r, S))) (r : Int) (h : m115 a0 a1 = some r) : evFL T 115 [.ts .imm 1 (a0.map encInt), .fn a1_f a1_c] [] = some (.int .i64 r, []) := by
  unfold m115 at h
  rw [evFL_at fn115 (Nat.le_of_ble_eq_true rfl) rfl (.inr rfl)]
  try simp -implicitDefEqProofs only [go_sem, Nat.reduceLT, Nat.reduceAdd, Nat.reduceSub, Nat.reduceMul, Nat.reduceEqDiff, Nat.reduceBEq, Nat.reduceLeDiff, Int.reduceToNat, Int.reduceLT, Int.reduceLE, Int.reduceEq, reduceCtorEq, ↓reduceIte, i115, c115, a1_h.1]
  obtain ⟨o, q23, h⟩ := bnd_some h
  rcases o with ⟨⟩ | v25
  · replace h := selS_l h
    have w24 := e115_1 a0 (↑a0.length : Int) a1 a1_f a1_c a1_h 0 (.inl ()) q23
    simp only [E115_1, X115_1] at w24
    try simp -implicitDefEqProofs only [go_sem, Nat.reduceLT, Nat.reduceAdd, Nat.reduceSub, Nat.reduceMul, Nat.reduceEqDiff, Nat.reduceBEq, Nat.reduceLeDiff, Int.reduceToNat, Int.reduceLT, Int.reduceLE, Int.reduceEq, reduceCtorEq, ↓reduceIte] at w24
    cases h
    simp -implicitDefEqProofs only [go_sem, Nat.reduceLT, Nat.reduceAdd, Nat.reduceSub, Nat.reduceMul, Nat.reduceEqDiff, Nat.reduceBEq, Nat.reduceLeDiff, Int.reduceToNat, Int.reduceLT, Int.reduceLE, Int.reduceEq, reduceCtorEq, ↓reduceIte, i115, c115, a1_h.1, w24]
  · replace h := selS_r h
    have w24 := e115_1 a0 (↑a0.length : Int) a1 a1_f a1_c a1_h 0 (.inr v25) q23
    simp only [E115_1, X115_1] at w24
    try simp -implicitDefEqProofs only [go_sem, Nat.reduceLT, Nat.reduceAdd, Nat.reduceSub, Nat.reduceMul, Nat.reduceEqDiff, Nat.reduceBEq, Nat.reduceLeDiff, Int.reduceToNat, Int.reduceLT, Int.reduceLE, Int.reduceEq, reduceCtorEq, ↓reduceIte] at w24
    cases h
    simp -implicitDefEqProofs only [go_sem, Nat.reduceLT, Nat.reduceAdd, Nat.reduceSub, Nat.reduceMul, Nat.reduceEqDiff, Nat.reduceBEq, Nat.reduceLeDiff, Int.reduceToNat, Int.reduceLT, Int.reduceLE, Int.reduceEq, reduceCtorEq, ↓reduceIte, i115, c115, a1_h.1, w24]
-- f109 slices.ContainsFunc[[]int,int]
theorem call109 (args : List AV) (S : St) : evCall T (evFL T) 109 args S = lendC (evFL T 109) S (lendAll S [[1], [0]] args) := evCall0 fn109 rfl rfl args S
theorem callz109 (args : List AV) (S : St) : evCallFz T (evFL T) 109 args S = lendZ (evFL T 109) S [[0]] (lendAll S [[1], [0]] args) := evCallFz0 fn109 rfl rfl args S
attribute [go_sem] call109 callz109
theorem e109 (a0 : (List Int)) (a1 : (Int → Option Bool)) (a1_f : Nat) (a1_c : List AV) (a1_h : ((∀ S, mapO (lendPtr S) a1_c = some a1_c) ∧ (∀ n0 src R tm t c, tdL n0 src R tm t c a1_c = some a1_c)) ∧ ∀ y0 r, a1 y0 = some r → (∀ S, evCall T (evFL T) a1_f ([.int .i64 y0] ++ a1_c) S = some (.bool r, S)) ∧ (∀ S, evCallFz T (evFL T) a1_f ([.int .i64 y0] ++ a1_c) S = some (.bool r, S))) (r : Bool) (h : m109 a0 a1 = some r) : evFL T 109 [.ts .imm 1 (a0.map encInt), .fn a1_f a1_c] [] = some (.bool r, []) := by
  unfold m109 at h
  rw [evFL_at fn109 (Nat.le_of_ble_eq_true rfl) rfl (.inr rfl)]
  obtain ⟨r3, q1, h⟩ := bnd_some h
  have w2 := e115 a0 a1 a1_f a1_c a1_h r3 q1
  try simp -implicitDefEqProofs only [go_sem, Nat.reduceLT, Nat.reduceAdd, Nat.reduceSub, Nat.reduceMul, Nat.reduceEqDiff, Nat.reduceBEq, Nat.reduceLeDiff, Int.reduceToNat, Int.reduceLT, Int.reduceLE, Int.reduceEq, reduceCtorEq, ↓reduceIte] at w2
  cases h
  simp -implicitDefEqProofs only [go_sem, Nat.reduceLT, Nat.reduceAdd, Nat.reduceSub, Nat.reduceMul, Nat.reduceEqDiff, Nat.reduceBEq, Nat.reduceLeDiff, Int.reduceToNat, Int.reduceLT, Int.reduceLE, Int.reduceEq, reduceCtorEq, ↓reduceIte, i109, c109, a1_h.1, w2]
-- f66 impl.isAsn
theorem call66 (args : List AV) (S : St) : evCall T (evFL T) 66 args S = lendC (evFL T 66) S (lendAll S [[0]] args) := evCall0 fn66 rfl rfl args S
theorem callz66 (args : List AV) (S : St) : evCallFz T (evFL T) 66 args S = lendZ (evFL T 66) S [[0]] (lendAll S [[0]] args) := evCallFz0 fn66 rfl rfl args S
attribute [go_sem] call66 callz66
theorem e66 (a0 : Int) (r : Bool) (h : m66 a0 = some r) : evFL T 66 [.int .i64 a0] [] = some (.bool r, []) := by
  unfold m66 at h
  rw [evFL_at fn66 (Nat.le_of_ble_eq_true rfl) rfl (.inr rfl)]
  obtain ⟨r3, q1, h⟩ := bnd_some h
  have w2 := e91 a0 1 65535 r3 q1
  try simp -implicitDefEqProofs only [go_sem, Nat.reduceLT, Nat.reduceAdd, Nat.reduceSub, Nat.reduceMul, Nat.reduceEqDiff, Nat.reduceBEq, Nat.reduceLeDiff, Int.reduceToNat, Int.reduceLT, Int.reduceLE, Int.reduceEq, reduceCtorEq, ↓reduceIte] at w2
  cases h
  simp -implicitDefEqProofs only [go_sem, Nat.reduceLT, Nat.reduceAdd, Nat.reduceSub, Nat.reduceMul, Nat.reduceEqDiff, Nat.reduceBEq, Nat.reduceLeDiff, Int.reduceToNat, Int.reduceLT, Int.reduceLE, Int.reduceEq, reduceCtorEq, ↓reduceIte, i66, c66, w2]
-- f110 impl.isPath$1
theorem call110 (args : List AV) (S : St) : evCall T (evFL T) 110 args S = lendC (evFL T 110) S (lendAll S [[0]] args) := evCall0 fn110 rfl rfl args S
theorem callz110 (args : List AV) (S : St) : evCallFz T (evFL T) 110 args S = lendZ (evFL T 110) S [[0]] (lendAll S [[0]] args) := evCallFz0 fn110 rfl rfl args S
attribute [go_sem] call110 callz110
theorem e110 (a0 : Int) (r : Bool) (h : m110 a0 = some r) : evFL T 110 [.int .i64 a0] [] = some (.bool r, []) := by
  unfold m110 at h
  rw [evFL_at fn110 (Nat.le_of_ble_eq_true rfl) rfl (.inr rfl)]
  obtain ⟨r3, q1, h⟩ := bnd_some h
  have w2 := e66 a0 r3 q1
  try simp -implicitDefEqProofs only [go_sem, Nat.reduceLT, Nat.reduceAdd, Nat.reduceSub, Nat.reduceMul, Nat.reduceEqDiff, Nat.reduceBEq, Nat.reduceLeDiff, Int.reduceToNat, Int.reduceLT, Int.reduceLE, Int.reduceEq, reduceCtorEq, ↓reduceIte] at w2
  cases h
  simp -implicitDefEqProofs only [go_sem, Nat.reduceLT, Nat.reduceAdd, Nat.reduceSub, Nat.reduceMul, Nat.reduceEqDiff, Nat.reduceBEq, Nat.reduceLeDiff, Int.reduceToNat, Int.reduceLT, Int.reduceLE, Int.reduceEq, reduceCtorEq, ↓reduceIte, i110, c110, w2]
-- f98 impl.isPath
def X98_1 (a0 : (List Int)) (o : Bool) : Ex × Fr × St :=
  (.normal, frOf 11 (upd anyF 2 (.bool o)), [])
theorem e98_1 (a0 : (List Int)) (o : Bool) (h : m98_1 a0 = some o) : evCL T 0 k98_1 (frOf 11 (upd anyF 0 (.ts .imm 1 (a0.map encInt)))) [] = some (X98_1 a0 o) := by
  unfold m98_1 at h
  try simp -implicitDefEqProofs only [go_sem, Nat.reduceLT, Nat.reduceAdd, Nat.reduceSub, Nat.reduceMul, Nat.reduceEqDiff, Nat.reduceBEq, Nat.reduceLeDiff, Int.reduceToNat, Int.reduceLT, Int.reduceLE, Int.reduceEq, reduceCtorEq, ↓reduceIte, X98_1, k98_1]
  cases b1 : (leI (↑a0.length : Int) 10 : Bool)
  · replace h := br_f b1 h
    cases h
    simp -implicitDefEqProofs only [go_sem, Nat.reduceLT, Nat.reduceAdd, Nat.reduceSub, Nat.reduceMul, Nat.reduceEqDiff, Nat.reduceBEq, Nat.reduceLeDiff, Int.reduceToNat, Int.reduceLT, Int.reduceLE, Int.reduceEq, reduceCtorEq, ↓reduceIte, X98_1, k98_1, b1]
  · replace h := br_t b1 h
    obtain ⟨r4, q2, h⟩ := bnd_some h
    have w3 := e109 a0 (fun y0 => m110 y0) 110 [] ⟨⟨fun S => by simp -implicitDefEqProofs only [go_sem, Nat.reduceLT, Nat.reduceAdd, Nat.reduceSub, Nat.reduceMul, Nat.reduceEqDiff, Nat.reduceBEq, Nat.reduceLeDiff, Int.reduceToNat, Int.reduceLT, Int.reduceLE, Int.reduceEq, reduceCtorEq, ↓reduceIte], fun _ _ _ _ _ _ => by simp -implicitDefEqProofs only [go_sem, Nat.reduceLT, Nat.reduceAdd, Nat.reduceSub, Nat.reduceMul, Nat.reduceEqDiff, Nat.reduceBEq, Nat.reduceLeDiff, Int.reduceToNat, Int.reduceLT, Int.reduceLE, Int.reduceEq, reduceCtorEq, ↓reduceIte]⟩, fun y0 r h => ⟨fun S => by simp -implicitDefEqProofs only [go_sem, Nat.reduceLT, Nat.reduceAdd, Nat.reduceSub, Nat.reduceMul, Nat.reduceEqDiff, Nat.reduceBEq, Nat.reduceLeDiff, Int.reduceToNat, Int.reduceLT, Int.reduceLE, Int.reduceEq, reduceCtorEq, ↓reduceIte, e110 y0 r h], fun S => by simp -implicitDefEqProofs only [go_sem, Nat.reduceLT, Nat.reduceAdd, Nat.reduceSub, Nat.reduceMul, Nat.reduceEqDiff, Nat.reduceBEq, Nat.reduceLeDiff, Int.reduceToNat, Int.reduceLT, Int.reduceLE, Int.reduceEq, reduceCtorEq, ↓reduceIte, e110 y0 r h]⟩⟩ r4 q2
    try simp -implicitDefEqProofs only [go_sem, Nat.reduceLT, Nat.reduceAdd, Nat.reduceSub, Nat.reduceMul, Nat.reduceEqDiff, Nat.reduceBEq, Nat.reduceLeDiff, Int.reduceToNat, Int.reduceLT, Int.reduceLE, Int.reduceEq, reduceCtorEq, ↓reduceIte] at w3
    cases h
    simp -implicitDefEqProofs only [go_sem, Nat.reduceLT, Nat.reduceAdd, Nat.reduceSub, Nat.reduceMul, Nat.reduceEqDiff, Nat.reduceBEq, Nat.reduceLeDiff, Int.reduceToNat, Int.reduceLT, Int.reduceLE, Int.reduceEq, reduceCtorEq, ↓reduceIte, X98_1, k98_1, b1, w3]
theorem call98 (args : List AV) (S : St) : evCall T (evFL T) 98 args S = lendC (evFL T 98) S (lendAll S [[1]] args) := evCall0 fn98 rfl rfl args S
theorem callz98 (args : List AV) (S : St) : evCallFz T (evFL T) 98 args S = lendZ (evFL T 98) S [[0]] (lendAll S [[1]] args) := evCallFz0 fn98 rfl rfl args S
attribute [go_sem] call98 callz98
theorem e98 (a0 : (List Int)) (r : Bool) (h : m98 a0 = some r) : evFL T 98 [.ts .imm 1 (a0.map encInt)] [] = some (.bool r, []) := by
  unfold m98 at h
  rw [evFL_at fn98 (Nat.le_of_ble_eq_true rfl) rfl (.inr rfl)]
  obtain ⟨v7, q5, h⟩ := bnd_some h
  have w6 := e98_1 a0 v7 q5
  simp only [X98_1] at w6
  try simp -implicitDefEqProofs only [go_sem, Nat.reduceLT, Nat.reduceAdd, Nat.reduceSub, Nat.reduceMul, Nat.reduceEqDiff, Nat.reduceBEq, Nat.reduceLeDiff, Int.reduceToNat, Int.reduceLT, Int.reduceLE, Int.reduceEq, reduceCtorEq, ↓reduceIte] at w6
  cases h
  simp -implicitDefEqProofs only [go_sem, Nat.reduceLT, Nat.reduceAdd, Nat.reduceSub, Nat.reduceMul, Nat.reduceEqDiff, Nat.reduceBEq, Nat.reduceLeDiff, Int.reduceToNat, Int.reduceLT, Int.reduceLE, Int.reduceEq, reduceCtorEq, ↓reduceIte, i98, c98, w6]
-- f99 impl.isAddr
theorem call99 (args : List AV) (S : St) : evCall T (evFL T) 99 args S = lendC (evFL T 99) S (lendAll S [[0]] args) := evCall0 fn99 rfl rfl args S
theorem callz99 (args : List AV) (S : St) : evCallFz T (evFL T) 99 args S = lendZ (evFL T 99) S [[0]] (lendAll S [[0]] args) := evCallFz0 fn99 rfl rfl args S
attribute [go_sem] call99 callz99
theorem e99 (a0 : Int) (r : Bool) (h : m99 a0 = some r) : evFL T 99 [.int .i64 a0] [] = some (.bool r, []) := by
  unfold m99 at h
  rw [evFL_at fn99 (Nat.le_of_ble_eq_true rfl) rfl (.inr rfl)]
  obtain ⟨r3, q1, h⟩ := bnd_some h
  have w2 := e91 a0 0 4294967295 r3 q1
  try simp -implicitDefEqProofs only [go_sem, Nat.reduceLT, Nat.reduceAdd, Nat.reduceSub, Nat.reduceMul, Nat.reduceEqDiff, Nat.reduceBEq, Nat.reduceLeDiff, Int.reduceToNat, Int.reduceLT, Int.reduceLE, Int.reduceEq, reduceCtorEq, ↓reduceIte] at w2
  cases h
  simp -implicitDefEqProofs only [go_sem, Nat.reduceLT, Nat.reduceAdd, Nat.reduceSub, Nat.reduceMul, Nat.reduceEqDiff, Nat.reduceBEq, Nat.reduceLeDiff, Int.reduceToNat, Int.reduceLT, Int.reduceLE, Int.reduceEq, reduceCtorEq, ↓reduceIte, i99, c99, w2]
-- f100 impl.isValue
theorem call100 (args : List AV) (S : St) : evCall T (evFL T) 100 args S = lendC (evFL T 100) S (lendAll S [[0]] args) := evCall0 fn100 rfl rfl args S
theorem callz100 (args : List AV) (S : St) : evCallFz T (evFL T) 100 args S = lendZ (evFL T 100) S [[0]] (lendAll S [[0]] args) := evCallFz0 fn100 rfl rfl args S
attribute [go_sem] call100 callz100
theorem e100 (a0 : Int) (r : Bool) (h : m100 a0 = some r) : evFL T 100 [.int .i64 a0] [] = some (.bool r, []) := by
  unfold m100 at h
  rw [evFL_at fn100 (Nat.le_of_ble_eq_true rfl) rfl (.inr rfl)]
  obtain ⟨r3, q1, h⟩ := bnd_some h
  have w2 := e91 a0 0 1000000 r3 q1
  try simp -implicitDefEqProofs only [go_sem, Nat.reduceLT, Nat.reduceAdd, Nat.reduceSub, Nat.reduceMul, Nat.reduceEqDiff, Nat.reduceBEq, Nat.reduceLeDiff, Int.reduceToNat, Int.reduceLT, Int.reduceLE, Int.reduceEq, reduceCtorEq, ↓reduceIte] at w2
  cases h
  simp -implicitDefEqProofs only [go_sem, Nat.reduceLT, Nat.reduceAdd, Nat.reduceSub, Nat.reduceMul, Nat.reduceEqDiff, Nat.reduceBEq, Nat.reduceLeDiff, Int.reduceToNat, Int.reduceLT, Int.reduceLE, Int.reduceEq, reduceCtorEq, ↓reduceIte, i100, c100, w2]
-- f101 impl.areComms
def X101_3 (a0 : (List Int)) (s22 : Int) (x24 : Int) (p1 : Int) (o : Bool) : Ex × Fr × St :=
  (.normal, frOf 32 (upd (upd (upd (upd (upd anyF 0 (.ts .imm 1 (a0.map encInt))) 5 (.ts .imm 1 (a0.map encInt))) 6 (.int .i64 p1)) 7 (.int .i64 s22)) 27 (.bool o)), [])
theorem e101_3 (a0 : (List Int)) (s22 : Int) (x24 : Int) (p1 : Int) (o : Bool) (h : m101_3 a0 s22 x24 = some o) : evCL T 0 k101_3 (frOf 32 (upd (upd (upd (upd (upd (upd anyF 0 (.ts .imm 1 (a0.map encInt))) 3 (.int .i64 s22)) 4 (.int .i64 x24)) 5 (.ts .imm 1 (a0.map encInt))) 6 (.int .i64 p1)) 7 (.int .i64 s22))) [] = some (X101_3 a0 s22 x24 p1 o) := by
  unfold m101_3 at h
  obtain ⟨r31, q29, h⟩ := bnd_some h
  have w30 := e100 x24 r31 q29
  try simp -implicitDefEqProofs only [go_sem, Nat.reduceLT, Nat.reduceAdd, Nat.reduceSub, Nat.reduceMul, Nat.reduceEqDiff, Nat.reduceBEq, Nat.reduceLeDiff, Int.reduceToNat, Int.reduceLT, Int.reduceLE, Int.reduceEq, reduceCtorEq, ↓reduceIte] at w30
  try simp -implicitDefEqProofs only [go_sem, Nat.reduceLT, Nat.reduceAdd, Nat.reduceSub, Nat.reduceMul, Nat.reduceEqDiff, Nat.reduceBEq, Nat.reduceLeDiff, Int.reduceToNat, Int.reduceLT, Int.reduceLE, Int.reduceEq, reduceCtorEq, ↓reduceIte, X101_3, k101_3, w30]
  cases b32 : (r31 : Bool)
  · replace h := br_f b32 h
    cases h
    simp -implicitDefEqProofs only [go_sem, Nat.reduceLT, Nat.reduceAdd, Nat.reduceSub, Nat.reduceMul, Nat.reduceEqDiff, Nat.reduceBEq, Nat.reduceLeDiff, Int.reduceToNat, Int.reduceLT, Int.reduceLE, Int.reduceEq, reduceCtorEq, ↓reduceIte, X101_3, k101_3, w30, b32]
  · replace h := br_t b32 h
    try simp -implicitDefEqProofs only [go_sem, Nat.reduceLT, Nat.reduceAdd, Nat.reduceSub, Nat.reduceMul, Nat.reduceEqDiff, Nat.reduceBEq, Nat.reduceLeDiff, Int.reduceToNat, Int.reduceLT, Int.reduceLE, Int.reduceEq, reduceCtorEq, ↓reduceIte, X101_3, k101_3, w30, b32]
    cases b33 : (ltI 0 s22 : Bool)
    · replace h := br_f b33 h
      cases h
      simp -implicitDefEqProofs only [go_sem, Nat.reduceLT, Nat.reduceAdd, Nat.reduceSub, Nat.reduceMul, Nat.reduceEqDiff, Nat.reduceBEq, Nat.reduceLeDiff, Int.reduceToNat, Int.reduceLT, Int.reduceLE, Int.reduceEq, reduceCtorEq, ↓reduceIte, X101_3, k101_3, w30, b32, b33]
    · replace h := br_t b33 h
      obtain ⟨x34, q35, h⟩ := bnd_some h
      obtain ⟨g36, g37, g38⟩ := idx_row encInt q35
      try simp -implicitDefEqProofs only [go_sem, Nat.reduceLT, Nat.reduceAdd, Nat.reduceSub, Nat.reduceMul, Nat.reduceEqDiff, Nat.reduceBEq, Nat.reduceLeDiff, Int.reduceToNat, Int.reduceLT, Int.reduceLE, Int.reduceEq, reduceCtorEq, ↓reduceIte] at g37
      try simp -implicitDefEqProofs only [go_sem, Nat.reduceLT, Nat.reduceAdd, Nat.reduceSub, Nat.reduceMul, Nat.reduceEqDiff, Nat.reduceBEq, Nat.reduceLeDiff, Int.reduceToNat, Int.reduceLT, Int.reduceLE, Int.reduceEq, reduceCtorEq, ↓reduceIte] at g38
      cases h
      simp -implicitDefEqProofs only [go_sem, Nat.reduceLT, Nat.reduceAdd, Nat.reduceSub, Nat.reduceMul, Nat.reduceEqDiff, Nat.reduceBEq, Nat.reduceLeDiff, Int.reduceToNat, Int.reduceLT, Int.reduceLE, Int.reduceEq, reduceCtorEq, ↓reduceIte, X101_3, k101_3, w30, b32, b33, g36, g37, g38]
def X101_1 (a0 : (List Int)) (p1 : Int) (o : (Unit ⊕ Unit)) : Ex × Fr × St :=
  match o with
  | .inl o => (.exit 0, frOf 32 (upd anyF 0 (.ts .imm 1 (a0.map encInt))), [])
  | .inr o => (.ret, frOf 32 (upd anyF 2 (.bool false)), [])
def E101_1 (a0 : (List Int)) (p1 : Int) (s : Int) : Fr × St := (frOf 32 (upd (upd (upd (upd anyF 0 (.ts .imm 1 (a0.map encInt))) 5 (.ts .imm 1 (a0.map encInt))) 6 (.int .i64 p1)) 7 (.int .i64 s)), [])
theorem b101_1 (a0 : (List Int)) (p1 : Int) (s : Int) (o : Ctl Int (Unit ⊕ Unit)) (h : m101_1b a0 p1 s = some o) : evCL T 0 k101_1b (E101_1 a0 p1 s).1 (E101_1 a0 p1 s).2 = some (ctlX (E101_1 a0 p1) (X101_1 a0 p1) o) := by
  unfold m101_1b at h
  revert h
  generalize s = s22
  intro h
  try simp -implicitDefEqProofs only [go_sem, Nat.reduceLT, Nat.reduceAdd, Nat.reduceSub, Nat.reduceMul, Nat.reduceEqDiff, Nat.reduceBEq, Nat.reduceLeDiff, Int.reduceToNat, Int.reduceLT, Int.reduceLE, Int.reduceEq, reduceCtorEq, ↓reduceIte, E101_1, X101_1, k101_1b]
  cases b23 : (ltI s22 p1 : Bool)
  · replace h := br_f b23 h
    cases h
    simp -implicitDefEqProofs only [go_sem, Nat.reduceLT, Nat.reduceAdd, Nat.reduceSub, Nat.reduceMul, Nat.reduceEqDiff, Nat.reduceBEq, Nat.reduceLeDiff, Int.reduceToNat, Int.reduceLT, Int.reduceLE, Int.reduceEq, reduceCtorEq, ↓reduceIte, E101_1, X101_1, k101_1b, b23]
  · replace h := br_t b23 h
    obtain ⟨x24, q25, h⟩ := bnd_some h
    obtain ⟨g26, g27, g28⟩ := idx_row encInt q25
    try simp -implicitDefEqProofs only [go_sem, Nat.reduceLT, Nat.reduceAdd, Nat.reduceSub, Nat.reduceMul, Nat.reduceEqDiff, Nat.reduceBEq, Nat.reduceLeDiff, Int.reduceToNat, Int.reduceLT, Int.reduceLE, Int.reduceEq, reduceCtorEq, ↓reduceIte] at g27
    try simp -implicitDefEqProofs only [go_sem, Nat.reduceLT, Nat.reduceAdd, Nat.reduceSub, Nat.reduceMul, Nat.reduceEqDiff, Nat.reduceBEq, Nat.reduceLeDiff, Int.reduceToNat, Int.reduceLT, Int.reduceLE, Int.reduceEq, reduceCtorEq, ↓reduceIte] at g28
    obtain ⟨v41, q39, h⟩ := bnd_some h
    have w40 := e101_3 a0 s22 x24 p1 v41 q39
    simp only [X101_3] at w40
    try simp -implicitDefEqProofs only [go_sem, Nat.reduceLT, Nat.reduceAdd, Nat.reduceSub, Nat.reduceMul, Nat.reduceEqDiff, Nat.reduceBEq, Nat.reduceLeDiff, Int.reduceToNat, Int.reduceLT, Int.reduceLE, Int.reduceEq, reduceCtorEq, ↓reduceIte] at w40
    try simp -implicitDefEqProofs only [go_sem, Nat.reduceLT, Nat.reduceAdd, Nat.reduceSub, Nat.reduceMul, Nat.reduceEqDiff, Nat.reduceBEq, Nat.reduceLeDiff, Int.reduceToNat, Int.reduceLT, Int.reduceLE, Int.reduceEq, reduceCtorEq, ↓reduceIte, E101_1, X101_1, k101_1b, b23, g26, g27, g28, w40]
    cases b42 : (v41 : Bool)
    · replace h := br_f b42 h
      cases h
      simp -implicitDefEqProofs only [go_sem, Nat.reduceLT, Nat.reduceAdd, Nat.reduceSub, Nat.reduceMul, Nat.reduceEqDiff, Nat.reduceBEq, Nat.reduceLeDiff, Int.reduceToNat, Int.reduceLT, Int.reduceLE, Int.reduceEq, reduceCtorEq, ↓reduceIte, E101_1, X101_1, k101_1b, b23, g26, g27, g28, w40, b42]
    · replace h := br_t b42 h
      cases h
      simp -implicitDefEqProofs only [go_sem, Nat.reduceLT, Nat.reduceAdd, Nat.reduceSub, Nat.reduceMul, Nat.reduceEqDiff, Nat.reduceBEq, Nat.reduceLeDiff, Int.reduceToNat, Int.reduceLT, Int.reduceLE, Int.reduceEq, reduceCtorEq, ↓reduceIte, E101_1, X101_1, k101_1b, b23, g26, g27, g28, w40, b42]
theorem e101_1 (a0 : (List Int)) (p1 : Int) (s : Int) (o : (Unit ⊕ Unit)) (h : loopP (m101_1b a0 p1) s = some o) : evCL T 0 (.loop k101_1b) (E101_1 a0 p1 s).1 (E101_1 a0 p1 s).2 = some (X101_1 a0 p1 o) :=
  loop_walk (E := E101_1 a0 p1) (X := X101_1 a0 p1) (by intro b; rcases b with b | b <;> (simp only [X101_1]; nofun)) (b101_1 a0 p1) s o h
theorem call101 (args : List AV) (S : St) : evCall T (evFL T) 101 args S = lendC (evFL T 101) S (lendAll S [[1]] args) := evCall0 fn101 rfl rfl args S
theorem callz101 (args : List AV) (S : St) : evCallFz T (evFL T) 101 args S = lendZ (evFL T 101) S [[0]] (lendAll S [[1]] args) := evCallFz0 fn101 rfl rfl args S
attribute [go_sem] call101 callz101
theorem e101 (a0 : (List Int)) (r : Bool) (h : m101 a0 = some r) : evFL T 101 [.ts .imm 1 (a0.map encInt)] [] = some (.bool r, []) := by
  unfold m101 at h
  rw [evFL_at fn101 (Nat.le_of_ble_eq_true rfl) rfl (.inr rfl)]
  try simp -implicitDefEqProofs only [go_sem, Nat.reduceLT, Nat.reduceAdd, Nat.reduceSub, Nat.reduceMul, Nat.reduceEqDiff, Nat.reduceBEq, Nat.reduceLeDiff, Int.reduceToNat, Int.reduceLT, Int.reduceLE, Int.reduceEq, reduceCtorEq, ↓reduceIte, i101, c101]
  obtain ⟨o, q43, h⟩ := bnd_some h
  rcases o with ⟨⟩ | ⟨⟩
  · replace h := selS_l h
    have w44 := e101_1 a0 (↑a0.length : Int) 0 (.inl ()) q43
    simp only [E101_1, X101_1] at w44
    try simp -implicitDefEqProofs only [go_sem, Nat.reduceLT, Nat.reduceAdd, Nat.reduceSub, Nat.reduceMul, Nat.reduceEqDiff, Nat.reduceBEq, Nat.reduceLeDiff, Int.reduceToNat, Int.reduceLT, Int.reduceLE, Int.reduceEq, reduceCtorEq, ↓reduceIte] at w44
    cases h
    simp -implicitDefEqProofs only [go_sem, Nat.reduceLT, Nat.reduceAdd, Nat.reduceSub, Nat.reduceMul, Nat.reduceEqDiff, Nat.reduceBEq, Nat.reduceLeDiff, Int.reduceToNat, Int.reduceLT, Int.reduceLE, Int.reduceEq, reduceCtorEq, ↓reduceIte, i101, c101, w44]
  · replace h := selS_r h
    have w44 := e101_1 a0 (↑a0.length : Int) 0 (.inr ()) q43
    simp only [E101_1, X101_1] at w44
    try simp -implicitDefEqProofs only [go_sem, Nat.reduceLT, Nat.reduceAdd, Nat.reduceSub, Nat.reduceMul, Nat.reduceEqDiff, Nat.reduceBEq, Nat.reduceLeDiff, Int.reduceToNat, Int.reduceLT, Int.reduceLE, Int.reduceEq, reduceCtorEq, ↓reduceIte] at w44
    cases h
    simp -implicitDefEqProofs only [go_sem, Nat.reduceLT, Nat.reduceAdd, Nat.reduceSub, Nat.reduceMul, Nat.reduceEqDiff, Nat.reduceBEq, Nat.reduceLeDiff, Int.reduceToNat, Int.reduceLT, Int.reduceLE, Int.reduceEq, reduceCtorEq, ↓reduceIte, i101, c101, w44]
-- f77 impl.GoodAttrs
def X77_1 (a0 : Attrs) (o : Bool) : Ex × Fr × St :=
  (.normal, frOf 31 (upd anyF 2 (.bool o)), [])
theorem e77_1 (a0 : Attrs) (o : Bool) (h : m77_1 a0 = some o) : evCL T 0 k77_1 (frOf 31 (upd anyF 1 (.ptr 0 0 0))) [some ⟨.box, 6, [[.int .i64 a0.origin, .ts .imm 1 (a0.path.map encInt), .int .i64 a0.next, .int .i64 a0.med, .int .i64 a0.pref, .ts .imm 1 (a0.comms.map encInt)]]⟩] = some (X77_1 a0 o) := by
  unfold m77_1 at h
  obtain ⟨r3, q1, h⟩ := bnd_some h
  have w2 := e91 a0.origin 0 2 r3 q1
  try simp -implicitDefEqProofs only [go_sem, Nat.reduceLT, Nat.reduceAdd, Nat.reduceSub, Nat.reduceMul, Nat.reduceEqDiff, Nat.reduceBEq, Nat.reduceLeDiff, Int.reduceToNat, Int.reduceLT, Int.reduceLE, Int.reduceEq, reduceCtorEq, ↓reduceIte] at w2
  try simp -implicitDefEqProofs only [go_sem, Nat.reduceLT, Nat.reduceAdd, Nat.reduceSub, Nat.reduceMul, Nat.reduceEqDiff, Nat.reduceBEq, Nat.reduceLeDiff, Int.reduceToNat, Int.reduceLT, Int.reduceLE, Int.reduceEq, reduceCtorEq, ↓reduceIte, X77_1, k77_1, w2]
  cases b4 : (r3 : Bool)
  · replace h := br_f b4 h
    cases h
    simp -implicitDefEqProofs only [go_sem, Nat.reduceLT, Nat.reduceAdd, Nat.reduceSub, Nat.reduceMul, Nat.reduceEqDiff, Nat.reduceBEq, Nat.reduceLeDiff, Int.reduceToNat, Int.reduceLT, Int.reduceLE, Int.reduceEq, reduceCtorEq, ↓reduceIte, X77_1, k77_1, w2, b4]
  · replace h := br_t b4 h
    obtain ⟨r7, q5, h⟩ := bnd_some h
    have w6 := e98 a0.path r7 q5
    try simp -implicitDefEqProofs only [go_sem, Nat.reduceLT, Nat.reduceAdd, Nat.reduceSub, Nat.reduceMul, Nat.reduceEqDiff, Nat.reduceBEq, Nat.reduceLeDiff, Int.reduceToNat, Int.reduceLT, Int.reduceLE, Int.reduceEq, reduceCtorEq, ↓reduceIte] at w6
    try simp -implicitDefEqProofs only [go_sem, Nat.reduceLT, Nat.reduceAdd, Nat.reduceSub, Nat.reduceMul, Nat.reduceEqDiff, Nat.reduceBEq, Nat.reduceLeDiff, Int.reduceToNat, Int.reduceLT, Int.reduceLE, Int.reduceEq, reduceCtorEq, ↓reduceIte, X77_1, k77_1, w2, b4, w6]
    cases b8 : (r7 : Bool)
    · replace h := br_f b8 h
      cases h
      simp -implicitDefEqProofs only [go_sem, Nat.reduceLT, Nat.reduceAdd, Nat.reduceSub, Nat.reduceMul, Nat.reduceEqDiff, Nat.reduceBEq, Nat.reduceLeDiff, Int.reduceToNat, Int.reduceLT, Int.reduceLE, Int.reduceEq, reduceCtorEq, ↓reduceIte, X77_1, k77_1, w2, b4, w6, b8]
    · replace h := br_t b8 h
      obtain ⟨r11, q9, h⟩ := bnd_some h
      have w10 := e99 a0.next r11 q9
      try simp -implicitDefEqProofs only [go_sem, Nat.reduceLT, Nat.reduceAdd, Nat.reduceSub, Nat.reduceMul, Nat.reduceEqDiff, Nat.reduceBEq, Nat.reduceLeDiff, Int.reduceToNat, Int.reduceLT, Int.reduceLE, Int.reduceEq, reduceCtorEq, ↓reduceIte] at w10
      try simp -implicitDefEqProofs only [go_sem, Nat.reduceLT, Nat.reduceAdd, Nat.reduceSub, Nat.reduceMul, Nat.reduceEqDiff, Nat.reduceBEq, Nat.reduceLeDiff, Int.reduceToNat, Int.reduceLT, Int.reduceLE, Int.reduceEq, reduceCtorEq, ↓reduceIte, X77_1, k77_1, w2, b4, w6, b8, w10]
      cases b12 : (r11 : Bool)
      · replace h := br_f b12 h
        cases h
        simp -implicitDefEqProofs only [go_sem, Nat.reduceLT, Nat.reduceAdd, Nat.reduceSub, Nat.reduceMul, Nat.reduceEqDiff, Nat.reduceBEq, Nat.reduceLeDiff, Int.reduceToNat, Int.reduceLT, Int.reduceLE, Int.reduceEq, reduceCtorEq, ↓reduceIte, X77_1, k77_1, w2, b4, w6, b8, w10, b12]
      · replace h := br_t b12 h
        obtain ⟨r15, q13, h⟩ := bnd_some h
        have w14 := e100 a0.med r15 q13
        try simp -implicitDefEqProofs only [go_sem, Nat.reduceLT, Nat.reduceAdd, Nat.reduceSub, Nat.reduceMul, Nat.reduceEqDiff, Nat.reduceBEq, Nat.reduceLeDiff, Int.reduceToNat, Int.reduceLT, Int.reduceLE, Int.reduceEq, reduceCtorEq, ↓reduceIte] at w14
        try simp -implicitDefEqProofs only [go_sem, Nat.reduceLT, Nat.reduceAdd, Nat.reduceSub, Nat.reduceMul, Nat.reduceEqDiff, Nat.reduceBEq, Nat.reduceLeDiff, Int.reduceToNat, Int.reduceLT, Int.reduceLE, Int.reduceEq, reduceCtorEq, ↓reduceIte, X77_1, k77_1, w2, b4, w6, b8, w10, b12, w14]
        cases b16 : (r15 : Bool)
        · replace h := br_f b16 h
          cases h
          simp -implicitDefEqProofs only [go_sem, Nat.reduceLT, Nat.reduceAdd, Nat.reduceSub, Nat.reduceMul, Nat.reduceEqDiff, Nat.reduceBEq, Nat.reduceLeDiff, Int.reduceToNat, Int.reduceLT, Int.reduceLE, Int.reduceEq, reduceCtorEq, ↓reduceIte, X77_1, k77_1, w2, b4, w6, b8, w10, b12, w14, b16]
        · replace h := br_t b16 h
          obtain ⟨r19, q17, h⟩ := bnd_some h
          have w18 := e100 a0.pref r19 q17
          try simp -implicitDefEqProofs only [go_sem, Nat.reduceLT, Nat.reduceAdd, Nat.reduceSub, Nat.reduceMul, Nat.reduceEqDiff, Nat.reduceBEq, Nat.reduceLeDiff, Int.reduceToNat, Int.reduceLT, Int.reduceLE, Int.reduceEq, reduceCtorEq, ↓reduceIte] at w18
          try simp -implicitDefEqProofs only [go_sem, Nat.reduceLT, Nat.reduceAdd, Nat.reduceSub, Nat.reduceMul, Nat.reduceEqDiff, Nat.reduceBEq, Nat.reduceLeDiff, Int.reduceToNat, Int.reduceLT, Int.reduceLE, Int.reduceEq, reduceCtorEq, ↓reduceIte, X77_1, k77_1, w2, b4, w6, b8, w10, b12, w14, b16, w18]
          cases b20 : (r19 : Bool)
          · replace h := br_f b20 h
            cases h
            simp -implicitDefEqProofs only [go_sem, Nat.reduceLT, Nat.reduceAdd, Nat.reduceSub, Nat.reduceMul, Nat.reduceEqDiff, Nat.reduceBEq, Nat.reduceLeDiff, Int.reduceToNat, Int.reduceLT, Int.reduceLE, Int.reduceEq, reduceCtorEq, ↓reduceIte, X77_1, k77_1, w2, b4, w6, b8, w10, b12, w14, b16, w18, b20]
          · replace h := br_t b20 h
            obtain ⟨r23, q21, h⟩ := bnd_some h
            have w22 := e101 a0.comms r23 q21
            try simp -implicitDefEqProofs only [go_sem, Nat.reduceLT, Nat.reduceAdd, Nat.reduceSub, Nat.reduceMul, Nat.reduceEqDiff, Nat.reduceBEq, Nat.reduceLeDiff, Int.reduceToNat, Int.reduceLT, Int.reduceLE, Int.reduceEq, reduceCtorEq, ↓reduceIte] at w22
            cases h
            simp -implicitDefEqProofs only [go_sem, Nat.reduceLT, Nat.reduceAdd, Nat.reduceSub, Nat.reduceMul, Nat.reduceEqDiff, Nat.reduceBEq, Nat.reduceLeDiff, Int.reduceToNat, Int.reduceLT, Int.reduceLE, Int.reduceEq, reduceCtorEq, ↓reduceIte, X77_1, k77_1, w2, b4, w6, b8, w10, b12, w14, b16, w18, b20, w22]
theorem call77 (args : List AV) (S : St) : evCall T (evFL T) 77 args S = lendC (evFL T 77) S (lendAll S [[0, 1, 0, 0, 0, 1]] args) := evCall0 fn77 rfl rfl args S
theorem callz77 (args : List AV) (S : St) : evCallFz T (evFL T) 77 args S = lendZ (evFL T 77) S [[0]] (lendAll S [[0, 1, 0, 0, 0, 1]] args) := evCallFz0 fn77 rfl rfl args S
attribute [go_sem] call77 callz77
theorem e77 (a0 : Attrs) (r : Bool) (h : m77 a0 = some r) : evFL T 77 [.agg [.int .i64 a0.origin, .ts .imm 1 (a0.path.map encInt), .int .i64 a0.next, .int .i64 a0.med, .int .i64 a0.pref, .ts .imm 1 (a0.comms.map encInt)]] [] = some (.bool r, []) := by
  unfold m77 at h
  rw [evFL_at fn77 (Nat.le_of_ble_eq_true rfl) rfl (.inr rfl)]
  obtain ⟨v26, q24, h⟩ := bnd_some h
  have w25 := e77_1 a0 v26 q24
  simp only [X77_1] at w25
  try simp -implicitDefEqProofs only [go_sem, Nat.reduceLT, Nat.reduceAdd, Nat.reduceSub, Nat.reduceMul, Nat.reduceEqDiff, Nat.reduceBEq, Nat.reduceLeDiff, Int.reduceToNat, Int.reduceLT, Int.reduceLE, Int.reduceEq, reduceCtorEq, ↓reduceIte] at w25
  cases h
  simp -implicitDefEqProofs only [go_sem, Nat.reduceLT, Nat.reduceAdd, Nat.reduceSub, Nat.reduceMul, Nat.reduceEqDiff, Nat.reduceBEq, Nat.reduceLeDiff, Int.reduceToNat, Int.reduceLT, Int.reduceLE, Int.reduceEq, reduceCtorEq, ↓reduceIte, i77, c77, w25]
-- f50 impl.isOffer
def X50_1 (a0 : Offer) (o : Bool) : Ex × Fr × St :=
  (.normal, frOf 11 (upd anyF 2 (.bool o)), [])
theorem e50_1 (a0 : Offer) (o : Bool) (h : m50_1 a0 = some o) : evCL T 0 k50_1 (frOf 11 (upd anyF 1 (.ptr 0 0 0))) [some ⟨.box, 7, [[.int .i64 a0.peer, .int .i64 a0.attrs.origin, .ts .imm 1 (a0.attrs.path.map encInt), .int .i64 a0.attrs.next, .int .i64 a0.attrs.med, .int .i64 a0.attrs.pref, .ts .imm 1 (a0.attrs.comms.map encInt)]]⟩] = some (X50_1 a0 o) := by
  unfold m50_1 at h
  obtain ⟨r3, q1, h⟩ := bnd_some h
  have w2 := e76 a0.peer r3 q1
  try simp -implicitDefEqProofs only [go_sem, Nat.reduceLT, Nat.reduceAdd, Nat.reduceSub, Nat.reduceMul, Nat.reduceEqDiff, Nat.reduceBEq, Nat.reduceLeDiff, Int.reduceToNat, Int.reduceLT, Int.reduceLE, Int.reduceEq, reduceCtorEq, ↓reduceIte] at w2
  try simp -implicitDefEqProofs only [go_sem, Nat.reduceLT, Nat.reduceAdd, Nat.reduceSub, Nat.reduceMul, Nat.reduceEqDiff, Nat.reduceBEq, Nat.reduceLeDiff, Int.reduceToNat, Int.reduceLT, Int.reduceLE, Int.reduceEq, reduceCtorEq, ↓reduceIte, X50_1, k50_1, w2]
  cases b4 : (r3 : Bool)
  · replace h := br_f b4 h
    cases h
    simp -implicitDefEqProofs only [go_sem, Nat.reduceLT, Nat.reduceAdd, Nat.reduceSub, Nat.reduceMul, Nat.reduceEqDiff, Nat.reduceBEq, Nat.reduceLeDiff, Int.reduceToNat, Int.reduceLT, Int.reduceLE, Int.reduceEq, reduceCtorEq, ↓reduceIte, X50_1, k50_1, w2, b4]
  · replace h := br_t b4 h
    obtain ⟨r7, q5, h⟩ := bnd_some h
    have w6 := e77 a0.attrs r7 q5
    try simp -implicitDefEqProofs only [go_sem, Nat.reduceLT, Nat.reduceAdd, Nat.reduceSub, Nat.reduceMul, Nat.reduceEqDiff, Nat.reduceBEq, Nat.reduceLeDiff, Int.reduceToNat, Int.reduceLT, Int.reduceLE, Int.reduceEq, reduceCtorEq, ↓reduceIte] at w6
    cases h
    simp -implicitDefEqProofs only [go_sem, Nat.reduceLT, Nat.reduceAdd, Nat.reduceSub, Nat.reduceMul, Nat.reduceEqDiff, Nat.reduceBEq, Nat.reduceLeDiff, Int.reduceToNat, Int.reduceLT, Int.reduceLE, Int.reduceEq, reduceCtorEq, ↓reduceIte, X50_1, k50_1, w2, b4, w6]
theorem call50 (args : List AV) (S : St) : evCall T (evFL T) 50 args S = lendC (evFL T 50) S (lendAll S [[0, 0, 1, 0, 0, 0, 1]] args) := evCall0 fn50 rfl rfl args S
theorem callz50 (args : List AV) (S : St) : evCallFz T (evFL T) 50 args S = lendZ (evFL T 50) S [[0]] (lendAll S [[0, 0, 1, 0, 0, 0, 1]] args) := evCallFz0 fn50 rfl rfl args S
attribute [go_sem] call50 callz50
theorem e50 (a0 : Offer) (r : Bool) (h : m50 a0 = some r) : evFL T 50 [.agg [.int .i64 a0.peer, .int .i64 a0.attrs.origin, .ts .imm 1 (a0.attrs.path.map encInt), .int .i64 a0.attrs.next, .int .i64 a0.attrs.med, .int .i64 a0.attrs.pref, .ts .imm 1 (a0.attrs.comms.map encInt)]] [] = some (.bool r, []) := by
  unfold m50 at h
  rw [evFL_at fn50 (Nat.le_of_ble_eq_true rfl) rfl (.inr rfl)]
  obtain ⟨v10, q8, h⟩ := bnd_some h
  have w9 := e50_1 a0 v10 q8
  simp only [X50_1] at w9
  try simp -implicitDefEqProofs only [go_sem, Nat.reduceLT, Nat.reduceAdd, Nat.reduceSub, Nat.reduceMul, Nat.reduceEqDiff, Nat.reduceBEq, Nat.reduceLeDiff, Int.reduceToNat, Int.reduceLT, Int.reduceLE, Int.reduceEq, reduceCtorEq, ↓reduceIte] at w9
  cases h
  simp -implicitDefEqProofs only [go_sem, Nat.reduceLT, Nat.reduceAdd, Nat.reduceSub, Nat.reduceMul, Nat.reduceEqDiff, Nat.reduceBEq, Nat.reduceLeDiff, Int.reduceToNat, Int.reduceLT, Int.reduceLE, Int.reduceEq, reduceCtorEq, ↓reduceIte, i50, c50, w9]
-- f102 cmp.isNaN[int]
theorem call102 (args : List AV) (S : St) : evCall T (evFL T) 102 args S = lendC (evFL T 102) S (lendAll S [[0]] args) := evCall0 fn102 rfl rfl args S
theorem callz102 (args : List AV) (S : St) : evCallFz T (evFL T) 102 args S = lendZ (evFL T 102) S [[0]] (lendAll S [[0]] args) := evCallFz0 fn102 rfl rfl args S
attribute [go_sem] call102 callz102
theorem e102 (a0 : Int) (r : Bool) (h : m102 a0 = some r) : evFL T 102 [.int .i64 a0] [] = some (.bool r, []) := by
  unfold m102 at h
  rw [evFL_at fn102 (Nat.le_of_ble_eq_true rfl) rfl (.inr rfl)]
  cases h
  simp -implicitDefEqProofs only [go_sem, Nat.reduceLT, Nat.reduceAdd, Nat.reduceSub, Nat.reduceMul, Nat.reduceEqDiff, Nat.reduceBEq, Nat.reduceLeDiff, Int.reduceToNat, Int.reduceLT, Int.reduceLE, Int.reduceEq, reduceCtorEq, ↓reduceIte, i102, c102]
-- f82 cmp.Compare[int]
theorem call82 (args : List AV) (S : St) : evCall T (evFL T) 82 args S = lendC (evFL T 82) S (lendAll S [[0], [0]] args) := evCall0 fn82 rfl rfl args S
theorem callz82 (args : List AV) (S : St) : evCallFz T (evFL T) 82 args S = lendZ (evFL T 82) S [[0]] (lendAll S [[0], [0]] args) := evCallFz0 fn82 rfl rfl args S
attribute [go_sem] call82 callz82
theorem e82 (a0 : Int) (a1 : Int) (r : Int) (h : m82 a0 a1 = some r) : evFL T 82 [.int .i64 a0, .int .i64 a1] [] = some (.int .i64 r, []) := by
  unfold m82 at h
  rw [evFL_at fn82 (Nat.le_of_ble_eq_true rfl) rfl (.inr rfl)]
  obtain ⟨r3, q1, h⟩ := bnd_some h
  have w2 := e102 a0 r3 q1
  try simp -implicitDefEqProofs only [go_sem, Nat.reduceLT, Nat.reduceAdd, Nat.reduceSub, Nat.reduceMul, Nat.reduceEqDiff, Nat.reduceBEq, Nat.reduceLeDiff, Int.reduceToNat, Int.reduceLT, Int.reduceLE, Int.reduceEq, reduceCtorEq, ↓reduceIte] at w2
  obtain ⟨r6, q4, h⟩ := bnd_some h
  have w5 := e102 a1 r6 q4
  try simp -implicitDefEqProofs only [go_sem, Nat.reduceLT, Nat.reduceAdd, Nat.reduceSub, Nat.reduceMul, Nat.reduceEqDiff, Nat.reduceBEq, Nat.reduceLeDiff, Int.reduceToNat, Int.reduceLT, Int.reduceLE, Int.reduceEq, reduceCtorEq, ↓reduceIte] at w5
  try simp -implicitDefEqProofs only [go_sem, Nat.reduceLT, Nat.reduceAdd, Nat.reduceSub, Nat.reduceMul, Nat.reduceEqDiff, Nat.reduceBEq, Nat.reduceLeDiff, Int.reduceToNat, Int.reduceLT, Int.reduceLE, Int.reduceEq, reduceCtorEq, ↓reduceIte, i82, c82, w2, w5]
  cases b7 : (r3 : Bool)
  · replace h := br_f b7 h
    try simp -implicitDefEqProofs only [go_sem, Nat.reduceLT, Nat.reduceAdd, Nat.reduceSub, Nat.reduceMul, Nat.reduceEqDiff, Nat.reduceBEq, Nat.reduceLeDiff, Int.reduceToNat, Int.reduceLT, Int.reduceLE, Int.reduceEq, reduceCtorEq, ↓reduceIte, i82, c82, w2, w5, b7]
    cases b9 : (r6 : Bool)
    · replace h := br_f b9 h
      try simp -implicitDefEqProofs only [go_sem, Nat.reduceLT, Nat.reduceAdd, Nat.reduceSub, Nat.reduceMul, Nat.reduceEqDiff, Nat.reduceBEq, Nat.reduceLeDiff, Int.reduceToNat, Int.reduceLT, Int.reduceLE, Int.reduceEq, reduceCtorEq, ↓reduceIte, i82, c82, w2, w5, b7, b9]
      cases b10 : (ltI a0 a1 : Bool)
      · replace h := br_f b10 h
        try simp -implicitDefEqProofs only [go_sem, Nat.reduceLT, Nat.reduceAdd, Nat.reduceSub, Nat.reduceMul, Nat.reduceEqDiff, Nat.reduceBEq, Nat.reduceLeDiff, Int.reduceToNat, Int.reduceLT, Int.reduceLE, Int.reduceEq, reduceCtorEq, ↓reduceIte, i82, c82, w2, w5, b7, b9, b10]
        cases b11 : (ltI a1 a0 : Bool)
        · replace h := br_f b11 h
          cases h
          simp -implicitDefEqProofs only [go_sem, Nat.reduceLT, Nat.reduceAdd, Nat.reduceSub, Nat.reduceMul, Nat.reduceEqDiff, Nat.reduceBEq, Nat.reduceLeDiff, Int.reduceToNat, Int.reduceLT, Int.reduceLE, Int.reduceEq, reduceCtorEq, ↓reduceIte, i82, c82, w2, w5, b7, b9, b10, b11]
        · replace h := br_t b11 h
          cases h
          simp -implicitDefEqProofs only [go_sem, Nat.reduceLT, Nat.reduceAdd, Nat.reduceSub, Nat.reduceMul, Nat.reduceEqDiff, Nat.reduceBEq, Nat.reduceLeDiff, Int.reduceToNat, Int.reduceLT, Int.reduceLE, Int.reduceEq, reduceCtorEq, ↓reduceIte, i82, c82, w2, w5, b7, b9, b10, b11]
      · replace h := br_t b10 h
        cases h
        simp -implicitDefEqProofs only [go_sem, Nat.reduceLT, Nat.reduceAdd, Nat.reduceSub, Nat.reduceMul, Nat.reduceEqDiff, Nat.reduceBEq, Nat.reduceLeDiff, Int.reduceToNat, Int.reduceLT, Int.reduceLE, Int.reduceEq, reduceCtorEq, ↓reduceIte, i82, c82, w2, w5, b7, b9, b10]
    · replace h := br_t b9 h
      cases h
      simp -implicitDefEqProofs only [go_sem, Nat.reduceLT, Nat.reduceAdd, Nat.reduceSub, Nat.reduceMul, Nat.reduceEqDiff, Nat.reduceBEq, Nat.reduceLeDiff, Int.reduceToNat, Int.reduceLT, Int.reduceLE, Int.reduceEq, reduceCtorEq, ↓reduceIte, i82, c82, w2, w5, b7, b9]
  · replace h := br_t b7 h
    try simp -implicitDefEqProofs only [go_sem, Nat.reduceLT, Nat.reduceAdd, Nat.reduceSub, Nat.reduceMul, Nat.reduceEqDiff, Nat.reduceBEq, Nat.reduceLeDiff, Int.reduceToNat, Int.reduceLT, Int.reduceLE, Int.reduceEq, reduceCtorEq, ↓reduceIte, i82, c82, w2, w5, b7]
    cases b8 : (r6 : Bool)
    · replace h := br_f b8 h
      cases h
      simp -implicitDefEqProofs only [go_sem, Nat.reduceLT, Nat.reduceAdd, Nat.reduceSub, Nat.reduceMul, Nat.reduceEqDiff, Nat.reduceBEq, Nat.reduceLeDiff, Int.reduceToNat, Int.reduceLT, Int.reduceLE, Int.reduceEq, reduceCtorEq, ↓reduceIte, i82, c82, w2, w5, b7, b8]
    · replace h := br_t b8 h
      cases h
      simp -implicitDefEqProofs only [go_sem, Nat.reduceLT, Nat.reduceAdd, Nat.reduceSub, Nat.reduceMul, Nat.reduceEqDiff, Nat.reduceBEq, Nat.reduceLeDiff, Int.reduceToNat, Int.reduceLT, Int.reduceLE, Int.reduceEq, reduceCtorEq, ↓reduceIte, i82, c82, w2, w5, b7, b8]
-- f81 cmp.Or[int]
def X81_1 (a0 : (List Int)) (p1 : Int) (o : (Unit ⊕ Int)) : Ex × Fr × St :=
  match o with
  | .inl o => (.exit 0, frOf 18 (upd anyF 3 (.int .i64 0)), [])
  | .inr o => (.ret, frOf 18 (upd anyF 2 (.int .i64 o)), [])
def E81_1 (a0 : (List Int)) (p1 : Int) (s : Int) : Fr × St := (frOf 18 (upd (upd (upd (upd anyF 3 (.int .i64 0)) 6 (.ts .imm 1 (a0.map encInt))) 7 (.int .i64 p1)) 8 (.int .i64 s)), [])
theorem b81_1 (a0 : (List Int)) (p1 : Int) (s : Int) (o : Ctl Int (Unit ⊕ Int)) (h : m81_1b a0 p1 s = some o) : evCL T 0 k81_1b (E81_1 a0 p1 s).1 (E81_1 a0 p1 s).2 = some (ctlX (E81_1 a0 p1) (X81_1 a0 p1) o) := by
  unfold m81_1b at h
  revert h
  generalize s = s9
  intro h
  try simp -implicitDefEqProofs only [go_sem, Nat.reduceLT, Nat.reduceAdd, Nat.reduceSub, Nat.reduceMul, Nat.reduceEqDiff, Nat.reduceBEq, Nat.reduceLeDiff, Int.reduceToNat, Int.reduceLT, Int.reduceLE, Int.reduceEq, reduceCtorEq, ↓reduceIte, E81_1, X81_1, k81_1b]
  cases b10 : (ltI s9 p1 : Bool)
  · replace h := br_f b10 h
    cases h
    simp -implicitDefEqProofs only [go_sem, Nat.reduceLT, Nat.reduceAdd, Nat.reduceSub, Nat.reduceMul, Nat.reduceEqDiff, Nat.reduceBEq, Nat.reduceLeDiff, Int.reduceToNat, Int.reduceLT, Int.reduceLE, Int.reduceEq, reduceCtorEq, ↓reduceIte, E81_1, X81_1, k81_1b, b10]
  · replace h := br_t b10 h
    obtain ⟨x11, q12, h⟩ := bnd_some h
    obtain ⟨g13, g14, g15⟩ := idx_row encInt q12
    try simp -implicitDefEqProofs only [go_sem, Nat.reduceLT, Nat.reduceAdd, Nat.reduceSub, Nat.reduceMul, Nat.reduceEqDiff, Nat.reduceBEq, Nat.reduceLeDiff, Int.reduceToNat, Int.reduceLT, Int.reduceLE, Int.reduceEq, reduceCtorEq, ↓reduceIte] at g14
    try simp -implicitDefEqProofs only [go_sem, Nat.reduceLT, Nat.reduceAdd, Nat.reduceSub, Nat.reduceMul, Nat.reduceEqDiff, Nat.reduceBEq, Nat.reduceLeDiff, Int.reduceToNat, Int.reduceLT, Int.reduceLE, Int.reduceEq, reduceCtorEq, ↓reduceIte] at g15
    try simp -implicitDefEqProofs only [go_sem, Nat.reduceLT, Nat.reduceAdd, Nat.reduceSub, Nat.reduceMul, Nat.reduceEqDiff, Nat.reduceBEq, Nat.reduceLeDiff, Int.reduceToNat, Int.reduceLT, Int.reduceLE, Int.reduceEq, reduceCtorEq, ↓reduceIte, E81_1, X81_1, k81_1b, b10, g13, g14, g15]
    cases b16 : (eqI x11 0 : Bool)
    · replace h := br_f b16 h
      cases h
      simp -implicitDefEqProofs only [go_sem, Nat.reduceLT, Nat.reduceAdd, Nat.reduceSub, Nat.reduceMul, Nat.reduceEqDiff, Nat.reduceBEq, Nat.reduceLeDiff, Int.reduceToNat, Int.reduceLT, Int.reduceLE, Int.reduceEq, reduceCtorEq, ↓reduceIte, E81_1, X81_1, k81_1b, b10, g13, g14, g15, b16]
    · replace h := br_t b16 h
      cases h
      simp -implicitDefEqProofs only [go_sem, Nat.reduceLT, Nat.reduceAdd, Nat.reduceSub, Nat.reduceMul, Nat.reduceEqDiff, Nat.reduceBEq, Nat.reduceLeDiff, Int.reduceToNat, Int.reduceLT, Int.reduceLE, Int.reduceEq, reduceCtorEq, ↓reduceIte, E81_1, X81_1, k81_1b, b10, g13, g14, g15, b16]
theorem e81_1 (a0 : (List Int)) (p1 : Int) (s : Int) (o : (Unit ⊕ Int)) (h : loopP (m81_1b a0 p1) s = some o) : evCL T 0 (.loop k81_1b) (E81_1 a0 p1 s).1 (E81_1 a0 p1 s).2 = some (X81_1 a0 p1 o) :=
  loop_walk (E := E81_1 a0 p1) (X := X81_1 a0 p1) (by intro b; rcases b with b | b <;> (simp only [X81_1]; nofun)) (b81_1 a0 p1) s o h
theorem call81 (args : List AV) (S : St) : evCall T (evFL T) 81 args S = lendC (evFL T 81) S (lendAll S [[1]] args) := evCall0 fn81 rfl rfl args S
theorem callz81 (args : List AV) (S : St) : evCallFz T (evFL T) 81 args S = lendZ (evFL T 81) S [[0]] (lendAll S [[1]] args) := evCallFz0 fn81 rfl rfl args S
attribute [go_sem] call81 callz81
theorem e81 (a0 : (List Int)) (r : Int) (h : m81 a0 = some r) : evFL T 81 [.ts .imm 1 (a0.map encInt)] [] = some (.int .i64 r, []) := by
  unfold m81 at h
  rw [evFL_at fn81 (Nat.le_of_ble_eq_true rfl) rfl (.inr rfl)]
  try simp -implicitDefEqProofs only [go_sem, Nat.reduceLT, Nat.reduceAdd, Nat.reduceSub, Nat.reduceMul, Nat.reduceEqDiff, Nat.reduceBEq, Nat.reduceLeDiff, Int.reduceToNat, Int.reduceLT, Int.reduceLE, Int.reduceEq, reduceCtorEq, ↓reduceIte, i81, c81]
  obtain ⟨o, q17, h⟩ := bnd_some h
  rcases o with ⟨⟩ | v19
  · replace h := selS_l h
    have w18 := e81_1 a0 (↑a0.length : Int) 0 (.inl ()) q17
    simp only [E81_1, X81_1] at w18
    try simp -implicitDefEqProofs only [go_sem, Nat.reduceLT, Nat.reduceAdd, Nat.reduceSub, Nat.reduceMul, Nat.reduceEqDiff, Nat.reduceBEq, Nat.reduceLeDiff, Int.reduceToNat, Int.reduceLT, Int.reduceLE, Int.reduceEq, reduceCtorEq, ↓reduceIte] at w18
    cases h
    simp -implicitDefEqProofs only [go_sem, Nat.reduceLT, Nat.reduceAdd, Nat.reduceSub, Nat.reduceMul, Nat.reduceEqDiff, Nat.reduceBEq, Nat.reduceLeDiff, Int.reduceToNat, Int.reduceLT, Int.reduceLE, Int.reduceEq, reduceCtorEq, ↓reduceIte, i81, c81, w18]
  · replace h := selS_r h
    have w18 := e81_1 a0 (↑a0.length : Int) 0 (.inr v19) q17
    simp only [E81_1, X81_1] at w18
    try simp -implicitDefEqProofs only [go_sem, Nat.reduceLT, Nat.reduceAdd, Nat.reduceSub, Nat.reduceMul, Nat.reduceEqDiff, Nat.reduceBEq, Nat.reduceLeDiff, Int.reduceToNat, Int.reduceLT, Int.reduceLE, Int.reduceEq, reduceCtorEq, ↓reduceIte] at w18
    cases h
    simp -implicitDefEqProofs only [go_sem, Nat.reduceLT, Nat.reduceAdd, Nat.reduceSub, Nat.reduceMul, Nat.reduceEqDiff, Nat.reduceBEq, Nat.reduceLeDiff, Int.reduceToNat, Int.reduceLT, Int.reduceLE, Int.reduceEq, reduceCtorEq, ↓reduceIte, i81, c81, w18]
-- f54 impl.order
theorem call54 (args : List AV) (S : St) : evCall T (evFL T) 54 args S = lendC (evFL T 54) S (lendAll S [[0, 0, 1, 0, 0, 0, 1], [0, 0, 1, 0, 0, 0, 1]] args) := evCall0 fn54 rfl rfl args S
theorem callz54 (args : List AV) (S : St) : evCallFz T (evFL T) 54 args S = lendZ (evFL T 54) S [[0]] (lendAll S [[0, 0, 1, 0, 0, 0, 1], [0, 0, 1, 0, 0, 0, 1]] args) := evCallFz0 fn54 rfl rfl args S
attribute [go_sem] call54 callz54
theorem e54 (a0 : Offer) (a1 : Offer) (r : Int) (h : m54 a0 a1 = some r) : evFL T 54 [.agg [.int .i64 a0.peer, .int .i64 a0.attrs.origin, .ts .imm 1 (a0.attrs.path.map encInt), .int .i64 a0.attrs.next, .int .i64 a0.attrs.med, .int .i64 a0.attrs.pref, .ts .imm 1 (a0.attrs.comms.map encInt)], .agg [.int .i64 a1.peer, .int .i64 a1.attrs.origin, .ts .imm 1 (a1.attrs.path.map encInt), .int .i64 a1.attrs.next, .int .i64 a1.attrs.med, .int .i64 a1.attrs.pref, .ts .imm 1 (a1.attrs.comms.map encInt)]] [] = some (.int .i64 r, []) := by
  unfold m54 at h
  rw [evFL_at fn54 (Nat.le_of_ble_eq_true rfl) rfl (.inr rfl)]
  try simp -implicitDefEqProofs only [go_sem, Nat.reduceLT, Nat.reduceAdd, Nat.reduceSub, Nat.reduceMul, Nat.reduceEqDiff, Nat.reduceBEq, Nat.reduceLeDiff, Int.reduceToNat, Int.reduceLT, Int.reduceLE, Int.reduceEq, reduceCtorEq, ↓reduceIte, i54, c54]
  cases b1 : (eqI a0.peer a1.peer : Bool)
  · replace h := br_f b1 h
    obtain ⟨r4, q2, h⟩ := bnd_some h
    have w3 := e82 a1.attrs.pref a0.attrs.pref r4 q2
    try simp -implicitDefEqProofs only [go_sem, Nat.reduceLT, Nat.reduceAdd, Nat.reduceSub, Nat.reduceMul, Nat.reduceEqDiff, Nat.reduceBEq, Nat.reduceLeDiff, Int.reduceToNat, Int.reduceLT, Int.reduceLE, Int.reduceEq, reduceCtorEq, ↓reduceIte] at w3
    obtain ⟨r7, q5, h⟩ := bnd_some h
    have w6 := e82 (↑a0.attrs.path.length : Int) (↑a1.attrs.path.length : Int) r7 q5
    try simp -implicitDefEqProofs only [go_sem, Nat.reduceLT, Nat.reduceAdd, Nat.reduceSub, Nat.reduceMul, Nat.reduceEqDiff, Nat.reduceBEq, Nat.reduceLeDiff, Int.reduceToNat, Int.reduceLT, Int.reduceLE, Int.reduceEq, reduceCtorEq, ↓reduceIte] at w6
    obtain ⟨r10, q8, h⟩ := bnd_some h
    have w9 := e82 a0.attrs.origin a1.attrs.origin r10 q8
    try simp -implicitDefEqProofs only [go_sem, Nat.reduceLT, Nat.reduceAdd, Nat.reduceSub, Nat.reduceMul, Nat.reduceEqDiff, Nat.reduceBEq, Nat.reduceLeDiff, Int.reduceToNat, Int.reduceLT, Int.reduceLE, Int.reduceEq, reduceCtorEq, ↓reduceIte] at w9
    obtain ⟨r13, q11, h⟩ := bnd_some h
    have w12 := e82 a0.attrs.med a1.attrs.med r13 q11
    try simp -implicitDefEqProofs only [go_sem, Nat.reduceLT, Nat.reduceAdd, Nat.reduceSub, Nat.reduceMul, Nat.reduceEqDiff, Nat.reduceBEq, Nat.reduceLeDiff, Int.reduceToNat, Int.reduceLT, Int.reduceLE, Int.reduceEq, reduceCtorEq, ↓reduceIte] at w12
    obtain ⟨r16, q14, h⟩ := bnd_some h
    have w15 := e82 a0.attrs.next a1.attrs.next r16 q14
    try simp -implicitDefEqProofs only [go_sem, Nat.reduceLT, Nat.reduceAdd, Nat.reduceSub, Nat.reduceMul, Nat.reduceEqDiff, Nat.reduceBEq, Nat.reduceLeDiff, Int.reduceToNat, Int.reduceLT, Int.reduceLE, Int.reduceEq, reduceCtorEq, ↓reduceIte] at w15
    obtain ⟨r19, q17, h⟩ := bnd_some h
    have w18 := e82 a0.peer a1.peer r19 q17
    try simp -implicitDefEqProofs only [go_sem, Nat.reduceLT, Nat.reduceAdd, Nat.reduceSub, Nat.reduceMul, Nat.reduceEqDiff, Nat.reduceBEq, Nat.reduceLeDiff, Int.reduceToNat, Int.reduceLT, Int.reduceLE, Int.reduceEq, reduceCtorEq, ↓reduceIte] at w18
    obtain ⟨r22, q20, h⟩ := bnd_some h
    have w21 := e81 [r4, r7, r10, r13, r16, r19] r22 q20
    try simp -implicitDefEqProofs only [go_sem, Nat.reduceLT, Nat.reduceAdd, Nat.reduceSub, Nat.reduceMul, Nat.reduceEqDiff, Nat.reduceBEq, Nat.reduceLeDiff, Int.reduceToNat, Int.reduceLT, Int.reduceLE, Int.reduceEq, reduceCtorEq, ↓reduceIte] at w21
    cases h
    simp -implicitDefEqProofs only [go_sem, Nat.reduceLT, Nat.reduceAdd, Nat.reduceSub, Nat.reduceMul, Nat.reduceEqDiff, Nat.reduceBEq, Nat.reduceLeDiff, Int.reduceToNat, Int.reduceLT, Int.reduceLE, Int.reduceEq, reduceCtorEq, ↓reduceIte, i54, c54, b1, w3, w6, w9, w12, w15, w18, w21]
  · replace h := br_t b1 h
    cases h
    simp -implicitDefEqProofs only [go_sem, Nat.reduceLT, Nat.reduceAdd, Nat.reduceSub, Nat.reduceMul, Nat.reduceEqDiff, Nat.reduceBEq, Nat.reduceLeDiff, Int.reduceToNat, Int.reduceLT, Int.reduceLE, Int.reduceEq, reduceCtorEq, ↓reduceIte, i54, c54, b1]
-- f20 impl.CompareOffers
def X20_1 (a0 : Offer) (a1 : Offer) (o : Bool) : Ex × Fr × St :=
  (.normal, frOf 17 (upd (upd (upd anyF 2 (.ptr 0 0 0)) 3 (.ptr 1 0 0)) 13 (.bool o)), [some ⟨.box, 7, [[.int .i64 a0.peer, .int .i64 a0.attrs.origin, .ts .imm 1 (a0.attrs.path.map encInt), .int .i64 a0.attrs.next, .int .i64 a0.attrs.med, .int .i64 a0.attrs.pref, .ts .imm 1 (a0.attrs.comms.map encInt)]]⟩, some ⟨.box, 7, [[.int .i64 a1.peer, .int .i64 a1.attrs.origin, .ts .imm 1 (a1.attrs.path.map encInt), .int .i64 a1.attrs.next, .int .i64 a1.attrs.med, .int .i64 a1.attrs.pref, .ts .imm 1 (a1.attrs.comms.map encInt)]]⟩])
theorem e20_1 (a0 : Offer) (a1 : Offer) (o : Bool) (h : m20_1 a0 a1 = some o) : evCL T 0 k20_1 (frOf 17 (upd (upd anyF 2 (.ptr 0 0 0)) 3 (.ptr 1 0 0))) [some ⟨.box, 7, [[.int .i64 a0.peer, .int .i64 a0.attrs.origin, .ts .imm 1 (a0.attrs.path.map encInt), .int .i64 a0.attrs.next, .int .i64 a0.attrs.med, .int .i64 a0.attrs.pref, .ts .imm 1 (a0.attrs.comms.map encInt)]]⟩, some ⟨.box, 7, [[.int .i64 a1.peer, .int .i64 a1.attrs.origin, .ts .imm 1 (a1.attrs.path.map encInt), .int .i64 a1.attrs.next, .int .i64 a1.attrs.med, .int .i64 a1.attrs.pref, .ts .imm 1 (a1.attrs.comms.map encInt)]]⟩] = some (X20_1 a0 a1 o) := by
  unfold m20_1 at h
  obtain ⟨r3, q1, h⟩ := bnd_some h
  have w2 := e50 a0 r3 q1
  try simp -implicitDefEqProofs only [go_sem, Nat.reduceLT, Nat.reduceAdd, Nat.reduceSub, Nat.reduceMul, Nat.reduceEqDiff, Nat.reduceBEq, Nat.reduceLeDiff, Int.reduceToNat, Int.reduceLT, Int.reduceLE, Int.reduceEq, reduceCtorEq, ↓reduceIte] at w2
  try simp -implicitDefEqProofs only [go_sem, Nat.reduceLT, Nat.reduceAdd, Nat.reduceSub, Nat.reduceMul, Nat.reduceEqDiff, Nat.reduceBEq, Nat.reduceLeDiff, Int.reduceToNat, Int.reduceLT, Int.reduceLE, Int.reduceEq, reduceCtorEq, ↓reduceIte, X20_1, k20_1, w2]
  cases b4 : (r3 : Bool)
  · replace h := br_f b4 h
    cases h
    simp -implicitDefEqProofs only [go_sem, Nat.reduceLT, Nat.reduceAdd, Nat.reduceSub, Nat.reduceMul, Nat.reduceEqDiff, Nat.reduceBEq, Nat.reduceLeDiff, Int.reduceToNat, Int.reduceLT, Int.reduceLE, Int.reduceEq, reduceCtorEq, ↓reduceIte, X20_1, k20_1, w2, b4]
  · replace h := br_t b4 h
    obtain ⟨r7, q5, h⟩ := bnd_some h
    have w6 := e50 a1 r7 q5
    try simp -implicitDefEqProofs only [go_sem, Nat.reduceLT, Nat.reduceAdd, Nat.reduceSub, Nat.reduceMul, Nat.reduceEqDiff, Nat.reduceBEq, Nat.reduceLeDiff, Int.reduceToNat, Int.reduceLT, Int.reduceLE, Int.reduceEq, reduceCtorEq, ↓reduceIte] at w6
    cases h
    simp -implicitDefEqProofs only [go_sem, Nat.reduceLT, Nat.reduceAdd, Nat.reduceSub, Nat.reduceMul, Nat.reduceEqDiff, Nat.reduceBEq, Nat.reduceLeDiff, Int.reduceToNat, Int.reduceLT, Int.reduceLE, Int.reduceEq, reduceCtorEq, ↓reduceIte, X20_1, k20_1, w2, b4, w6]
theorem call20 (args : List AV) (S : St) : evCall T (evFL T) 20 args S = lendC (evFL T 20) S (lendAll S [[0, 0, 1, 0, 0, 0, 1], [0, 0, 1, 0, 0, 0, 1]] args) := evCall0 fn20 rfl rfl args S
theorem callz20 (args : List AV) (S : St) : evCallFz T (evFL T) 20 args S = lendZ (evFL T 20) S [[0], [0]] (lendAll S [[0, 0, 1, 0, 0, 0, 1], [0, 0, 1, 0, 0, 0, 1]] args) := evCallFz0 fn20 rfl rfl args S
attribute [go_sem] call20 callz20
theorem e20 (a0 : Offer) (a1 : Offer) (r : (Int × Bool)) (h : m20 a0 a1 = some r) : evFL T 20 [.agg [.int .i64 a0.peer, .int .i64 a0.attrs.origin, .ts .imm 1 (a0.attrs.path.map encInt), .int .i64 a0.attrs.next, .int .i64 a0.attrs.med, .int .i64 a0.attrs.pref, .ts .imm 1 (a0.attrs.comms.map encInt)], .agg [.int .i64 a1.peer, .int .i64 a1.attrs.origin, .ts .imm 1 (a1.attrs.path.map encInt), .int .i64 a1.attrs.next, .int .i64 a1.attrs.med, .int .i64 a1.attrs.pref, .ts .imm 1 (a1.attrs.comms.map encInt)]] [] = some (.tup [.int .i64 r.1, .bool r.2], []) := by
  unfold m20 at h
  rw [evFL_at fn20 (Nat.le_of_ble_eq_true rfl) rfl (.inr rfl)]
  obtain ⟨v10, q8, h⟩ := bnd_some h
  have w9 := e20_1 a0 a1 v10 q8
  simp only [X20_1] at w9
  try simp -implicitDefEqProofs only [go_sem, Nat.reduceLT, Nat.reduceAdd, Nat.reduceSub, Nat.reduceMul, Nat.reduceEqDiff, Nat.reduceBEq, Nat.reduceLeDiff, Int.reduceToNat, Int.reduceLT, Int.reduceLE, Int.reduceEq, reduceCtorEq, ↓reduceIte] at w9
  try simp -implicitDefEqProofs only [go_sem, Nat.reduceLT, Nat.reduceAdd, Nat.reduceSub, Nat.reduceMul, Nat.reduceEqDiff, Nat.reduceBEq, Nat.reduceLeDiff, Int.reduceToNat, Int.reduceLT, Int.reduceLE, Int.reduceEq, reduceCtorEq, ↓reduceIte, i20, c20, w9]
  cases b11 : (v10 : Bool)
  · replace h := br_f b11 h
    obtain ⟨r14, q12, h⟩ := bnd_some h
    have w13 := e54 a0 a1 r14 q12
    try simp -implicitDefEqProofs only [go_sem, Nat.reduceLT, Nat.reduceAdd, Nat.reduceSub, Nat.reduceMul, Nat.reduceEqDiff, Nat.reduceBEq, Nat.reduceLeDiff, Int.reduceToNat, Int.reduceLT, Int.reduceLE, Int.reduceEq, reduceCtorEq, ↓reduceIte] at w13
    cases h
    simp -implicitDefEqProofs only [go_sem, Nat.reduceLT, Nat.reduceAdd, Nat.reduceSub, Nat.reduceMul, Nat.reduceEqDiff, Nat.reduceBEq, Nat.reduceLeDiff, Int.reduceToNat, Int.reduceLT, Int.reduceLE, Int.reduceEq, reduceCtorEq, ↓reduceIte, i20, c20, w9, b11, w13]
  · replace h := br_t b11 h
    cases h
    simp -implicitDefEqProofs only [go_sem, Nat.reduceLT, Nat.reduceAdd, Nat.reduceSub, Nat.reduceMul, Nat.reduceEqDiff, Nat.reduceBEq, Nat.reduceLeDiff, Int.reduceToNat, Int.reduceLT, Int.reduceLE, Int.reduceEq, reduceCtorEq, ↓reduceIte, i20, c20, w9, b11]
-- f33 laws.eqIntS
def X33_1 (a0 : (List Int)) (a1 : (List Int)) (o : (Unit ⊕ Unit)) : Ex × Fr × St :=
  match o with
  | .inl o => (.exit 0, frOf 26 (anyF), [])
  | .inr o => (.ret, frOf 26 (upd anyF 4 (.bool false)), [])
def E33_1 (a0 : (List Int)) (a1 : (List Int)) (s : Int) : Fr × St := (frOf 26 (upd (upd (upd anyF 0 (.ts .imm 1 (a0.map encInt))) 1 (.ts .imm 1 (a1.map encInt))) 5 (.int .i64 s)), [])
theorem b33_1 (a0 : (List Int)) (a1 : (List Int)) (s : Int) (o : Ctl Int (Unit ⊕ Unit)) (h : m33_1b a0 a1 s = some o) : evCL T 0 k33_1b (E33_1 a0 a1 s).1 (E33_1 a0 a1 s).2 = some (ctlX (E33_1 a0 a1) (X33_1 a0 a1) o) := by
  unfold m33_1b at h
  revert h
  generalize s = s14
  intro h
  try simp -implicitDefEqProofs only [go_sem, Nat.reduceLT, Nat.reduceAdd, Nat.reduceSub, Nat.reduceMul, Nat.reduceEqDiff, Nat.reduceBEq, Nat.reduceLeDiff, Int.reduceToNat, Int.reduceLT, Int.reduceLE, Int.reduceEq, reduceCtorEq, ↓reduceIte, E33_1, X33_1, k33_1b]
  cases b15 : (ltI s14 (↑a0.length : Int) : Bool)
  · replace h := br_f b15 h
    cases h
    simp -implicitDefEqProofs only [go_sem, Nat.reduceLT, Nat.reduceAdd, Nat.reduceSub, Nat.reduceMul, Nat.reduceEqDiff, Nat.reduceBEq, Nat.reduceLeDiff, Int.reduceToNat, Int.reduceLT, Int.reduceLE, Int.reduceEq, reduceCtorEq, ↓reduceIte, E33_1, X33_1, k33_1b, b15]
  · replace h := br_t b15 h
    obtain ⟨x16, q17, h⟩ := bnd_some h
    obtain ⟨g18, g19, g20⟩ := idx_row encInt q17
    try simp -implicitDefEqProofs only [go_sem, Nat.reduceLT, Nat.reduceAdd, Nat.reduceSub, Nat.reduceMul, Nat.reduceEqDiff, Nat.reduceBEq, Nat.reduceLeDiff, Int.reduceToNat, Int.reduceLT, Int.reduceLE, Int.reduceEq, reduceCtorEq, ↓reduceIte] at g19
    try simp -implicitDefEqProofs only [go_sem, Nat.reduceLT, Nat.reduceAdd, Nat.reduceSub, Nat.reduceMul, Nat.reduceEqDiff, Nat.reduceBEq, Nat.reduceLeDiff, Int.reduceToNat, Int.reduceLT, Int.reduceLE, Int.reduceEq, reduceCtorEq, ↓reduceIte] at g20
    obtain ⟨x21, q22, h⟩ := bnd_some h
    obtain ⟨g23, g24, g25⟩ := idx_row encInt q22
    try simp -implicitDefEqProofs only [go_sem, Nat.reduceLT, Nat.reduceAdd, Nat.reduceSub, Nat.reduceMul, Nat.reduceEqDiff, Nat.reduceBEq, Nat.reduceLeDiff, Int.reduceToNat, Int.reduceLT, Int.reduceLE, Int.reduceEq, reduceCtorEq, ↓reduceIte] at g24
    try simp -implicitDefEqProofs only [go_sem, Nat.reduceLT, Nat.reduceAdd, Nat.reduceSub, Nat.reduceMul, Nat.reduceEqDiff, Nat.reduceBEq, Nat.reduceLeDiff, Int.reduceToNat, Int.reduceLT, Int.reduceLE, Int.reduceEq, reduceCtorEq, ↓reduceIte] at g25
    try simp -implicitDefEqProofs only [go_sem, Nat.reduceLT, Nat.reduceAdd, Nat.reduceSub, Nat.reduceMul, Nat.reduceEqDiff, Nat.reduceBEq, Nat.reduceLeDiff, Int.reduceToNat, Int.reduceLT, Int.reduceLE, Int.reduceEq, reduceCtorEq, ↓reduceIte, E33_1, X33_1, k33_1b, b15, g18, g19, g20, g23, g24, g25]
    cases b26 : (eqI x16 x21 : Bool)
    · replace h := br_f b26 h
      cases h
      simp -implicitDefEqProofs only [go_sem, Nat.reduceLT, Nat.reduceAdd, Nat.reduceSub, Nat.reduceMul, Nat.reduceEqDiff, Nat.reduceBEq, Nat.reduceLeDiff, Int.reduceToNat, Int.reduceLT, Int.reduceLE, Int.reduceEq, reduceCtorEq, ↓reduceIte, E33_1, X33_1, k33_1b, b15, g18, g19, g20, g23, g24, g25, b26]
    · replace h := br_t b26 h
      cases h
      simp -implicitDefEqProofs only [go_sem, Nat.reduceLT, Nat.reduceAdd, Nat.reduceSub, Nat.reduceMul, Nat.reduceEqDiff, Nat.reduceBEq, Nat.reduceLeDiff, Int.reduceToNat, Int.reduceLT, Int.reduceLE, Int.reduceEq, reduceCtorEq, ↓reduceIte, E33_1, X33_1, k33_1b, b15, g18, g19, g20, g23, g24, g25, b26]
theorem e33_1 (a0 : (List Int)) (a1 : (List Int)) (s : Int) (o : (Unit ⊕ Unit)) (h : loopP (m33_1b a0 a1) s = some o) : evCL T 0 (.loop k33_1b) (E33_1 a0 a1 s).1 (E33_1 a0 a1 s).2 = some (X33_1 a0 a1 o) :=
  loop_walk (E := E33_1 a0 a1) (X := X33_1 a0 a1) (by intro b; rcases b with b | b <;> (simp only [X33_1]; nofun)) (b33_1 a0 a1) s o h
theorem call33 (args : List AV) (S : St) : evCall T (evFL T) 33 args S = lendC (evFL T 33) S (lendAll S [[1], [1]] args) := evCall0 fn33 rfl rfl args S
theorem callz33 (args : List AV) (S : St) : evCallFz T (evFL T) 33 args S = lendZ (evFL T 33) S [[0]] (lendAll S [[1], [1]] args) := evCallFz0 fn33 rfl rfl args S
attribute [go_sem] call33 callz33
theorem e33 (a0 : (List Int)) (a1 : (List Int)) (r : Bool) (h : m33 a0 a1 = some r) : evFL T 33 [.ts .imm 1 (a0.map encInt), .ts .imm 1 (a1.map encInt)] [] = some (.bool r, []) := by
  unfold m33 at h
  rw [evFL_at fn33 (Nat.le_of_ble_eq_true rfl) rfl (.inr rfl)]
  try simp -implicitDefEqProofs only [go_sem, Nat.reduceLT, Nat.reduceAdd, Nat.reduceSub, Nat.reduceMul, Nat.reduceEqDiff, Nat.reduceBEq, Nat.reduceLeDiff, Int.reduceToNat, Int.reduceLT, Int.reduceLE, Int.reduceEq, reduceCtorEq, ↓reduceIte, i33, c33]
  cases b1 : (eqI (↑a0.length : Int) (↑a1.length : Int) : Bool)
  · replace h := br_f b1 h
    cases h
    simp -implicitDefEqProofs only [go_sem, Nat.reduceLT, Nat.reduceAdd, Nat.reduceSub, Nat.reduceMul, Nat.reduceEqDiff, Nat.reduceBEq, Nat.reduceLeDiff, Int.reduceToNat, Int.reduceLT, Int.reduceLE, Int.reduceEq, reduceCtorEq, ↓reduceIte, i33, c33, b1]
  · replace h := br_t b1 h
    try simp -implicitDefEqProofs only [go_sem, Nat.reduceLT, Nat.reduceAdd, Nat.reduceSub, Nat.reduceMul, Nat.reduceEqDiff, Nat.reduceBEq, Nat.reduceLeDiff, Int.reduceToNat, Int.reduceLT, Int.reduceLE, Int.reduceEq, reduceCtorEq, ↓reduceIte, i33, c33, b1]
    obtain ⟨o, q27, h⟩ := bnd_some h
    rcases o with ⟨⟩ | ⟨⟩
    · replace h := selS_l h
      have w28 := e33_1 a0 a1 0 (.inl ()) q27
      simp only [E33_1, X33_1] at w28
      try simp -implicitDefEqProofs only [go_sem, Nat.reduceLT, Nat.reduceAdd, Nat.reduceSub, Nat.reduceMul, Nat.reduceEqDiff, Nat.reduceBEq, Nat.reduceLeDiff, Int.reduceToNat, Int.reduceLT, Int.reduceLE, Int.reduceEq, reduceCtorEq, ↓reduceIte] at w28
      cases h
      simp -implicitDefEqProofs only [go_sem, Nat.reduceLT, Nat.reduceAdd, Nat.reduceSub, Nat.reduceMul, Nat.reduceEqDiff, Nat.reduceBEq, Nat.reduceLeDiff, Int.reduceToNat, Int.reduceLT, Int.reduceLE, Int.reduceEq, reduceCtorEq, ↓reduceIte, i33, c33, b1, w28]
    · replace h := selS_r h
      have w28 := e33_1 a0 a1 0 (.inr ()) q27
      simp only [E33_1, X33_1] at w28
      try simp -implicitDefEqProofs only [go_sem, Nat.reduceLT, Nat.reduceAdd, Nat.reduceSub, Nat.reduceMul, Nat.reduceEqDiff, Nat.reduceBEq, Nat.reduceLeDiff, Int.reduceToNat, Int.reduceLT, Int.reduceLE, Int.reduceEq, reduceCtorEq, ↓reduceIte] at w28
      cases h
      simp -implicitDefEqProofs only [go_sem, Nat.reduceLT, Nat.reduceAdd, Nat.reduceSub, Nat.reduceMul, Nat.reduceEqDiff, Nat.reduceBEq, Nat.reduceLeDiff, Int.reduceToNat, Int.reduceLT, Int.reduceLE, Int.reduceEq, reduceCtorEq, ↓reduceIte, i33, c33, b1, w28]
-- f55 laws.eqAttrs
theorem call55 (args : List AV) (S : St) : evCall T (evFL T) 55 args S = lendC (evFL T 55) S (lendAll S [[0, 1, 0, 0, 0, 1], [0, 1, 0, 0, 0, 1]] args) := evCall0 fn55 rfl rfl args S
theorem callz55 (args : List AV) (S : St) : evCallFz T (evFL T) 55 args S = lendZ (evFL T 55) S [[0]] (lendAll S [[0, 1, 0, 0, 0, 1], [0, 1, 0, 0, 0, 1]] args) := evCallFz0 fn55 rfl rfl args S
attribute [go_sem] call55 callz55
theorem e55 (a0 : Attrs) (a1 : Attrs) (r : Bool) (h : m55 a0 a1 = some r) : evFL T 55 [.agg [.int .i64 a0.origin, .ts .imm 1 (a0.path.map encInt), .int .i64 a0.next, .int .i64 a0.med, .int .i64 a0.pref, .ts .imm 1 (a0.comms.map encInt)], .agg [.int .i64 a1.origin, .ts .imm 1 (a1.path.map encInt), .int .i64 a1.next, .int .i64 a1.med, .int .i64 a1.pref, .ts .imm 1 (a1.comms.map encInt)]] [] = some (.bool r, []) := by
  unfold m55 at h
  rw [evFL_at fn55 (Nat.le_of_ble_eq_true rfl) rfl (.inr rfl)]
  try simp -implicitDefEqProofs only [go_sem, Nat.reduceLT, Nat.reduceAdd, Nat.reduceSub, Nat.reduceMul, Nat.reduceEqDiff, Nat.reduceBEq, Nat.reduceLeDiff, Int.reduceToNat, Int.reduceLT, Int.reduceLE, Int.reduceEq, reduceCtorEq, ↓reduceIte, i55, c55]
  cases b1 : (eqI a0.origin a1.origin : Bool)
  · replace h := br_f b1 h
    cases h
    simp -implicitDefEqProofs only [go_sem, Nat.reduceLT, Nat.reduceAdd, Nat.reduceSub, Nat.reduceMul, Nat.reduceEqDiff, Nat.reduceBEq, Nat.reduceLeDiff, Int.reduceToNat, Int.reduceLT, Int.reduceLE, Int.reduceEq, reduceCtorEq, ↓reduceIte, i55, c55, b1]
  · replace h := br_t b1 h
    obtain ⟨r4, q2, h⟩ := bnd_some h
    have w3 := e33 a0.path a1.path r4 q2
    try simp -implicitDefEqProofs only [go_sem, Nat.reduceLT, Nat.reduceAdd, Nat.reduceSub, Nat.reduceMul, Nat.reduceEqDiff, Nat.reduceBEq, Nat.reduceLeDiff, Int.reduceToNat, Int.reduceLT, Int.reduceLE, Int.reduceEq, reduceCtorEq, ↓reduceIte] at w3
    try simp -implicitDefEqProofs only [go_sem, Nat.reduceLT, Nat.reduceAdd, Nat.reduceSub, Nat.reduceMul, Nat.reduceEqDiff, Nat.reduceBEq, Nat.reduceLeDiff, Int.reduceToNat, Int.reduceLT, Int.reduceLE, Int.reduceEq, reduceCtorEq, ↓reduceIte, i55, c55, b1, w3]
    cases b5 : (r4 : Bool)
    · replace h := br_f b5 h
      cases h
      simp -implicitDefEqProofs only [go_sem, Nat.reduceLT, Nat.reduceAdd, Nat.reduceSub, Nat.reduceMul, Nat.reduceEqDiff, Nat.reduceBEq, Nat.reduceLeDiff, Int.reduceToNat, Int.reduceLT, Int.reduceLE, Int.reduceEq, reduceCtorEq, ↓reduceIte, i55, c55, b1, w3, b5]
    · replace h := br_t b5 h
      try simp -implicitDefEqProofs only [go_sem, Nat.reduceLT, Nat.reduceAdd, Nat.reduceSub, Nat.reduceMul, Nat.reduceEqDiff, Nat.reduceBEq, Nat.reduceLeDiff, Int.reduceToNat, Int.reduceLT, Int.reduceLE, Int.reduceEq, reduceCtorEq, ↓reduceIte, i55, c55, b1, w3, b5]
      cases b6 : (eqI a0.next a1.next : Bool)
      · replace h := br_f b6 h
        cases h
        simp -implicitDefEqProofs only [go_sem, Nat.reduceLT, Nat.reduceAdd, Nat.reduceSub, Nat.reduceMul, Nat.reduceEqDiff, Nat.reduceBEq, Nat.reduceLeDiff, Int.reduceToNat, Int.reduceLT, Int.reduceLE, Int.reduceEq, reduceCtorEq, ↓reduceIte, i55, c55, b1, w3, b5, b6]
      · replace h := br_t b6 h
        try simp -implicitDefEqProofs only [go_sem, Nat.reduceLT, Nat.reduceAdd, Nat.reduceSub, Nat.reduceMul, Nat.reduceEqDiff, Nat.reduceBEq, Nat.reduceLeDiff, Int.reduceToNat, Int.reduceLT, Int.reduceLE, Int.reduceEq, reduceCtorEq, ↓reduceIte, i55, c55, b1, w3, b5, b6]
        cases b7 : (eqI a0.med a1.med : Bool)
        · replace h := br_f b7 h
          cases h
          simp -implicitDefEqProofs only [go_sem, Nat.reduceLT, Nat.reduceAdd, Nat.reduceSub, Nat.reduceMul, Nat.reduceEqDiff, Nat.reduceBEq, Nat.reduceLeDiff, Int.reduceToNat, Int.reduceLT, Int.reduceLE, Int.reduceEq, reduceCtorEq, ↓reduceIte, i55, c55, b1, w3, b5, b6, b7]
        · replace h := br_t b7 h
          try simp -implicitDefEqProofs only [go_sem, Nat.reduceLT, Nat.reduceAdd, Nat.reduceSub, Nat.reduceMul, Nat.reduceEqDiff, Nat.reduceBEq, Nat.reduceLeDiff, Int.reduceToNat, Int.reduceLT, Int.reduceLE, Int.reduceEq, reduceCtorEq, ↓reduceIte, i55, c55, b1, w3, b5, b6, b7]
          cases b8 : (eqI a0.pref a1.pref : Bool)
          · replace h := br_f b8 h
            cases h
            simp -implicitDefEqProofs only [go_sem, Nat.reduceLT, Nat.reduceAdd, Nat.reduceSub, Nat.reduceMul, Nat.reduceEqDiff, Nat.reduceBEq, Nat.reduceLeDiff, Int.reduceToNat, Int.reduceLT, Int.reduceLE, Int.reduceEq, reduceCtorEq, ↓reduceIte, i55, c55, b1, w3, b5, b6, b7, b8]
          · replace h := br_t b8 h
            obtain ⟨r11, q9, h⟩ := bnd_some h
            have w10 := e33 a0.comms a1.comms r11 q9
            try simp -implicitDefEqProofs only [go_sem, Nat.reduceLT, Nat.reduceAdd, Nat.reduceSub, Nat.reduceMul, Nat.reduceEqDiff, Nat.reduceBEq, Nat.reduceLeDiff, Int.reduceToNat, Int.reduceLT, Int.reduceLE, Int.reduceEq, reduceCtorEq, ↓reduceIte] at w10
            try simp -implicitDefEqProofs only [go_sem, Nat.reduceLT, Nat.reduceAdd, Nat.reduceSub, Nat.reduceMul, Nat.reduceEqDiff, Nat.reduceBEq, Nat.reduceLeDiff, Int.reduceToNat, Int.reduceLT, Int.reduceLE, Int.reduceEq, reduceCtorEq, ↓reduceIte, i55, c55, b1, w3, b5, b6, b7, b8, w10]
            cases b12 : (r11 : Bool)
            · replace h := br_f b12 h
              cases h
              simp -implicitDefEqProofs only [go_sem, Nat.reduceLT, Nat.reduceAdd, Nat.reduceSub, Nat.reduceMul, Nat.reduceEqDiff, Nat.reduceBEq, Nat.reduceLeDiff, Int.reduceToNat, Int.reduceLT, Int.reduceLE, Int.reduceEq, reduceCtorEq, ↓reduceIte, i55, c55, b1, w3, b5, b6, b7, b8, w10, b12]
            · replace h := br_t b12 h
              cases h
              simp -implicitDefEqProofs only [go_sem, Nat.reduceLT, Nat.reduceAdd, Nat.reduceSub, Nat.reduceMul, Nat.reduceEqDiff, Nat.reduceBEq, Nat.reduceLeDiff, Int.reduceToNat, Int.reduceLT, Int.reduceLE, Int.reduceEq, reduceCtorEq, ↓reduceIte, i55, c55, b1, w3, b5, b6, b7, b8, w10, b12]
-- f21 laws.eqOffer
theorem call21 (args : List AV) (S : St) : evCall T (evFL T) 21 args S = lendC (evFL T 21) S (lendAll S [[0, 0, 1, 0, 0, 0, 1], [0, 0, 1, 0, 0, 0, 1]] args) := evCall0 fn21 rfl rfl args S
theorem callz21 (args : List AV) (S : St) : evCallFz T (evFL T) 21 args S = lendZ (evFL T 21) S [[0]] (lendAll S [[0, 0, 1, 0, 0, 0, 1], [0, 0, 1, 0, 0, 0, 1]] args) := evCallFz0 fn21 rfl rfl args S
attribute [go_sem] call21 callz21
theorem e21 (a0 : Offer) (a1 : Offer) (r : Bool) (h : m21 a0 a1 = some r) : evFL T 21 [.agg [.int .i64 a0.peer, .int .i64 a0.attrs.origin, .ts .imm 1 (a0.attrs.path.map encInt), .int .i64 a0.attrs.next, .int .i64 a0.attrs.med, .int .i64 a0.attrs.pref, .ts .imm 1 (a0.attrs.comms.map encInt)], .agg [.int .i64 a1.peer, .int .i64 a1.attrs.origin, .ts .imm 1 (a1.attrs.path.map encInt), .int .i64 a1.attrs.next, .int .i64 a1.attrs.med, .int .i64 a1.attrs.pref, .ts .imm 1 (a1.attrs.comms.map encInt)]] [] = some (.bool r, []) := by
  unfold m21 at h
  rw [evFL_at fn21 (Nat.le_of_ble_eq_true rfl) rfl (.inr rfl)]
  try simp -implicitDefEqProofs only [go_sem, Nat.reduceLT, Nat.reduceAdd, Nat.reduceSub, Nat.reduceMul, Nat.reduceEqDiff, Nat.reduceBEq, Nat.reduceLeDiff, Int.reduceToNat, Int.reduceLT, Int.reduceLE, Int.reduceEq, reduceCtorEq, ↓reduceIte, i21, c21]
  cases b1 : (eqI a0.peer a1.peer : Bool)
  · replace h := br_f b1 h
    cases h
    simp -implicitDefEqProofs only [go_sem, Nat.reduceLT, Nat.reduceAdd, Nat.reduceSub, Nat.reduceMul, Nat.reduceEqDiff, Nat.reduceBEq, Nat.reduceLeDiff, Int.reduceToNat, Int.reduceLT, Int.reduceLE, Int.reduceEq, reduceCtorEq, ↓reduceIte, i21, c21, b1]
  · replace h := br_t b1 h
    obtain ⟨r4, q2, h⟩ := bnd_some h
    have w3 := e55 a0.attrs a1.attrs r4 q2
    try simp -implicitDefEqProofs only [go_sem, Nat.reduceLT, Nat.reduceAdd, Nat.reduceSub, Nat.reduceMul, Nat.reduceEqDiff, Nat.reduceBEq, Nat.reduceLeDiff, Int.reduceToNat, Int.reduceLT, Int.reduceLE, Int.reduceEq, reduceCtorEq, ↓reduceIte] at w3
    try simp -implicitDefEqProofs only [go_sem, Nat.reduceLT, Nat.reduceAdd, Nat.reduceSub, Nat.reduceMul, Nat.reduceEqDiff, Nat.reduceBEq, Nat.reduceLeDiff, Int.reduceToNat, Int.reduceLT, Int.reduceLE, Int.reduceEq, reduceCtorEq, ↓reduceIte, i21, c21, b1, w3]
    cases b5 : (r4 : Bool)
    · replace h := br_f b5 h
      cases h
      simp -implicitDefEqProofs only [go_sem, Nat.reduceLT, Nat.reduceAdd, Nat.reduceSub, Nat.reduceMul, Nat.reduceEqDiff, Nat.reduceBEq, Nat.reduceLeDiff, Int.reduceToNat, Int.reduceLT, Int.reduceLE, Int.reduceEq, reduceCtorEq, ↓reduceIte, i21, c21, b1, w3, b5]
    · replace h := br_t b5 h
      cases h
      simp -implicitDefEqProofs only [go_sem, Nat.reduceLT, Nat.reduceAdd, Nat.reduceSub, Nat.reduceMul, Nat.reduceEqDiff, Nat.reduceBEq, Nat.reduceLeDiff, Int.reduceToNat, Int.reduceLT, Int.reduceLE, Int.reduceEq, reduceCtorEq, ↓reduceIte, i21, c21, b1, w3, b5]
-- f4 laws.FnExactCompareOffers
def X4_1 (r17 : Int) (r18 : Bool) (r25 : Int) (r26 : Bool) (a0 : Offer) (a1 : Offer) (r11 : Offer) (r14 : Offer) (o : Bool) : Ex × Fr × St :=
  (.normal, frOf 58 (upd (upd (upd (upd (upd anyF 2 (.ptr 0 0 0)) 3 (.ptr 1 0 0)) 8 (.ptr 2 0 0)) 9 (.ptr 5 0 0)) 47 (.bool o)), [some ⟨.box, 7, [[.int .i64 a0.peer, .int .i64 a0.attrs.origin, .ts .imm 1 (a0.attrs.path.map encInt), .int .i64 a0.attrs.next, .int .i64 a0.attrs.med, .int .i64 a0.attrs.pref, .ts .imm 1 (a0.attrs.comms.map encInt)]]⟩, some ⟨.box, 7, [[.int .i64 a1.peer, .int .i64 a1.attrs.origin, .ts .imm 1 (a1.attrs.path.map encInt), .int .i64 a1.attrs.next, .int .i64 a1.attrs.med, .int .i64 a1.attrs.pref, .ts .imm 1 (a1.attrs.comms.map encInt)]]⟩, some ⟨.box, 7, [[.int .i64 r11.peer, .int .i64 r11.attrs.origin, .sl 3 0 r11.attrs.path.length, .int .i64 r11.attrs.next, .int .i64 r11.attrs.med, .int .i64 r11.attrs.pref, .sl 4 0 r11.attrs.comms.length]]⟩, some ⟨.arr, 1, r11.attrs.path.map encInt⟩, some ⟨.arr, 1, r11.attrs.comms.map encInt⟩, some ⟨.box, 7, [[.int .i64 r14.peer, .int .i64 r14.attrs.origin, .sl 6 0 r14.attrs.path.length, .int .i64 r14.attrs.next, .int .i64 r14.attrs.med, .int .i64 r14.attrs.pref, .sl 7 0 r14.attrs.comms.length]]⟩, some ⟨.arr, 1, r14.attrs.path.map encInt⟩, some ⟨.arr, 1, r14.attrs.comms.map encInt⟩])
theorem e4_1 (r17 : Int) (r18 : Bool) (r25 : Int) (r26 : Bool) (a0 : Offer) (a1 : Offer) (r11 : Offer) (r14 : Offer) (o : Bool) (h : m4_1 r17 r18 r25 r26 = some o) : evCL T 0 k4_1 (frOf 58 (upd (upd (upd (upd (upd (upd (upd (upd anyF 2 (.ptr 0 0 0)) 3 (.ptr 1 0 0)) 6 (.int .i64 r17)) 7 (.bool r18)) 8 (.ptr 2 0 0)) 9 (.ptr 5 0 0)) 10 (.int .i64 r25)) 11 (.bool r26))) [some ⟨.box, 7, [[.int .i64 a0.peer, .int .i64 a0.attrs.origin, .ts .imm 1 (a0.attrs.path.map encInt), .int .i64 a0.attrs.next, .int .i64 a0.attrs.med, .int .i64 a0.attrs.pref, .ts .imm 1 (a0.attrs.comms.map encInt)]]⟩, some ⟨.box, 7, [[.int .i64 a1.peer, .int .i64 a1.attrs.origin, .ts .imm 1 (a1.attrs.path.map encInt), .int .i64 a1.attrs.next, .int .i64 a1.attrs.med, .int .i64 a1.attrs.pref, .ts .imm 1 (a1.attrs.comms.map encInt)]]⟩, some ⟨.box, 7, [[.int .i64 r11.peer, .int .i64 r11.attrs.origin, .sl 3 0 r11.attrs.path.length, .int .i64 r11.attrs.next, .int .i64 r11.attrs.med, .int .i64 r11.attrs.pref, .sl 4 0 r11.attrs.comms.length]]⟩, some ⟨.arr, 1, r11.attrs.path.map encInt⟩, some ⟨.arr, 1, r11.attrs.comms.map encInt⟩, some ⟨.box, 7, [[.int .i64 r14.peer, .int .i64 r14.attrs.origin, .sl 6 0 r14.attrs.path.length, .int .i64 r14.attrs.next, .int .i64 r14.attrs.med, .int .i64 r14.attrs.pref, .sl 7 0 r14.attrs.comms.length]]⟩, some ⟨.arr, 1, r14.attrs.path.map encInt⟩, some ⟨.arr, 1, r14.attrs.comms.map encInt⟩] = some (X4_1 r17 r18 r25 r26 a0 a1 r11 r14 o) := by
  unfold m4_1 at h
  try simp -implicitDefEqProofs only [go_sem, Nat.reduceLT, Nat.reduceAdd, Nat.reduceSub, Nat.reduceMul, Nat.reduceEqDiff, Nat.reduceBEq, Nat.reduceLeDiff, Int.reduceToNat, Int.reduceLT, Int.reduceLE, Int.reduceEq, reduceCtorEq, ↓reduceIte, X4_1, k4_1]
  cases b27 : (eqI r25 r17 : Bool)
  · replace h := br_f b27 h
    cases h
    simp -implicitDefEqProofs only [go_sem, Nat.reduceLT, Nat.reduceAdd, Nat.reduceSub, Nat.reduceMul, Nat.reduceEqDiff, Nat.reduceBEq, Nat.reduceLeDiff, Int.reduceToNat, Int.reduceLT, Int.reduceLE, Int.reduceEq, reduceCtorEq, ↓reduceIte, X4_1, k4_1, b27]
  · replace h := br_t b27 h
    cases h
    simp -implicitDefEqProofs only [go_sem, Nat.reduceLT, Nat.reduceAdd, Nat.reduceSub, Nat.reduceMul, Nat.reduceEqDiff, Nat.reduceBEq, Nat.reduceLeDiff, Int.reduceToNat, Int.reduceLT, Int.reduceLE, Int.reduceEq, reduceCtorEq, ↓reduceIte, X4_1, k4_1, b27]
theorem call4 (args : List AV) (S : St) : evCall T (evFL T) 4 args S = lendC (evFL T 4) S (lendAll S [[0, 0, 1, 0, 0, 0, 1], [0, 0, 1, 0, 0, 0, 1]] args) := evCall0 fn4 rfl rfl args S
theorem callz4 (args : List AV) (S : St) : evCallFz T (evFL T) 4 args S = lendZ (evFL T 4) S [[0]] (lendAll S [[0, 0, 1, 0, 0, 0, 1], [0, 0, 1, 0, 0, 0, 1]] args) := evCallFz0 fn4 rfl rfl args S
attribute [go_sem] call4 callz4
theorem e4 (a0 : Offer) (a1 : Offer) (r : Bool) (h : m4 a0 a1 = some r) : evFL T 4 [.agg [.int .i64 a0.peer, .int .i64 a0.attrs.origin, .ts .imm 1 (a0.attrs.path.map encInt), .int .i64 a0.attrs.next, .int .i64 a0.attrs.med, .int .i64 a0.attrs.pref, .ts .imm 1 (a0.attrs.comms.map encInt)], .agg [.int .i64 a1.peer, .int .i64 a1.attrs.origin, .ts .imm 1 (a1.attrs.path.map encInt), .int .i64 a1.attrs.next, .int .i64 a1.attrs.med, .int .i64 a1.attrs.pref, .ts .imm 1 (a1.attrs.comms.map encInt)]] [] = some (.bool r, []) := by
  unfold m4 at h
  rw [evFL_at fn4 (Nat.le_of_ble_eq_true rfl) rfl (.inr rfl)]
  obtain ⟨r3, q1, h⟩ := bnd_some h
  have w2 := e17 a0 1048576 r3 q1
  try simp -implicitDefEqProofs only [go_sem, Nat.reduceLT, Nat.reduceAdd, Nat.reduceSub, Nat.reduceMul, Nat.reduceEqDiff, Nat.reduceBEq, Nat.reduceLeDiff, Int.reduceToNat, Int.reduceLT, Int.reduceLE, Int.reduceEq, reduceCtorEq, ↓reduceIte] at w2
  try simp -implicitDefEqProofs only [go_sem, Nat.reduceLT, Nat.reduceAdd, Nat.reduceSub, Nat.reduceMul, Nat.reduceEqDiff, Nat.reduceBEq, Nat.reduceLeDiff, Int.reduceToNat, Int.reduceLT, Int.reduceLE, Int.reduceEq, reduceCtorEq, ↓reduceIte, i4, c4, w2]
  cases b4 : (ltI r3 0 : Bool)
  · replace h := br_f b4 h
    obtain ⟨r7, q5, h⟩ := bnd_some h
    have w6 := e17 a1 r3 r7 q5
    try simp -implicitDefEqProofs only [go_sem, Nat.reduceLT, Nat.reduceAdd, Nat.reduceSub, Nat.reduceMul, Nat.reduceEqDiff, Nat.reduceBEq, Nat.reduceLeDiff, Int.reduceToNat, Int.reduceLT, Int.reduceLE, Int.reduceEq, reduceCtorEq, ↓reduceIte] at w6
    try simp -implicitDefEqProofs only [go_sem, Nat.reduceLT, Nat.reduceAdd, Nat.reduceSub, Nat.reduceMul, Nat.reduceEqDiff, Nat.reduceBEq, Nat.reduceLeDiff, Int.reduceToNat, Int.reduceLT, Int.reduceLE, Int.reduceEq, reduceCtorEq, ↓reduceIte, i4, c4, w2, b4, w6]
    cases b8 : (ltI r7 0 : Bool)
    · replace h := br_f b8 h
      obtain ⟨r11, q9, h⟩ := bnd_some h
      have w10 := e19 a0 r11 q9
      try simp -implicitDefEqProofs only [go_sem, Nat.reduceLT, Nat.reduceAdd, Nat.reduceSub, Nat.reduceMul, Nat.reduceEqDiff, Nat.reduceBEq, Nat.reduceLeDiff, Int.reduceToNat, Int.reduceLT, Int.reduceLE, Int.reduceEq, reduceCtorEq, ↓reduceIte] at w10
      obtain ⟨r14, q12, h⟩ := bnd_some h
      have w13 := e19 a1 r14 q12
      try simp -implicitDefEqProofs only [go_sem, Nat.reduceLT, Nat.reduceAdd, Nat.reduceSub, Nat.reduceMul, Nat.reduceEqDiff, Nat.reduceBEq, Nat.reduceLeDiff, Int.reduceToNat, Int.reduceLT, Int.reduceLE, Int.reduceEq, reduceCtorEq, ↓reduceIte] at w13
      obtain ⟨⟨r17, r18⟩, q15, h⟩ := bnd_some h
      replace h := sel2_some h
      have w16 := e18 r11 r14 (r17, r18) q15
      try simp -implicitDefEqProofs only [go_sem, Nat.reduceLT, Nat.reduceAdd, Nat.reduceSub, Nat.reduceMul, Nat.reduceEqDiff, Nat.reduceBEq, Nat.reduceLeDiff, Int.reduceToNat, Int.reduceLT, Int.reduceLE, Int.reduceEq, reduceCtorEq, ↓reduceIte] at w16
      obtain ⟨⟨r25, r26⟩, q23, h⟩ := bnd_some h
      replace h := sel2_some h
      have w24 := e20 r11 r14 (r25, r26) q23
      try simp -implicitDefEqProofs only [go_sem, Nat.reduceLT, Nat.reduceAdd, Nat.reduceSub, Nat.reduceMul, Nat.reduceEqDiff, Nat.reduceBEq, Nat.reduceLeDiff, Int.reduceToNat, Int.reduceLT, Int.reduceLE, Int.reduceEq, reduceCtorEq, ↓reduceIte] at w24
      obtain ⟨v30, q28, h⟩ := bnd_some h
      have w29 := e4_1 r17 r18 r25 r26 a0 a1 r11 r14 v30 q28
      simp only [X4_1] at w29
      try simp -implicitDefEqProofs only [go_sem, Nat.reduceLT, Nat.reduceAdd, Nat.reduceSub, Nat.reduceMul, Nat.reduceEqDiff, Nat.reduceBEq, Nat.reduceLeDiff, Int.reduceToNat, Int.reduceLT, Int.reduceLE, Int.reduceEq, reduceCtorEq, ↓reduceIte] at w29
      try simp -implicitDefEqProofs only [go_sem, Nat.reduceLT, Nat.reduceAdd, Nat.reduceSub, Nat.reduceMul, Nat.reduceEqDiff, Nat.reduceBEq, Nat.reduceLeDiff, Int.reduceToNat, Int.reduceLT, Int.reduceLE, Int.reduceEq, reduceCtorEq, ↓reduceIte, i4, c4, w2, b4, w6, b8, w10, w13, w16, w24, w29]
      cases b31 : (v30 : Bool)
      · replace h := br_f b31 h
        obtain ⟨r36, q34, h⟩ := bnd_some h
        have w35 := e21 r11 r11 r36 q34
        try simp -implicitDefEqProofs only [go_sem, Nat.reduceLT, Nat.reduceAdd, Nat.reduceSub, Nat.reduceMul, Nat.reduceEqDiff, Nat.reduceBEq, Nat.reduceLeDiff, Int.reduceToNat, Int.reduceLT, Int.reduceLE, Int.reduceEq, reduceCtorEq, ↓reduceIte] at w35
        try simp -implicitDefEqProofs only [go_sem, Nat.reduceLT, Nat.reduceAdd, Nat.reduceSub, Nat.reduceMul, Nat.reduceEqDiff, Nat.reduceBEq, Nat.reduceLeDiff, Int.reduceToNat, Int.reduceLT, Int.reduceLE, Int.reduceEq, reduceCtorEq, ↓reduceIte, i4, c4, w2, b4, w6, b8, w10, w13, w16, w24, w29, b31, w35]
        cases b37 : (r36 : Bool)
        · replace h := br_f b37 h
          cases h
          simp -implicitDefEqProofs only [go_sem, Nat.reduceLT, Nat.reduceAdd, Nat.reduceSub, Nat.reduceMul, Nat.reduceEqDiff, Nat.reduceBEq, Nat.reduceLeDiff, Int.reduceToNat, Int.reduceLT, Int.reduceLE, Int.reduceEq, reduceCtorEq, ↓reduceIte, i4, c4, w2, b4, w6, b8, w10, w13, w16, w24, w29, b31, w35, b37]
        · replace h := br_t b37 h
          obtain ⟨r42, q40, h⟩ := bnd_some h
          have w41 := e21 r14 r14 r42 q40
          try simp -implicitDefEqProofs only [go_sem, Nat.reduceLT, Nat.reduceAdd, Nat.reduceSub, Nat.reduceMul, Nat.reduceEqDiff, Nat.reduceBEq, Nat.reduceLeDiff, Int.reduceToNat, Int.reduceLT, Int.reduceLE, Int.reduceEq, reduceCtorEq, ↓reduceIte] at w41
          try simp -implicitDefEqProofs only [go_sem, Nat.reduceLT, Nat.reduceAdd, Nat.reduceSub, Nat.reduceMul, Nat.reduceEqDiff, Nat.reduceBEq, Nat.reduceLeDiff, Int.reduceToNat, Int.reduceLT, Int.reduceLE, Int.reduceEq, reduceCtorEq, ↓reduceIte, i4, c4, w2, b4, w6, b8, w10, w13, w16, w24, w29, b31, w35, b37, w41]
          cases b43 : (r42 : Bool)
          · replace h := br_f b43 h
            cases h
            simp -implicitDefEqProofs only [go_sem, Nat.reduceLT, Nat.reduceAdd, Nat.reduceSub, Nat.reduceMul, Nat.reduceEqDiff, Nat.reduceBEq, Nat.reduceLeDiff, Int.reduceToNat, Int.reduceLT, Int.reduceLE, Int.reduceEq, reduceCtorEq, ↓reduceIte, i4, c4, w2, b4, w6, b8, w10, w13, w16, w24, w29, b31, w35, b37, w41, b43]
          · replace h := br_t b43 h
            cases h
            simp -implicitDefEqProofs only [go_sem, Nat.reduceLT, Nat.reduceAdd, Nat.reduceSub, Nat.reduceMul, Nat.reduceEqDiff, Nat.reduceBEq, Nat.reduceLeDiff, Int.reduceToNat, Int.reduceLT, Int.reduceLE, Int.reduceEq, reduceCtorEq, ↓reduceIte, i4, c4, w2, b4, w6, b8, w10, w13, w16, w24, w29, b31, w35, b37, w41, b43]
      · replace h := br_t b31 h
        cases h
        simp -implicitDefEqProofs only [go_sem, Nat.reduceLT, Nat.reduceAdd, Nat.reduceSub, Nat.reduceMul, Nat.reduceEqDiff, Nat.reduceBEq, Nat.reduceLeDiff, Int.reduceToNat, Int.reduceLT, Int.reduceLE, Int.reduceEq, reduceCtorEq, ↓reduceIte, i4, c4, w2, b4, w6, b8, w10, w13, w16, w24, w29, b31]
    · replace h := br_t b8 h
      cases h
      simp -implicitDefEqProofs only [go_sem, Nat.reduceLT, Nat.reduceAdd, Nat.reduceSub, Nat.reduceMul, Nat.reduceEqDiff, Nat.reduceBEq, Nat.reduceLeDiff, Int.reduceToNat, Int.reduceLT, Int.reduceLE, Int.reduceEq, reduceCtorEq, ↓reduceIte, i4, c4, w2, b4, w6, b8]
  · replace h := br_t b4 h
    cases h
    simp -implicitDefEqProofs only [go_sem, Nat.reduceLT, Nat.reduceAdd, Nat.reduceSub, Nat.reduceMul, Nat.reduceEqDiff, Nat.reduceBEq, Nat.reduceLeDiff, Int.reduceToNat, Int.reduceLT, Int.reduceLE, Int.reduceEq, reduceCtorEq, ↓reduceIte, i4, c4, w2, b4]
end Go.Pi.Ytlcanbihlfncoaa.CompareOffers
