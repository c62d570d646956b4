/- no condition -/
import Derived.Test.YtlcanbihlfncoaaAddOfferTabAddOffer
import Derived.Test.YtlcanbihlfncoaaAddOfferModAddOffer
set_option linter.all false
namespace Go.Pi.Ytlcanbihlfncoaa.AddOffer
open Go Go.Proofs Go.Pi
set_option maxRecDepth 100000
set_option linter.all false
@[go_sem] noncomputable def encInt (x : Int) : List AV := [.int .i64 x]
theorem sq_encInt (q : Ql) (x : Int) : setQL q (encInt x) = encInt x := by simp [encInt]
theorem sqm_encInt (q : Ql) (xs : List Int) : setQLL q (xs.map encInt) = xs.map encInt := by rw [setQLL_map]; exact List.map_congr_left (fun x _ => sq_encInt q x)
theorem ow_encInt (x : Int) : ownOnlyL (encInt x) = true := by simp [encInt, ownOnlyL, ownOnly, ownLL_map]
theorem owm_encInt (xs : List Int) : ownOnlyLL (xs.map encInt) = true := ownLL_map _ ow_encInt xs
theorem fi_encInt (x : Int) : fine.fineL (encInt x) = true := by simp [encInt, fine.fineL, fine, fineLL_map]
theorem fim_encInt (xs : List Int) : fine.fineLL (xs.map encInt) = true := fineLL_map _ fi_encInt xs
theorem nu_encInt (x : Int) : nude.nudeL (encInt x) = true := by simp [encInt, nude.nudeL, nude, nudeLL_map]
theorem num_encInt (xs : List Int) : nude.nudeLL (xs.map encInt) = true := nudeLL_map _ nu_encInt xs
theorem st_encInt (q : Ql) (xs : List Int) : (xs.map encInt).map (fun x => x.map (setTop q)) = xs.map encInt := by rw [List.map_map]; rfl
attribute [go_sem] st_encInt
attribute [simp] sqm_encInt ow_encInt owm_encInt fi_encInt fim_encInt nu_encInt num_encInt
attribute [go_sem] sqm_encInt owm_encInt fim_encInt num_encInt
@[go_sem] noncomputable def encLInt (q : Ql) (x : (List Int)) : List AV := [.ts q 1 (x.map encInt)]
theorem sq_encLInt (q q1 : Ql) (x : (List Int)) : setQL q (encLInt q1 x) = encLInt q x := by simp [encLInt, sq_encInt]
theorem sqm_encLInt (q q1 : Ql) (xs : List (List Int)) : setQLL q (xs.map (encLInt q1)) = xs.map (encLInt q) := by rw [setQLL_map]; exact List.map_congr_left (fun x _ => sq_encLInt q q1 x)
theorem ow_encLInt (x : (List Int)) : ownOnlyL (encLInt .own x) = true := by simp [encLInt, ownOnlyL, ownOnly, ownLL_map]
theorem owm_encLInt (xs : List (List Int)) : ownOnlyLL (xs.map (encLInt .own)) = true := ownLL_map _ ow_encLInt xs
theorem fi_encLInt (x : (List Int)) : fine.fineL (encLInt .own x) = true := by simp [encLInt, fine.fineL, fine, fineLL_map]
theorem fim_encLInt (xs : List (List Int)) : fine.fineLL (xs.map (encLInt .own)) = true := fineLL_map _ fi_encLInt xs
theorem nu_encLInt (x : (List Int)) : nude.nudeL (encLInt .own x) = true := by simp [encLInt, nude.nudeL, nude, nudeLL_map]
theorem num_encLInt (xs : List (List Int)) : nude.nudeLL (xs.map (encLInt .own)) = true := nudeLL_map _ nu_encLInt xs
theorem st_encLInt (q q1 : Ql) (xs : List (List Int)) : (xs.map (encLInt q1)).map (fun x => x.map (setTop q)) = xs.map (encLInt q) := by rw [List.map_map]; rfl
theorem fii_encLInt (xs : List (List Int)) : fine.fineLL (xs.map (encLInt .imm)) = true := fineLL_map _ (fun x => by simp [encLInt, fine.fineL, fine]) xs
attribute [go_sem] fii_encLInt
attribute [go_sem] st_encLInt
attribute [simp] sqm_encLInt ow_encLInt owm_encLInt fi_encLInt fim_encLInt nu_encLInt num_encLInt
attribute [go_sem] sqm_encLInt owm_encLInt fim_encLInt num_encLInt
@[go_sem] noncomputable def encAttrs (q : Ql) (x : Attrs) : List AV := [.int .i64 x.origin, .ts q 1 (x.path.map encInt), .int .i64 x.next, .int .i64 x.med, .int .i64 x.pref, .ts q 1 (x.comms.map encInt)]
theorem sq_encAttrs (q q1 : Ql) (x : Attrs) : setQL q (encAttrs q1 x) = encAttrs q x := by simp [encAttrs, sq_encInt, sq_encInt]
theorem sqm_encAttrs (q q1 : Ql) (xs : List Attrs) : setQLL q (xs.map (encAttrs q1)) = xs.map (encAttrs q) := by rw [setQLL_map]; exact List.map_congr_left (fun x _ => sq_encAttrs q q1 x)
theorem ow_encAttrs (x : Attrs) : ownOnlyL (encAttrs .own x) = true := by simp [encAttrs, ownOnlyL, ownOnly, ownLL_map]
theorem owm_encAttrs (xs : List Attrs) : ownOnlyLL (xs.map (encAttrs .own)) = true := ownLL_map _ ow_encAttrs xs
theorem fi_encAttrs (x : Attrs) : fine.fineL (encAttrs .own x) = true := by simp [encAttrs, fine.fineL, fine, fineLL_map]
theorem fim_encAttrs (xs : List Attrs) : fine.fineLL (xs.map (encAttrs .own)) = true := fineLL_map _ fi_encAttrs xs
theorem nu_encAttrs (x : Attrs) : nude.nudeL (encAttrs .own x) = true := by simp [encAttrs, nude.nudeL, nude, nudeLL_map]
theorem num_encAttrs (xs : List Attrs) : nude.nudeLL (xs.map (encAttrs .own)) = true := nudeLL_map _ nu_encAttrs xs
theorem st_encAttrs (q q1 : Ql) (xs : List Attrs) : (xs.map (encAttrs q1)).map (fun x => x.map (setTop q)) = xs.map (encAttrs q) := by rw [List.map_map]; rfl
theorem fii_encAttrs (xs : List Attrs) : fine.fineLL (xs.map (encAttrs .imm)) = true := fineLL_map _ (fun x => by simp [encAttrs, fine.fineL, fine]) xs
attribute [go_sem] fii_encAttrs
attribute [go_sem] st_encAttrs
attribute [simp] sqm_encAttrs ow_encAttrs owm_encAttrs fi_encAttrs fim_encAttrs nu_encAttrs num_encAttrs
attribute [go_sem] sqm_encAttrs owm_encAttrs fim_encAttrs num_encAttrs
@[go_sem] noncomputable def encOffer (q : Ql) (x : Offer) : List AV := [.int .i64 x.peer, .int .i64 x.attrs.origin, .ts q 1 (x.attrs.path.map encInt), .int .i64 x.attrs.next, .int .i64 x.attrs.med, .int .i64 x.attrs.pref, .ts q 1 (x.attrs.comms.map encInt)]
theorem sq_encOffer (q q1 : Ql) (x : Offer) : setQL q (encOffer q1 x) = encOffer q x := by simp [encOffer, sq_encInt, sq_encInt]
theorem sqm_encOffer (q q1 : Ql) (xs : List Offer) : setQLL q (xs.map (encOffer q1)) = xs.map (encOffer q) := by rw [setQLL_map]; exact List.map_congr_left (fun x _ => sq_encOffer q q1 x)
theorem ow_encOffer (x : Offer) : ownOnlyL (encOffer .own x) = true := by simp [encOffer, ownOnlyL, ownOnly, ownLL_map]
theorem owm_encOffer (xs : List Offer) : ownOnlyLL (xs.map (encOffer .own)) = true := ownLL_map _ ow_encOffer xs
theorem fi_encOffer (x : Offer) : fine.fineL (encOffer .own x) = true := by simp [encOffer, fine.fineL, fine, fineLL_map]
theorem fim_encOffer (xs : List Offer) : fine.fineLL (xs.map (encOffer .own)) = true := fineLL_map _ fi_encOffer xs
theorem nu_encOffer (x : Offer) : nude.nudeL (encOffer .own x) = true := by simp [encOffer, nude.nudeL, nude, nudeLL_map]
theorem num_encOffer (xs : List Offer) : nude.nudeLL (xs.map (encOffer .own)) = true := nudeLL_map _ nu_encOffer xs
theorem st_encOffer (q q1 : Ql) (xs : List Offer) : (xs.map (encOffer q1)).map (fun x => x.map (setTop q)) = xs.map (encOffer q) := by rw [List.map_map]; rfl
theorem fii_encOffer (xs : List Offer) : fine.fineLL (xs.map (encOffer .imm)) = true := fineLL_map _ (fun x => by simp [encOffer, fine.fineL, fine]) xs
attribute [go_sem] fii_encOffer
attribute [go_sem] st_encOffer
attribute [simp] sqm_encOffer ow_encOffer owm_encOffer fi_encOffer fim_encOffer nu_encOffer num_encOffer
attribute [go_sem] sqm_encOffer owm_encOffer fim_encOffer num_encOffer
@[go_sem] noncomputable def encLOffer (q : Ql) (x : (List Offer)) : List AV := [.ts q 7 (x.map (encOffer q))]
theorem sq_encLOffer (q q1 : Ql) (x : (List Offer)) : setQL q (encLOffer q1 x) = encLOffer q x := by simp [encLOffer, sq_encOffer]
theorem sqm_encLOffer (q q1 : Ql) (xs : List (List Offer)) : setQLL q (xs.map (encLOffer q1)) = xs.map (encLOffer q) := by rw [setQLL_map]; exact List.map_congr_left (fun x _ => sq_encLOffer q q1 x)
theorem ow_encLOffer (x : (List Offer)) : ownOnlyL (encLOffer .own x) = true := by simp [encLOffer, ownOnlyL, ownOnly, ownLL_map]
theorem owm_encLOffer (xs : List (List Offer)) : ownOnlyLL (xs.map (encLOffer .own)) = true := ownLL_map _ ow_encLOffer xs
theorem fi_encLOffer (x : (List Offer)) : fine.fineL (encLOffer .own x) = true := by simp [encLOffer, fine.fineL, fine, fineLL_map]
theorem fim_encLOffer (xs : List (List Offer)) : fine.fineLL (xs.map (encLOffer .own)) = true := fineLL_map _ fi_encLOffer xs
theorem nu_encLOffer (x : (List Offer)) : nude.nudeL (encLOffer .own x) = true := by simp [encLOffer, nude.nudeL, nude, nudeLL_map]
theorem num_encLOffer (xs : List (List Offer)) : nude.nudeLL (xs.map (encLOffer .own)) = true := nudeLL_map _ nu_encLOffer xs
theorem fii_encLOffer (xs : List (List Offer)) : fine.fineLL (xs.map (encLOffer .imm)) = true := fineLL_map _ (fun x => by simp [encLOffer, fine.fineL, fine]) xs
attribute [go_sem] fii_encLOffer
attribute [simp] sqm_encLOffer ow_encLOffer owm_encLOffer fi_encLOffer fim_encLOffer nu_encLOffer num_encLOffer
attribute [go_sem] sqm_encLOffer owm_encLOffer fim_encLOffer num_encLOffer
@[go_sem] noncomputable def encBool (x : Bool) : List AV := [.bool x]
theorem sq_encBool (q : Ql) (x : Bool) : setQL q (encBool x) = encBool x := by simp [encBool]
theorem sqm_encBool (q : Ql) (xs : List Bool) : setQLL q (xs.map encBool) = xs.map encBool := by rw [setQLL_map]; exact List.map_congr_left (fun x _ => sq_encBool q x)
theorem ow_encBool (x : Bool) : ownOnlyL (encBool x) = true := by simp [encBool, ownOnlyL, ownOnly, ownLL_map]
theorem owm_encBool (xs : List Bool) : ownOnlyLL (xs.map encBool) = true := ownLL_map _ ow_encBool xs
theorem fi_encBool (x : Bool) : fine.fineL (encBool x) = true := by simp [encBool, fine.fineL, fine, fineLL_map]
theorem fim_encBool (xs : List Bool) : fine.fineLL (xs.map encBool) = true := fineLL_map _ fi_encBool xs
theorem nu_encBool (x : Bool) : nude.nudeL (encBool x) = true := by simp [encBool, nude.nudeL, nude, nudeLL_map]
theorem num_encBool (xs : List Bool) : nude.nudeLL (xs.map encBool) = true := nudeLL_map _ nu_encBool xs
theorem st_encBool (q : Ql) (xs : List Bool) : (xs.map encBool).map (fun x => x.map (setTop q)) = xs.map encBool := by rw [List.map_map]; rfl
attribute [go_sem] st_encBool
attribute [simp] sqm_encBool ow_encBool owm_encBool fi_encBool fim_encBool nu_encBool num_encBool
attribute [go_sem] sqm_encBool owm_encBool fim_encBool num_encBool
theorem call78 (args : List AV) (S : St) : evCall T (evFL T) 78 args S = lendC (evFL T 78) S (lendAll S [[1], [0]] args) := evCall0 fn78 rfl rfl rfl args S
attribute [go_sem] call78
theorem e78 (a0 : (List Int)) (a1 : Int) (r : Int) (h : m78 a0 a1 = some r) : evFL T 78 [.ts .imm 1 (a0.map encInt), nI a1] [] = some (nI r, []) := by
 unfold m78 at h
 rw [evFL_at fn78 (Nat.le_of_ble_eq_true rfl) rfl (.inr rfl) ⟨rfl, rfl⟩]
 try simp -implicitDefEqProofs only [go_sem, i78, c78]
 cases b1 : (ltI (wsub .i64 a1 (↑a0.length : Int)) 0 : Bool)
 · replace h := br_f b1 h
   cases h
   simp -implicitDefEqProofs only [go_sem, i78, c78, b1]
 · replace h := br_t b1 h
   cases h
   simp -implicitDefEqProofs only [go_sem, i78, c78, b1]
theorem call51 (args : List AV) (S : St) : evCall T (evFL T) 51 args S = lendC (evFL T 51) S (lendAll S [[0, 1, 0, 0, 0, 1], [0]] args) := evCall0 fn51 rfl rfl rfl args S
attribute [go_sem] call51
theorem e51 (a0 : Attrs) (a1 : Int) (r : Int) (h : m51 a0 a1 = some r) : evFL T 51 [.agg (encAttrs .imm a0), nI a1] [] = some (nI r, []) := by
 unfold m51 at h
 rw [evFL_at fn51 (Nat.le_of_ble_eq_true rfl) rfl (.inr rfl) ⟨rfl, rfl⟩]
 obtain ⟨r3, q1, h⟩ := bnd_some h
 have w2 := e78 a0.path a1 r3 q1
 try simp -implicitDefEqProofs only [go_sem] at w2
 try simp -implicitDefEqProofs only [go_sem, i51, c51, w2]
 cases b4 : (ltI r3 0 : Bool)
 · replace h := br_f b4 h
   obtain ⟨r7, q5, h⟩ := bnd_some h
   have w6 := e78 a0.comms r3 r7 q5
   try simp -implicitDefEqProofs only [go_sem] at w6
   try simp -implicitDefEqProofs only [go_sem, i51, c51, w2, b4, w6]
   cases b8 : (ltI r7 0 : Bool)
   · replace h := br_f b8 h
     cases h
     simp -implicitDefEqProofs only [go_sem, i51, c51, w2, b4, w6, b8]
   · replace h := br_t b8 h
     cases h
     simp -implicitDefEqProofs only [go_sem, i51, c51, w2, b4, w6, b8]
 · replace h := br_t b4 h
   cases h
   simp -implicitDefEqProofs only [go_sem, i51, c51, w2, b4]
theorem call17 (args : List AV) (S : St) : evCall T (evFL T) 17 args S = lendC (evFL T 17) S (lendAll S [[0, 0, 1, 0, 0, 0, 1], [0]] args) := evCall0 fn17 rfl rfl rfl args S
theorem calls17 (args : List AV) (S : St) : evCall (T.at true) (evFL T) 17 args S = lendC (evFL T 17) S (lendAll S [[0, 0, 1, 0, 0, 0, 1], [0]] args) := evCall0 fns17 rfl rfl rfl args S
attribute [go_sem] call17 calls17
theorem e17 (a0 : Offer) (a1 : Int) (r : Int) (h : m17 a0 a1 = some r) : evFL T 17 [.agg (encOffer .imm a0), nI a1] [] = some (nI r, []) := by
 unfold m17 at h
 rw [evFL_at fn17 (Nat.le_of_ble_eq_true rfl) rfl (.inr rfl) ⟨rfl, rfl⟩]
 obtain ⟨r3, q1, h⟩ := bnd_some h
 have w2 := e51 a0.attrs a1 r3 q1
 try simp -implicitDefEqProofs only [go_sem] at w2
 try simp -implicitDefEqProofs only [go_sem, i17, c17, w2]
 cases b4 : (ltI r3 0 : Bool)
 · replace h := br_f b4 h
   cases h
   simp -implicitDefEqProofs only [go_sem, i17, c17, w2, b4]
 · replace h := br_t b4 h
   cases h
   simp -implicitDefEqProofs only [go_sem, i17, c17, w2, b4]
theorem call12 (args : List AV) (S : St) : evCall T (evFL T) 12 args S = lendC (evFL T 12) S (lendAll S [[7], [0]] args) := evCall0 fn12 rfl rfl rfl args S
theorem calls12 (args : List AV) (S : St) : evCall (T.at true) (evFL T) 12 args S = lendC (evFL T 12) S (lendAll S [[7], [0]] args) := evCall0 fns12 rfl rfl rfl args S
attribute [go_sem] call12 calls12
noncomputable def X12_1 (a0 : (List Offer)) (o : (Int ⊕ Unit)) : Ex × Fr × St :=
 match o with
 | .inl o => (.exit 0, frOf 27 (upd anyF 1 (nI o)), [])
 | .inr o => (.ret, frOf 27 (upd anyF 4 (nI (-1))), [])
noncomputable def E12_1 (a0 : (List Offer)) (s : (Int × Int)) : Fr × St := (frOf 27 (upd (upd (upd anyF 0 (.ts .imm 7 (a0.map (encOffer .imm)))) 1 (nI s.1)) 5 (nI s.2)), [])
theorem b12_1 (a0 : (List Offer)) (s : (Int × Int)) (o : Ctl (Int × Int) (Int ⊕ Unit)) (h : m12_1b a0 s = some o) : evCL T 0 k12_1b (E12_1 a0 s).1 (E12_1 a0 s).2 = some (ctlX (E12_1 a0) (X12_1 a0) o) := by
 unfold m12_1b at h
 obtain ⟨s13, s14⟩ := s
 replace h := sel2_some h
 try simp -implicitDefEqProofs only [go_sem, E12_1, X12_1, k12_1b]
 cases b15 : (ltI s14 (↑a0.length : Int) : Bool)
 · replace h := br_f b15 h
   cases h
   simp -implicitDefEqProofs only [go_sem, E12_1, X12_1, k12_1b, b15]
 · replace h := br_t b15 h
   obtain ⟨x16, q17, h⟩ := bnd_some h
   obtain ⟨g18, g19, g20⟩ := idx_row (encOffer .imm) q17
   try simp -implicitDefEqProofs only [go_sem] at g19 g20
   obtain ⟨r23, q21, h⟩ := bnd_some h
   have w22 := e17 x16 s13 r23 q21
   try simp -implicitDefEqProofs only [go_sem] at w22
   try simp -implicitDefEqProofs only [go_sem, E12_1, X12_1, k12_1b, b15, g18, g19, g20, w22]
   cases b24 : (ltI r23 0 : Bool)
   · replace h := br_f b24 h
     cases h
     simp -implicitDefEqProofs only [go_sem, E12_1, X12_1, k12_1b, b15, g18, g19, g20, w22, b24]
   · replace h := br_t b24 h
     cases h
     simp -implicitDefEqProofs only [go_sem, E12_1, X12_1, k12_1b, b15, g18, g19, g20, w22, b24]
theorem e12_1 (a0 : (List Offer)) (s : (Int × Int)) (o : (Int ⊕ Unit)) (h : loopP (m12_1b a0) s = some o) : evCL T 0 (.loop k12_1b) (E12_1 a0 s).1 (E12_1 a0 s).2 = some (X12_1 a0 o) :=
 loop_walk (E := E12_1 a0) (X := X12_1 a0) (by intro b; rcases b with b | b <;> (simp only [X12_1]; nofun)) (b12_1 a0) s o h
theorem e12 (a0 : (List Offer)) (a1 : Int) (r : Int) (h : m12 a0 a1 = some r) : evFL T 12 [.ts .imm 7 (a0.map (encOffer .imm)), nI a1] [] = some (nI r, []) := by
 unfold m12 at h
 rw [evFL_at fn12 (Nat.le_of_ble_eq_true rfl) rfl (.inr rfl) ⟨rfl, rfl⟩]
 try simp -implicitDefEqProofs only [go_sem, i12, c12]
 cases b1 : (ltI (wsub .i64 a1 (↑a0.length : Int)) 0 : Bool)
 · replace h := br_f b1 h
   try simp -implicitDefEqProofs only [go_sem, i12, c12, b1]
   obtain ⟨o, q25, h⟩ := bnd_some h
   rcases o with v27 | ⟨⟩
   · replace h := selS_l h
     have w26 := e12_1 a0 (wsub .i64 a1 (↑a0.length : Int), 0) (.inl v27) q25
     simp only [E12_1, X12_1] at w26
     try simp -implicitDefEqProofs only [go_sem] at w26
     cases h
     simp -implicitDefEqProofs only [go_sem, i12, c12, b1, w26]
   · replace h := selS_r h
     have w26 := e12_1 a0 (wsub .i64 a1 (↑a0.length : Int), 0) (.inr ()) q25
     simp only [E12_1, X12_1] at w26
     try simp -implicitDefEqProofs only [go_sem] at w26
     cases h
     simp -implicitDefEqProofs only [go_sem, i12, c12, b1, w26]
 · replace h := br_t b1 h
   cases h
   simp -implicitDefEqProofs only [go_sem, i12, c12, b1]
theorem call80 (args : List AV) (S : St) : evCall T (evFL T) 80 args S = lendC (evFL T 80) S (lendAll S [[1]] args) := evCall0 fn80 rfl rfl rfl args S
attribute [go_sem] call80
noncomputable def X80_1 (a0 : (List Int)) (o : (List Int)) : Ex × Fr × St :=
 (.exit 0, frOf 22 (upd anyF 3 (.sl 0 0 o.length)), [some ⟨.arr, 1, o.map encInt⟩])
noncomputable def E80_1 (a0 : (List Int)) (s : (Int × List Int)) : Fr × St := (frOf 22 (upd (upd (upd anyF 0 (.ts .imm 1 (a0.map encInt))) 3 (.sl 0 0 s.2.length)) 4 (nI s.1)), [some ⟨.arr, 1, s.2.map encInt⟩])
theorem b80_1 (a0 : (List Int)) (s : (Int × List Int)) (o : Ctl (Int × List Int) (List Int)) (h : m80_1b a0 s = some o) : evCL T 0 k80_1b (E80_1 a0 s).1 (E80_1 a0 s).2 = some (ctlX (E80_1 a0) (X80_1 a0) o) := by
 unfold m80_1b at h
 obtain ⟨s14, s15⟩ := s
 replace h := sel2_some h
 try simp -implicitDefEqProofs only [go_sem, E80_1, X80_1, k80_1b]
 cases b16 : (ltI s14 (↑a0.length : Int) : Bool)
 · replace h := br_f b16 h
   cases h
   simp -implicitDefEqProofs only [go_sem, E80_1, X80_1, k80_1b, b16]
 · replace h := br_t b16 h
   obtain ⟨x17, q18, h⟩ := bnd_some h
   obtain ⟨g19, g20, g21⟩ := idx_row encInt q18
   try simp -implicitDefEqProofs only [go_sem] at g20 g21
   obtain ⟨x22, q23, h⟩ := bnd_some h
   obtain ⟨g24, g25, g26⟩ := idx_row encInt q23
   try simp -implicitDefEqProofs only [go_sem] at g25 g26
   cases h
   simp -implicitDefEqProofs only [go_sem, E80_1, X80_1, k80_1b, b16, g19, g20, g21, g24, g25, g26]
theorem e80_1 (a0 : (List Int)) (s : (Int × List Int)) (o : (List Int)) (h : loopP (m80_1b a0) s = some o) : evCL T 0 (.loop k80_1b) (E80_1 a0 s).1 (E80_1 a0 s).2 = some (X80_1 a0 o) :=
 loop_walk (E := E80_1 a0) (X := X80_1 a0) (by intro b; (simp only [X80_1]; nofun)) (b80_1 a0) s o h
theorem e80 (a0 : (List Int)) (r : (List Int)) (h : m80 a0 = some r) : evFL T 80 [.ts .imm 1 (a0.map encInt)] [] = some (.sl 0 0 r.length, [some ⟨.arr, 1, r.map encInt⟩]) := by
 unfold m80 at h
 rw [evFL_at fn80 (Nat.le_of_ble_eq_true rfl) rfl (.inr rfl) ⟨rfl, rfl⟩]
 obtain ⟨g1, h⟩ := ck_some h
 try simp -implicitDefEqProofs only [go_sem] at g1
 obtain ⟨v29, q27, h⟩ := bnd_some h
 have w28 := e80_1 a0 (0, List.replicate a0.length 0) v29 q27
 simp only [E80_1, X80_1] at w28
 try simp -implicitDefEqProofs only [go_sem] at w28
 cases h
 simp -implicitDefEqProofs only [go_sem, i80, c80, g1, w28]
theorem call53 (args : List AV) (S : St) : evCall T (evFL T) 53 args S = lendC (evFL T 53) S (lendAll S [[0, 1, 0, 0, 0, 1]] args) := evCall0 fn53 rfl rfl rfl args S
attribute [go_sem] call53
theorem e53 (a0 : Attrs) (r : Attrs) (h : m53 a0 = some r) : evFL T 53 [.agg (encAttrs .imm a0)] [] = some (.agg [nI r.origin, .sl 0 0 r.path.length, nI r.next, nI r.med, nI r.pref, .sl 1 0 r.comms.length], [some ⟨.arr, 1, r.path.map encInt⟩, some ⟨.arr, 1, r.comms.map encInt⟩]) := by
 unfold m53 at h
 rw [evFL_at fn53 (Nat.le_of_ble_eq_true rfl) rfl (.inr rfl) ⟨rfl, rfl⟩]
 obtain ⟨r3, q1, h⟩ := bnd_some h
 have w2 := e80 a0.path r3 q1
 try simp -implicitDefEqProofs only [go_sem] at w2
 obtain ⟨r6, q4, h⟩ := bnd_some h
 have w5 := e80 a0.comms r6 q4
 try simp -implicitDefEqProofs only [go_sem] at w5
 cases h
 simp -implicitDefEqProofs only [go_sem, i53, c53, w2, w5]
theorem call19 (args : List AV) (S : St) : evCall T (evFL T) 19 args S = lendC (evFL T 19) S (lendAll S [[0, 0, 1, 0, 0, 0, 1]] args) := evCall0 fn19 rfl rfl rfl args S
theorem callz19 (args : List AV) (S : St) : evCallFz T (evFL T) 19 args S = lendZ (evFL T 19) S [[0, 0, 1, 0, 0, 0, 1]] (lendAll S [[0, 0, 1, 0, 0, 0, 1]] args) := evCallFz0 fn19 rfl rfl rfl args S
theorem calls19 (args : List AV) (S : St) : evCall (T.at true) (evFL T) 19 args S = lendC (evFL T 19) S (lendAll S [[0, 0, 1, 0, 0, 0, 1]] args) := evCall0 fns19 rfl rfl rfl args S
theorem callsz19 (args : List AV) (S : St) : evCallFz (T.at true) (evFL T) 19 args S = lendZ (evFL T 19) S [[0, 0, 1, 0, 0, 0, 1]] (lendAll S [[0, 0, 1, 0, 0, 0, 1]] args) := evCallFz0 fns19 rfl rfl rfl args S
attribute [go_sem] call19 callz19 calls19 callsz19
theorem e19 (a0 : Offer) (r : Offer) (h : m19 a0 = some r) : evFL T 19 [.agg (encOffer .imm a0)] [] = some (.agg [nI r.peer, nI r.attrs.origin, .sl 0 0 r.attrs.path.length, nI r.attrs.next, nI r.attrs.med, nI r.attrs.pref, .sl 1 0 r.attrs.comms.length], [some ⟨.arr, 1, r.attrs.path.map encInt⟩, some ⟨.arr, 1, r.attrs.comms.map encInt⟩]) := by
 unfold m19 at h
 rw [evFL_at fn19 (Nat.le_of_ble_eq_true rfl) rfl (.inr rfl) ⟨rfl, rfl⟩]
 obtain ⟨r3, q1, h⟩ := bnd_some h
 have w2 := e53 a0.attrs r3 q1
 try simp -implicitDefEqProofs only [go_sem] at w2
 cases h
 simp -implicitDefEqProofs only [go_sem, i19, c19, w2]
theorem call14 (args : List AV) (S : St) : evCall T (evFL T) 14 args S = lendC (evFL T 14) S (lendAll S [[7]] args) := evCall0 fn14 rfl rfl rfl args S
theorem callz14 (args : List AV) (S : St) : evCallFz T (evFL T) 14 args S = lendZ (evFL T 14) S [[7]] (lendAll S [[7]] args) := evCallFz0 fn14 rfl rfl rfl args S
theorem calls14 (args : List AV) (S : St) : evCall (T.at true) (evFL T) 14 args S = lendC (evFL T 14) S (lendAll S [[7]] args) := evCall0 fns14 rfl rfl rfl args S
theorem callsz14 (args : List AV) (S : St) : evCallFz (T.at true) (evFL T) 14 args S = lendZ (evFL T 14) S [[7]] (lendAll S [[7]] args) := evCallFz0 fns14 rfl rfl rfl args S
attribute [go_sem] call14 callz14 calls14 callsz14
noncomputable def X14_1 (a0 : (List Offer)) (o : (List Offer)) : Ex × Fr × St :=
 (.exit 0, frOf 23 (upd anyF 3 (.sl 0 0 o.length)), [some ⟨.arr, 7, o.map (encOffer .own)⟩])
noncomputable def E14_1 (a0 : (List Offer)) (s : (Int × List Offer)) : Fr × St := (frOf 23 (upd (upd (upd anyF 0 (.ts .imm 7 (a0.map (encOffer .imm)))) 3 (.sl 0 0 s.2.length)) 4 (nI s.1)), [some ⟨.arr, 7, s.2.map (encOffer .own)⟩])
theorem b14_1 (a0 : (List Offer)) (s : (Int × List Offer)) (o : Ctl (Int × List Offer) (List Offer)) (h : m14_1b a0 s = some o) : evCL T 0 k14_1b (E14_1 a0 s).1 (E14_1 a0 s).2 = some (ctlX (E14_1 a0) (X14_1 a0) o) := by
 unfold m14_1b at h
 obtain ⟨s17, s18⟩ := s
 replace h := sel2_some h
 try simp -implicitDefEqProofs only [go_sem, E14_1, X14_1, k14_1b]
 cases b19 : (ltI s17 (↑a0.length : Int) : Bool)
 · replace h := br_f b19 h
   cases h
   simp -implicitDefEqProofs only [go_sem, E14_1, X14_1, k14_1b, b19]
 · replace h := br_t b19 h
   obtain ⟨x20, q21, h⟩ := bnd_some h
   obtain ⟨g22, g23, g24⟩ := idx_row (encOffer .imm) q21
   try simp -implicitDefEqProofs only [go_sem] at g23 g24
   obtain ⟨r27, q25, h⟩ := bnd_some h
   have w26 := e19 x20 r27 q25
   try simp -implicitDefEqProofs only [go_sem] at w26
   obtain ⟨x28, q29, h⟩ := bnd_some h
   obtain ⟨g30, g31, g32⟩ := idx_row (encOffer .own) q29
   try simp -implicitDefEqProofs only [go_sem] at g31 g32
   cases h
   simp -implicitDefEqProofs only [go_sem, E14_1, X14_1, k14_1b, b19, g22, g23, g24, w26, g30, g31, g32]
theorem e14_1 (a0 : (List Offer)) (s : (Int × List Offer)) (o : (List Offer)) (h : loopP (m14_1b a0) s = some o) : evCL T 0 (.loop k14_1b) (E14_1 a0 s).1 (E14_1 a0 s).2 = some (X14_1 a0 o) :=
 loop_walk (E := E14_1 a0) (X := X14_1 a0) (by intro b; (simp only [X14_1]; nofun)) (b14_1 a0) s o h
theorem e14 (a0 : (List Offer)) (r : (List Offer)) (h : m14 a0 = some r) : evFL T 14 [.ts .imm 7 (a0.map (encOffer .imm))] [] = some (.sl 0 0 r.length, [some ⟨.arr, 7, r.map (encOffer .own)⟩]) := by
 unfold m14 at h
 rw [evFL_at fn14 (Nat.le_of_ble_eq_true rfl) rfl (.inr rfl) ⟨rfl, rfl⟩]
 obtain ⟨g1, h⟩ := ck_some h
 try simp -implicitDefEqProofs only [go_sem] at g1
 obtain ⟨v35, q33, h⟩ := bnd_some h
 have w34 := e14_1 a0 (0, List.replicate a0.length (⟨0, (⟨0, [], 0, 0, 0, []⟩ : Attrs)⟩ : Offer)) v35 q33
 simp only [E14_1, X14_1] at w34
 try simp -implicitDefEqProofs only [go_sem] at w34
 cases h
 simp -implicitDefEqProofs only [go_sem, i14, c14, g1, w34]
theorem call48 (args : List AV) (S : St) : evCall T (evFL T) 48 args S = lendC (evFL T 48) S (lendAll S [[0], [0], [0]] args) := evCall0 fn48 rfl rfl rfl args S
theorem callz48 (args : List AV) (S : St) : evCallFz T (evFL T) 48 args S = lendZ (evFL T 48) S [[0]] (lendAll S [[0], [0], [0]] args) := evCallFz0 fn48 rfl rfl rfl args S
attribute [go_sem] call48 callz48
noncomputable def X48_1 (a0 : Int) (a1 : Int) (a2 : Int) (o : Bool) : Ex × Fr × St :=
 (.normal, frOf 15 (upd anyF 6 (.bool o)), [])
theorem e48_1 (a0 : Int) (a1 : Int) (a2 : Int) (o : Bool) (h : m48_1 a0 a1 a2 = some o) : evCL T 0 k48_1 (frOf 15 (upd (upd (upd anyF 0 (nI a0)) 1 (nI a1)) 2 (nI a2))) [] = some (X48_1 a0 a1 a2 o) := by
 unfold m48_1 at h
 try simp -implicitDefEqProofs only [go_sem, X48_1, k48_1]
 cases b1 : (leI a1 a0 : Bool)
 · replace h := br_f b1 h
   cases h
   simp -implicitDefEqProofs only [go_sem, X48_1, k48_1, b1]
 · replace h := br_t b1 h
   cases h
   simp -implicitDefEqProofs only [go_sem, X48_1, k48_1, b1]
theorem e48 (a0 : Int) (a1 : Int) (a2 : Int) (r : Bool) (h : m48 a0 a1 a2 = some r) : evFL T 48 [nI a0, nI a1, nI a2] [] = some (.bool r, []) := by
 unfold m48 at h
 rw [evFL_at fn48 (Nat.le_of_ble_eq_true rfl) rfl (.inr rfl) ⟨rfl, rfl⟩]
 obtain ⟨v4, q2, h⟩ := bnd_some h
 have w3 := e48_1 a0 a1 a2 v4 q2
 simp only [X48_1] at w3
 try simp -implicitDefEqProofs only [go_sem] at w3
 cases h
 simp -implicitDefEqProofs only [go_sem, i48, c48, w3]
theorem call75 (args : List AV) (S : St) : evCall T (evFL T) 75 args S = lendC (evFL T 75) S (lendAll S [[0]] args) := evCall0 fn75 rfl rfl rfl args S
attribute [go_sem] call75
theorem e75 (a0 : Int) (r : Bool) (h : m75 a0 = some r) : evFL T 75 [nI a0] [] = some (.bool r, []) := by
 unfold m75 at h
 rw [evFL_at fn75 (Nat.le_of_ble_eq_true rfl) rfl (.inr rfl) ⟨rfl, rfl⟩]
 obtain ⟨r3, q1, h⟩ := bnd_some h
 have w2 := e48 a0 0 4294967295 r3 q1
 try simp -implicitDefEqProofs only [go_sem] at w2
 cases h
 simp -implicitDefEqProofs only [go_sem, i75, c75, w2]
theorem call49 (args : List AV) (S : St) : evCall T (evFL T) 49 args S = lendC (evFL T 49) S (lendAll S [[0, 1, 0, 0, 0, 1]] args) := evCall0 fn49 rfl rfl rfl args S
theorem callz49 (args : List AV) (S : St) : evCallFz T (evFL T) 49 args S = lendZ (evFL T 49) S [[0]] (lendAll S [[0, 1, 0, 0, 0, 1]] args) := evCallFz0 fn49 rfl rfl rfl args S
attribute [go_sem] call49 callz49
noncomputable def X49_1 (a0 : Attrs) (p1 : Int) (o : (Unit ⊕ Unit)) : Ex × Fr × St :=
 match o with
 | .inl o => (.exit 0, frOf 74 (upd anyF 1 (.ptr 0 0 0)), [some ⟨.box, 6, [(encAttrs .imm a0)]⟩])
 | .inr o => (.ret, frOf 74 (upd anyF 2 (.bool false)), [])
noncomputable def E49_1 (a0 : Attrs) (p1 : Int) (s : Int) : Fr × St := (frOf 74 (upd (upd (upd (upd anyF 1 (.ptr 0 0 0)) 8 (.ts .imm 1 (a0.path.map encInt))) 9 (nI p1)) 10 (nI s)), [some ⟨.box, 6, [(encAttrs .imm a0)]⟩])
theorem b49_1 (a0 : Attrs) (p1 : Int) (s : Int) (o : Ctl Int (Unit ⊕ Unit)) (h : m49_1b a0 p1 s = some o) : evCL T 0 k49_1b (E49_1 a0 p1 s).1 (E49_1 a0 p1 s).2 = some (ctlX (E49_1 a0 p1) (X49_1 a0 p1) o) := by
 unfold m49_1b at h
 revert h
 generalize s = s12
 intro h
 try simp -implicitDefEqProofs only [go_sem, E49_1, X49_1, k49_1b]
 cases b13 : (ltI s12 p1 : Bool)
 · replace h := br_f b13 h
   cases h
   simp -implicitDefEqProofs only [go_sem, E49_1, X49_1, k49_1b, b13]
 · replace h := br_t b13 h
   obtain ⟨x14, q15, h⟩ := bnd_some h
   obtain ⟨g16, g17, g18⟩ := idx_row encInt q15
   try simp -implicitDefEqProofs only [go_sem] at g17 g18
   obtain ⟨r21, q19, h⟩ := bnd_some h
   have w20 := e48 x14 1 65535 r21 q19
   try simp -implicitDefEqProofs only [go_sem] at w20
   try simp -implicitDefEqProofs only [go_sem, E49_1, X49_1, k49_1b, b13, g16, g17, g18, w20]
   cases b22 : (r21 : Bool)
   · replace h := br_f b22 h
     cases h
     simp -implicitDefEqProofs only [go_sem, E49_1, X49_1, k49_1b, b13, g16, g17, g18, w20, b22]
   · replace h := br_t b22 h
     cases h
     simp -implicitDefEqProofs only [go_sem, E49_1, X49_1, k49_1b, b13, g16, g17, g18, w20, b22]
theorem e49_1 (a0 : Attrs) (p1 : Int) (s : Int) (o : (Unit ⊕ Unit)) (h : loopP (m49_1b a0 p1) s = some o) : evCL T 0 (.loop k49_1b) (E49_1 a0 p1 s).1 (E49_1 a0 p1 s).2 = some (X49_1 a0 p1 o) :=
 loop_walk (E := E49_1 a0 p1) (X := X49_1 a0 p1) (by intro b; rcases b with b | b <;> (simp only [X49_1]; nofun)) (b49_1 a0 p1) s o h
noncomputable def X49_4 (s46 : Int) (x48 : Int) (a0 : Attrs) (p25 : Int) (o : Bool) : Ex × Fr × St :=
 (.normal, frOf 74 (upd (upd (upd (upd (upd anyF 1 (.ptr 0 0 0)) 19 (.ts .imm 1 (a0.comms.map encInt))) 20 (nI p25)) 21 (nI s46)) 42 (.bool o)), [some ⟨.box, 6, [(encAttrs .imm a0)]⟩])
theorem e49_4 (s46 : Int) (x48 : Int) (a0 : Attrs) (p25 : Int) (o : Bool) (h : m49_4 s46 x48 a0 = some o) : evCL T 0 k49_4 (frOf 74 (upd (upd (upd (upd (upd (upd anyF 1 (.ptr 0 0 0)) 5 (nI s46)) 6 (nI x48)) 19 (.ts .imm 1 (a0.comms.map encInt))) 20 (nI p25)) 21 (nI s46))) [some ⟨.box, 6, [(encAttrs .imm a0)]⟩] = some (X49_4 s46 x48 a0 p25 o) := by
 unfold m49_4 at h
 obtain ⟨r55, q53, h⟩ := bnd_some h
 have w54 := e48 x48 0 1000000 r55 q53
 try simp -implicitDefEqProofs only [go_sem] at w54
 try simp -implicitDefEqProofs only [go_sem, X49_4, k49_4, w54]
 cases b56 : (r55 : Bool)
 · replace h := br_f b56 h
   cases h
   simp -implicitDefEqProofs only [go_sem, X49_4, k49_4, w54, b56]
 · replace h := br_t b56 h
   try simp -implicitDefEqProofs only [go_sem, X49_4, k49_4, w54, b56]
   cases b57 : (ltI 0 s46 : Bool)
   · replace h := br_f b57 h
     cases h
     simp -implicitDefEqProofs only [go_sem, X49_4, k49_4, w54, b56, b57]
   · replace h := br_t b57 h
     obtain ⟨x58, q59, h⟩ := bnd_some h
     obtain ⟨g60, g61, g62⟩ := idx_row encInt q59
     try simp -implicitDefEqProofs only [go_sem] at g61 g62
     cases h
     simp -implicitDefEqProofs only [go_sem, X49_4, k49_4, w54, b56, b57, g60, g61, g62]
noncomputable def X49_2 (a0 : Attrs) (p25 : Int) (o : (Unit ⊕ Unit)) : Ex × Fr × St :=
 match o with
 | .inl o => (.exit 2, frOf 74 (upd anyF 1 (.ptr 0 0 0)), [some ⟨.box, 6, [(encAttrs .imm a0)]⟩])
 | .inr o => (.ret, frOf 74 (upd anyF 2 (.bool false)), [])
noncomputable def E49_2 (a0 : Attrs) (p25 : Int) (s : Int) : Fr × St := (frOf 74 (upd (upd (upd (upd anyF 1 (.ptr 0 0 0)) 19 (.ts .imm 1 (a0.comms.map encInt))) 20 (nI p25)) 21 (nI s)), [some ⟨.box, 6, [(encAttrs .imm a0)]⟩])
theorem b49_2 (a0 : Attrs) (p25 : Int) (s : Int) (o : Ctl Int (Unit ⊕ Unit)) (h : m49_2b a0 p25 s = some o) : evCL T 0 k49_2b (E49_2 a0 p25 s).1 (E49_2 a0 p25 s).2 = some (ctlX (E49_2 a0 p25) (X49_2 a0 p25) o) := by
 unfold m49_2b at h
 revert h
 generalize s = s46
 intro h
 try simp -implicitDefEqProofs only [go_sem, E49_2, X49_2, k49_2b]
 cases b47 : (ltI s46 p25 : Bool)
 · replace h := br_f b47 h
   cases h
   simp -implicitDefEqProofs only [go_sem, E49_2, X49_2, k49_2b, b47]
 · replace h := br_t b47 h
   obtain ⟨x48, q49, h⟩ := bnd_some h
   obtain ⟨g50, g51, g52⟩ := idx_row encInt q49
   try simp -implicitDefEqProofs only [go_sem] at g51 g52
   obtain ⟨v65, q63, h⟩ := bnd_some h
   have w64 := e49_4 s46 x48 a0 p25 v65 q63
   simp only [X49_4] at w64
   try simp -implicitDefEqProofs only [go_sem] at w64
   try simp -implicitDefEqProofs only [go_sem, E49_2, X49_2, k49_2b, b47, g50, g51, g52, w64]
   cases b66 : (v65 : Bool)
   · replace h := br_f b66 h
     cases h
     simp -implicitDefEqProofs only [go_sem, E49_2, X49_2, k49_2b, b47, g50, g51, g52, w64, b66]
   · replace h := br_t b66 h
     cases h
     simp -implicitDefEqProofs only [go_sem, E49_2, X49_2, k49_2b, b47, g50, g51, g52, w64, b66]
theorem e49_2 (a0 : Attrs) (p25 : Int) (s : Int) (o : (Unit ⊕ Unit)) (h : loopP (m49_2b a0 p25) s = some o) : evCL T 0 (.loop k49_2b) (E49_2 a0 p25 s).1 (E49_2 a0 p25 s).2 = some (X49_2 a0 p25 o) :=
 loop_walk (E := E49_2 a0 p25) (X := X49_2 a0 p25) (by intro b; rcases b with b | b <;> (simp only [X49_2]; nofun)) (b49_2 a0 p25) s o h
noncomputable def X49_5 (a0 : Attrs) (o : Bool) : Ex × Fr × St :=
 (.normal, frOf 74 (upd anyF 2 (.bool o)), [])
theorem e49_5 (a0 : Attrs) (o : Bool) (h : m49_5 a0 = some o) : evCL T 0 k49_5 (frOf 74 (upd anyF 1 (.ptr 0 0 0))) [some ⟨.box, 6, [(encAttrs .imm a0)]⟩] = some (X49_5 a0 o) := by
 unfold m49_5 at h
 obtain ⟨r71, q69, h⟩ := bnd_some h
 have w70 := e48 a0.origin 0 2 r71 q69
 try simp -implicitDefEqProofs only [go_sem] at w70
 try simp -implicitDefEqProofs only [go_sem, X49_5, k49_5, w70]
 cases b72 : (r71 : Bool)
 · replace h := br_f b72 h
   cases h
   simp -implicitDefEqProofs only [go_sem, X49_5, k49_5, w70, b72]
 · replace h := br_t b72 h
   try simp -implicitDefEqProofs only [go_sem, X49_5, k49_5, w70, b72]
   cases b73 : (leI (↑a0.path.length : Int) 10 : Bool)
   · replace h := br_f b73 h
     cases h
     simp -implicitDefEqProofs only [go_sem, X49_5, k49_5, w70, b72, b73]
   · replace h := br_t b73 h
     obtain ⟨r76, q74, h⟩ := bnd_some h
     have w75 := e75 a0.next r76 q74
     try simp -implicitDefEqProofs only [go_sem] at w75
     try simp -implicitDefEqProofs only [go_sem, X49_5, k49_5, w70, b72, b73, w75]
     cases b77 : (r76 : Bool)
     · replace h := br_f b77 h
       cases h
       simp -implicitDefEqProofs only [go_sem, X49_5, k49_5, w70, b72, b73, w75, b77]
     · replace h := br_t b77 h
       obtain ⟨r80, q78, h⟩ := bnd_some h
       have w79 := e48 a0.med 0 1000000 r80 q78
       try simp -implicitDefEqProofs only [go_sem] at w79
       try simp -implicitDefEqProofs only [go_sem, X49_5, k49_5, w70, b72, b73, w75, b77, w79]
       cases b81 : (r80 : Bool)
       · replace h := br_f b81 h
         cases h
         simp -implicitDefEqProofs only [go_sem, X49_5, k49_5, w70, b72, b73, w75, b77, w79, b81]
       · replace h := br_t b81 h
         obtain ⟨r84, q82, h⟩ := bnd_some h
         have w83 := e48 a0.pref 0 1000000 r84 q82
         try simp -implicitDefEqProofs only [go_sem] at w83
         try simp -implicitDefEqProofs only [go_sem, X49_5, k49_5, w70, b72, b73, w75, b77, w79, b81, w83]
         cases b85 : (r84 : Bool)
         · replace h := br_f b85 h
           cases h
           simp -implicitDefEqProofs only [go_sem, X49_5, k49_5, w70, b72, b73, w75, b77, w79, b81, w83, b85]
         · replace h := br_t b85 h
           cases h
           simp -implicitDefEqProofs only [go_sem, X49_5, k49_5, w70, b72, b73, w75, b77, w79, b81, w83, b85]
theorem e49 (a0 : Attrs) (r : Bool) (h : m49 a0 = some r) : evFL T 49 [.agg (encAttrs .imm a0)] [] = some (.bool r, []) := by
 unfold m49 at h
 rw [evFL_at fn49 (Nat.le_of_ble_eq_true rfl) rfl (.inr rfl) ⟨rfl, rfl⟩]
 try simp -implicitDefEqProofs only [go_sem, i49, c49]
 obtain ⟨o, q23, h⟩ := bnd_some h
 rcases o with ⟨⟩ | ⟨⟩
 · replace h := selS_l h
   have w24 := e49_1 a0 (↑a0.path.length : Int) 0 (.inl ()) q23
   simp only [E49_1, X49_1] at w24
   try simp -implicitDefEqProofs only [go_sem] at w24
   try simp -implicitDefEqProofs only [go_sem, i49, c49, w24]
   obtain ⟨o, q67, h⟩ := bnd_some h
   rcases o with ⟨⟩ | ⟨⟩
   · replace h := selS_l h
     have w68 := e49_2 a0 (↑a0.comms.length : Int) 0 (.inl ()) q67
     simp only [E49_2, X49_2] at w68
     try simp -implicitDefEqProofs only [go_sem] at w68
     obtain ⟨v88, q86, h⟩ := bnd_some h
     have w87 := e49_5 a0 v88 q86
     simp only [X49_5] at w87
     try simp -implicitDefEqProofs only [go_sem] at w87
     cases h
     simp -implicitDefEqProofs only [go_sem, i49, c49, w24, w68, w87]
   · replace h := selS_r h
     have w68 := e49_2 a0 (↑a0.comms.length : Int) 0 (.inr ()) q67
     simp only [E49_2, X49_2] at w68
     try simp -implicitDefEqProofs only [go_sem] at w68
     cases h
     simp -implicitDefEqProofs only [go_sem, i49, c49, w24, w68]
 · replace h := selS_r h
   have w24 := e49_1 a0 (↑a0.path.length : Int) 0 (.inr ()) q23
   simp only [E49_1, X49_1] at w24
   try simp -implicitDefEqProofs only [go_sem] at w24
   cases h
   simp -implicitDefEqProofs only [go_sem, i49, c49, w24]
theorem call13 (args : List AV) (S : St) : evCall T (evFL T) 13 args S = lendC (evFL T 13) S (lendAll S [[7]] args) := evCall0 fn13 rfl rfl rfl args S
attribute [go_sem] call13
noncomputable def X13_3 (a0 : (List Offer)) (s26 : Int) (p1 : Int) (x28 : Offer) (o : Bool) : Ex × Fr × St :=
 (.normal, frOf 38 (upd (upd (upd (upd (upd anyF 0 (.ts .imm 7 (a0.map (encOffer .imm)))) 5 (.ts .imm 7 (a0.map (encOffer .imm)))) 6 (nI p1)) 7 (nI s26)) 36 (.bool o)), [])
theorem e13_3 (a0 : (List Offer)) (s26 : Int) (p1 : Int) (x28 : Offer) (o : Bool) (h : m13_3 a0 s26 x28 = some o) : evCL T 0 k13_3 (frOf 38 (upd (upd (upd (upd (upd (upd anyF 0 (.ts .imm 7 (a0.map (encOffer .imm)))) 3 (nI s26)) 4 (.ptr 0 0 0)) 5 (.ts .imm 7 (a0.map (encOffer .imm)))) 6 (nI p1)) 7 (nI s26))) [some ⟨.box, 7, [(encOffer .imm x28)]⟩] = some (X13_3 a0 s26 p1 x28 o) := by
 unfold m13_3 at h
 obtain ⟨r35, q33, h⟩ := bnd_some h
 have w34 := e48 x28.peer 0 5 r35 q33
 try simp -implicitDefEqProofs only [go_sem] at w34
 try simp -implicitDefEqProofs only [go_sem, X13_3, k13_3, w34]
 cases b36 : (r35 : Bool)
 · replace h := br_f b36 h
   cases h
   simp -implicitDefEqProofs only [go_sem, X13_3, k13_3, w34, b36]
 · replace h := br_t b36 h
   obtain ⟨r39, q37, h⟩ := bnd_some h
   have w38 := e49 x28.attrs r39 q37
   try simp -implicitDefEqProofs only [go_sem] at w38
   try simp -implicitDefEqProofs only [go_sem, X13_3, k13_3, w34, b36, w38]
   cases b40 : (r39 : Bool)
   · replace h := br_f b40 h
     cases h
     simp -implicitDefEqProofs only [go_sem, X13_3, k13_3, w34, b36, w38, b40]
   · replace h := br_t b40 h
     try simp -implicitDefEqProofs only [go_sem, X13_3, k13_3, w34, b36, w38, b40]
     cases b41 : (ltI 0 s26 : Bool)
     · replace h := br_f b41 h
       cases h
       simp -implicitDefEqProofs only [go_sem, X13_3, k13_3, w34, b36, w38, b40, b41]
     · replace h := br_t b41 h
       obtain ⟨x42, q43, h⟩ := bnd_some h
       obtain ⟨g44, g45, g46⟩ := idx_row (encOffer .imm) q43
       try simp -implicitDefEqProofs only [go_sem] at g45 g46
       cases h
       simp -implicitDefEqProofs only [go_sem, X13_3, k13_3, w34, b36, w38, b40, b41, g44, g45, g46]
noncomputable def X13_1 (a0 : (List Offer)) (p1 : Int) (o : (Unit ⊕ Unit)) : Ex × Fr × St :=
 match o with
 | .inl o => (.exit 0, frOf 38 (anyF), [])
 | .inr o => (.ret, frOf 38 (upd anyF 2 (.bool false)), [])
noncomputable def E13_1 (a0 : (List Offer)) (p1 : Int) (s : Int) : Fr × St := (frOf 38 (upd (upd (upd (upd anyF 0 (.ts .imm 7 (a0.map (encOffer .imm)))) 5 (.ts .imm 7 (a0.map (encOffer .imm)))) 6 (nI p1)) 7 (nI s)), [])
theorem b13_1 (a0 : (List Offer)) (p1 : Int) (s : Int) (o : Ctl Int (Unit ⊕ Unit)) (h : m13_1b a0 p1 s = some o) : evCL T 0 k13_1b (E13_1 a0 p1 s).1 (E13_1 a0 p1 s).2 = some (ctlX (E13_1 a0 p1) (X13_1 a0 p1) o) := by
 unfold m13_1b at h
 revert h
 generalize s = s26
 intro h
 try simp -implicitDefEqProofs only [go_sem, E13_1, X13_1, k13_1b]
 cases b27 : (ltI s26 p1 : Bool)
 · replace h := br_f b27 h
   cases h
   simp -implicitDefEqProofs only [go_sem, E13_1, X13_1, k13_1b, b27]
 · replace h := br_t b27 h
   obtain ⟨x28, q29, h⟩ := bnd_some h
   obtain ⟨g30, g31, g32⟩ := idx_row (encOffer .imm) q29
   try simp -implicitDefEqProofs only [go_sem] at g31 g32
   obtain ⟨v49, q47, h⟩ := bnd_some h
   have w48 := e13_3 a0 s26 p1 x28 v49 q47
   simp only [X13_3] at w48
   try simp -implicitDefEqProofs only [go_sem] at w48
   try simp -implicitDefEqProofs only [go_sem, E13_1, X13_1, k13_1b, b27, g30, g31, g32, w48]
   cases b50 : (v49 : Bool)
   · replace h := br_f b50 h
     cases h
     simp -implicitDefEqProofs only [go_sem, E13_1, X13_1, k13_1b, b27, g30, g31, g32, w48, b50]
   · replace h := br_t b50 h
     cases h
     simp -implicitDefEqProofs only [go_sem, E13_1, X13_1, k13_1b, b27, g30, g31, g32, w48, b50]
theorem e13_1 (a0 : (List Offer)) (p1 : Int) (s : Int) (o : (Unit ⊕ Unit)) (h : loopP (m13_1b a0 p1) s = some o) : evCL T 0 (.loop k13_1b) (E13_1 a0 p1 s).1 (E13_1 a0 p1 s).2 = some (X13_1 a0 p1 o) :=
 loop_walk (E := E13_1 a0 p1) (X := X13_1 a0 p1) (by intro b; rcases b with b | b <;> (simp only [X13_1]; nofun)) (b13_1 a0 p1) s o h
theorem e13 (a0 : (List Offer)) (r : Bool) (h : m13 a0 = some r) : evFL T 13 [.ts .imm 7 (a0.map (encOffer .imm))] [] = some (.bool r, []) := by
 unfold m13 at h
 rw [evFL_at fn13 (Nat.le_of_ble_eq_true rfl) rfl (.inr rfl) ⟨rfl, rfl⟩]
 try simp -implicitDefEqProofs only [go_sem, i13, c13]
 obtain ⟨o, q51, h⟩ := bnd_some h
 rcases o with ⟨⟩ | ⟨⟩
 · replace h := selS_l h
   have w52 := e13_1 a0 (↑a0.length : Int) 0 (.inl ()) q51
   simp only [E13_1, X13_1] at w52
   try simp -implicitDefEqProofs only [go_sem] at w52
   cases h
   simp -implicitDefEqProofs only [go_sem, i13, c13, w52]
 · replace h := selS_r h
   have w52 := e13_1 a0 (↑a0.length : Int) 0 (.inr ()) q51
   simp only [E13_1, X13_1] at w52
   try simp -implicitDefEqProofs only [go_sem] at w52
   cases h
   simp -implicitDefEqProofs only [go_sem, i13, c13, w52]
theorem call87 (args : List AV) (S : St) : evCall T (evFL T) 87 args S = lendC (evFL T 87) S (lendAll S [[0, 1, 0, 0, 0, 1]] args) := evCall0 fn87 rfl rfl rfl args S
theorem callz87 (args : List AV) (S : St) : evCallFz T (evFL T) 87 args S = lendZ (evFL T 87) S [[0, 1, 0, 0, 0, 1]] (lendAll S [[0, 1, 0, 0, 0, 1]] args) := evCallFz0 fn87 rfl rfl rfl args S
attribute [go_sem] call87 callz87
theorem e87 (a0 : Attrs) (r : Attrs) (h : m87 a0 = some r) : evFL T 87 [.agg (encAttrs .imm a0)] [] = some (.agg [nI r.origin, .sl 0 0 r.path.length, nI r.next, nI r.med, nI r.pref, .sl 1 0 r.comms.length], [some ⟨.arr, 1, r.path.map encInt⟩, some ⟨.arr, 1, r.comms.map encInt⟩]) := by
 unfold m87 at h
 rw [evFL_at fn87 (Nat.le_of_ble_eq_true rfl) rfl (.inr rfl) ⟨rfl, rfl⟩]
 obtain ⟨g1, h⟩ := ck_some h
 try simp -implicitDefEqProofs only [go_sem] at g1
 obtain ⟨g2, h⟩ := ck_some h
 try simp -implicitDefEqProofs only [go_sem] at g2
 cases h
 simp -implicitDefEqProofs only [go_sem, i87, c87, g1, g2]
theorem call83 (args : List AV) (S : St) : evCall T (evFL T) 83 args S = lendC (evFL T 83) S (lendAll S [[7]] args) := evCall0 fn83 rfl rfl rfl args S
attribute [go_sem] call83
noncomputable def X83_1 (a0 : (List Offer)) (p1 : Int) (o : (List Offer)) : Ex × Fr × St :=
 (.exit 0, frOf 23 (upd anyF 3 (.sl 0 0 o.length)), [some ⟨.arr, 7, o.map (encOffer .own)⟩])
noncomputable def E83_1 (a0 : (List Offer)) (p1 : Int) (s : (Int × List Offer)) : Fr × St := (frOf 23 (upd (upd (upd (upd anyF 3 (.sl 0 0 s.2.length)) 6 (.ts .imm 7 (a0.map (encOffer .imm)))) 7 (nI p1)) 8 (nI s.1)), [some ⟨.arr, 7, s.2.map (encOffer .own)⟩])
theorem b83_1 (a0 : (List Offer)) (p1 : Int) (s : (Int × List Offer)) (o : Ctl (Int × List Offer) (List Offer)) (h : m83_1b a0 p1 s = some o) : evCL T 0 k83_1b (E83_1 a0 p1 s).1 (E83_1 a0 p1 s).2 = some (ctlX (E83_1 a0 p1) (X83_1 a0 p1) o) := by
 unfold m83_1b at h
 obtain ⟨s11, s12⟩ := s
 replace h := sel2_some h
 try simp -implicitDefEqProofs only [go_sem, E83_1, X83_1, k83_1b]
 cases b13 : (ltI s11 p1 : Bool)
 · replace h := br_f b13 h
   cases h
   simp -implicitDefEqProofs only [go_sem, E83_1, X83_1, k83_1b, b13]
 · replace h := br_t b13 h
   obtain ⟨x14, q15, h⟩ := bnd_some h
   obtain ⟨g16, g17, g18⟩ := idx_row (encOffer .imm) q15
   try simp -implicitDefEqProofs only [go_sem] at g17 g18
   obtain ⟨r21, q19, h⟩ := bnd_some h
   have w20 := e87 x14.attrs r21 q19
   try simp -implicitDefEqProofs only [go_sem] at w20
   obtain ⟨g22, h⟩ := ck_some h
   try simp -implicitDefEqProofs only [go_sem] at g22
   cases h
   simp -implicitDefEqProofs only [go_sem, E83_1, X83_1, k83_1b, b13, g16, g17, g18, w20, g22]
theorem e83_1 (a0 : (List Offer)) (p1 : Int) (s : (Int × List Offer)) (o : (List Offer)) (h : loopP (m83_1b a0 p1) s = some o) : evCL T 0 (.loop k83_1b) (E83_1 a0 p1 s).1 (E83_1 a0 p1 s).2 = some (X83_1 a0 p1 o) :=
 loop_walk (E := E83_1 a0 p1) (X := X83_1 a0 p1) (by intro b; (simp only [X83_1]; nofun)) (b83_1 a0 p1) s o h
theorem e83 (a0 : (List Offer)) (r : (List Offer)) (h : m83 a0 = some r) : evFL T 83 [.ts .imm 7 (a0.map (encOffer .imm))] [] = some (.sl 0 0 r.length, [some ⟨.arr, 7, r.map (encOffer .own)⟩]) := by
 unfold m83 at h
 rw [evFL_at fn83 (Nat.le_of_ble_eq_true rfl) rfl (.inr rfl) ⟨rfl, rfl⟩]
 obtain ⟨v25, q23, h⟩ := bnd_some h
 have w24 := e83_1 a0 (↑a0.length : Int) (0, []) v25 q23
 simp only [E83_1, X83_1] at w24
 try simp -implicitDefEqProofs only [go_sem] at w24
 cases h
 simp -implicitDefEqProofs only [go_sem, i83, c83, w24]
theorem call60 (args : List AV) (S : St) : evCall T (evFL T) 60 args S = lendC (evFL T 60) S (lendAll S [[7], [0, 0, 1, 0, 0, 0, 1]] args) := evCall0 fn60 rfl rfl rfl args S
attribute [go_sem] call60
noncomputable def X60_3 (a0 : (List Offer)) (s11 : Int) (a1 : Offer) (o : Bool) : Ex × Fr × St :=
 (.normal, frOf 58 (upd (upd (upd (upd anyF 0 (.ts .imm 7 (a0.map (encOffer .imm)))) 3 (.ptr 0 0 0)) 5 (nI s11)) 20 (.bool o)), [some ⟨.box, 7, [(encOffer .imm a1)]⟩])
theorem e60_3 (a0 : (List Offer)) (s11 : Int) (a1 : Offer) (o : Bool) (h : m60_3 a0 s11 a1 = some o) : evCL T 0 k60_3 (frOf 58 (upd (upd (upd anyF 0 (.ts .imm 7 (a0.map (encOffer .imm)))) 3 (.ptr 0 0 0)) 5 (nI s11))) [some ⟨.box, 7, [(encOffer .imm a1)]⟩] = some (X60_3 a0 s11 a1 o) := by
 unfold m60_3 at h
 try simp -implicitDefEqProofs only [go_sem, X60_3, k60_3]
 cases b12 : (ltI s11 (↑a0.length : Int) : Bool)
 · replace h := br_f b12 h
   cases h
   simp -implicitDefEqProofs only [go_sem, X60_3, k60_3, b12]
 · replace h := br_t b12 h
   obtain ⟨x13, q14, h⟩ := bnd_some h
   obtain ⟨g15, g16, g17⟩ := idx_row (encOffer .imm) q14
   try simp -implicitDefEqProofs only [go_sem] at g16 g17
   cases h
   simp -implicitDefEqProofs only [go_sem, X60_3, k60_3, b12, g15, g16, g17]
noncomputable def X60_1 (a0 : (List Offer)) (a1 : Offer) (o : Int) : Ex × Fr × St :=
 (.exit 0, frOf 58 (upd (upd (upd anyF 0 (.ts .imm 7 (a0.map (encOffer .imm)))) 3 (.ptr 0 0 0)) 5 (nI o)), [some ⟨.box, 7, [(encOffer .imm a1)]⟩])
noncomputable def E60_1 (a0 : (List Offer)) (a1 : Offer) (s : Int) : Fr × St := (frOf 58 (upd (upd (upd anyF 0 (.ts .imm 7 (a0.map (encOffer .imm)))) 3 (.ptr 0 0 0)) 5 (nI s)), [some ⟨.box, 7, [(encOffer .imm a1)]⟩])
theorem b60_1 (a0 : (List Offer)) (a1 : Offer) (s : Int) (o : Ctl Int Int) (h : m60_1b a0 a1 s = some o) : evCL T 0 k60_1b (E60_1 a0 a1 s).1 (E60_1 a0 a1 s).2 = some (ctlX (E60_1 a0 a1) (X60_1 a0 a1) o) := by
 unfold m60_1b at h
 revert h
 generalize s = s11
 intro h
 obtain ⟨v20, q18, h⟩ := bnd_some h
 have w19 := e60_3 a0 s11 a1 v20 q18
 simp only [X60_3] at w19
 try simp -implicitDefEqProofs only [go_sem] at w19
 try simp -implicitDefEqProofs only [go_sem, E60_1, X60_1, k60_1b, w19]
 cases b21 : (v20 : Bool)
 · replace h := br_f b21 h
   cases h
   simp -implicitDefEqProofs only [go_sem, E60_1, X60_1, k60_1b, w19, b21]
 · replace h := br_t b21 h
   cases h
   simp -implicitDefEqProofs only [go_sem, E60_1, X60_1, k60_1b, w19, b21]
theorem e60_1 (a0 : (List Offer)) (a1 : Offer) (s : Int) (o : Int) (h : loopP (m60_1b a0 a1) s = some o) : evCL T 0 (.loop k60_1b) (E60_1 a0 a1 s).1 (E60_1 a0 a1 s).2 = some (X60_1 a0 a1 o) :=
 loop_walk (E := E60_1 a0 a1) (X := X60_1 a0 a1) (by intro b; (simp only [X60_1]; nofun)) (b60_1 a0 a1) s o h
noncomputable def X60_4 (a0 : (List Offer)) (v24 : Int) (a1 : Offer) (p33 : List Offer) (o : Bool) : Ex × Fr × St :=
 (.normal, frOf 58 (upd (upd (upd (upd anyF 0 (.ts .imm 7 (a0.map (encOffer .imm)))) 5 (nI v24)) 6 (.sl 0 0 p33.length)) 49 (.bool o)), [some ⟨.arr, 7, p33.map (encOffer .own)⟩])
theorem e60_4 (a0 : (List Offer)) (v24 : Int) (a1 : Offer) (p33 : List Offer) (o : Bool) (h : m60_4 a0 v24 a1 = some o) : evCL T 0 k60_4 (frOf 58 (upd (upd (upd (upd anyF 0 (.ts .imm 7 (a0.map (encOffer .imm)))) 3 (.ptr 0 0 0)) 5 (nI v24)) 6 (.sl 1 0 p33.length))) [some ⟨.box, 7, [(encOffer .imm a1)]⟩, some ⟨.arr, 7, p33.map (encOffer .own)⟩] = some (X60_4 a0 v24 a1 p33 o) := by
 unfold m60_4 at h
 try simp -implicitDefEqProofs only [go_sem, X60_4, k60_4]
 cases b34 : (ltI v24 (↑a0.length : Int) : Bool)
 · replace h := br_f b34 h
   cases h
   simp -implicitDefEqProofs only [go_sem, X60_4, k60_4, b34]
 · replace h := br_t b34 h
   obtain ⟨x35, q36, h⟩ := bnd_some h
   obtain ⟨g37, g38, g39⟩ := idx_row (encOffer .imm) q36
   try simp -implicitDefEqProofs only [go_sem] at g38 g39
   cases h
   simp -implicitDefEqProofs only [go_sem, X60_4, k60_4, b34, g37, g38, g39]
noncomputable def X60_5 (a0 : (List Offer)) (v24 : Int) (v42 : Bool) (p43 : List Offer) (o : Int) : Ex × Fr × St :=
 (.normal, frOf 58 (upd (upd (upd anyF 0 (.ts .imm 7 (a0.map (encOffer .imm)))) 5 (nI o)) 6 (.sl 0 0 p43.length)), [some ⟨.arr, 7, p43.map (encOffer .own)⟩])
theorem e60_5 (a0 : (List Offer)) (v24 : Int) (v42 : Bool) (p43 : List Offer) (o : Int) (h : m60_5 v24 v42 = some o) : evCL T 0 k60_5 (frOf 58 (upd (upd (upd (upd anyF 0 (.ts .imm 7 (a0.map (encOffer .imm)))) 5 (nI v24)) 6 (.sl 0 0 p43.length)) 49 (.bool v42))) [some ⟨.arr, 7, p43.map (encOffer .own)⟩] = some (X60_5 a0 v24 v42 p43 o) := by
 unfold m60_5 at h
 try simp -implicitDefEqProofs only [go_sem, X60_5, k60_5]
 cases b44 : (v42 : Bool)
 · replace h := br_f b44 h
   cases h
   simp -implicitDefEqProofs only [go_sem, X60_5, k60_5, b44]
 · replace h := br_t b44 h
   cases h
   simp -implicitDefEqProofs only [go_sem, X60_5, k60_5, b44]
theorem e60 (a0 : (List Offer)) (a1 : Offer) (r : (List Offer)) (h : m60 a0 a1 = some r) : evFL T 60 [.ts .imm 7 (a0.map (encOffer .imm)), .agg (encOffer .imm a1)] [] = some (.sl 0 0 r.length, [some ⟨.arr, 7, r.map (encOffer .own)⟩]) := by
 unfold m60 at h
 rw [evFL_at fn60 (Nat.le_of_ble_eq_true rfl) rfl (.inr rfl) ⟨rfl, rfl⟩]
 obtain ⟨v24, q22, h⟩ := bnd_some h
 have w23 := e60_1 a0 a1 0 v24 q22
 simp only [E60_1, X60_1] at w23
 try simp -implicitDefEqProofs only [go_sem] at w23
 obtain ⟨g25, h⟩ := ck_some h
 try simp -implicitDefEqProofs only [go_sem] at g25
 obtain ⟨r28, q26, h⟩ := bnd_some h
 have w27 := e83 (a0.take v24.toNat) r28 q26
 try simp -implicitDefEqProofs only [go_sem] at w27
 obtain ⟨r31, q29, h⟩ := bnd_some h
 have w30 := e87 a1.attrs r31 q29
 try simp -implicitDefEqProofs only [go_sem] at w30
 obtain ⟨g32, h⟩ := ck_some h
 try simp -implicitDefEqProofs only [go_sem] at g32
 obtain ⟨v42, q40, h⟩ := bnd_some h
 have w41 := e60_4 a0 v24 a1 (r28 ++ [(⟨a1.peer, r31⟩ : Offer)]) v42 q40
 simp only [X60_4] at w41
 try simp -implicitDefEqProofs only [go_sem] at w41
 obtain ⟨v47, q45, h⟩ := bnd_some h
 have w46 := e60_5 a0 v24 v42 (r28 ++ [(⟨a1.peer, r31⟩ : Offer)]) v47 q45
 simp only [X60_5] at w46
 try simp -implicitDefEqProofs only [go_sem] at w46
 obtain ⟨g48, h⟩ := ck_some h
 try simp -implicitDefEqProofs only [go_sem] at g48
 obtain ⟨r51, q49, h⟩ := bnd_some h
 have w50 := e83 (a0.drop v47.toNat) r51 q49
 try simp -implicitDefEqProofs only [go_sem] at w50
 obtain ⟨g52, h⟩ := ck_some h
 try simp -implicitDefEqProofs only [go_sem] at g52
 cases h
 simp -implicitDefEqProofs only [go_sem, i60, c60, w23, g25, w27, w30, g32, w41, w46, g48, w50, g52]
theorem call26 (args : List AV) (S : St) : evCall T (evFL T) 26 args S = lendC (evFL T 26) S (lendAll S [[7], [0, 0, 1, 0, 0, 0, 1]] args) := evCall0 fn26 rfl rfl rfl args S
theorem callz26 (args : List AV) (S : St) : evCallFz T (evFL T) 26 args S = lendZ (evFL T 26) S [[7], [0]] (lendAll S [[7], [0, 0, 1, 0, 0, 0, 1]] args) := evCallFz0 fn26 rfl rfl rfl args S
theorem calls26 (args : List AV) (S : St) : evCall (T.at true) (evFL T) 26 args S = lendC (evFL T 26) S (lendAll S [[7], [0, 0, 1, 0, 0, 0, 1]] args) := evCall0 fns26 rfl rfl rfl args S
theorem callsz26 (args : List AV) (S : St) : evCallFz (T.at true) (evFL T) 26 args S = lendZ (evFL T 26) S [[7], [0]] (lendAll S [[7], [0, 0, 1, 0, 0, 0, 1]] args) := evCallFz0 fns26 rfl rfl rfl args S
attribute [go_sem] call26 callz26 calls26 callsz26
noncomputable def X26_1 (a0 : (List Offer)) (a1 : Offer) (o : Bool) : Ex × Fr × St :=
 (.normal, frOf 18 (upd (upd (upd anyF 0 (.ts .imm 7 (a0.map (encOffer .imm)))) 3 (.ptr 0 0 0)) 14 (.bool o)), [some ⟨.box, 7, [(encOffer .imm a1)]⟩])
theorem e26_1 (a0 : (List Offer)) (a1 : Offer) (o : Bool) (h : m26_1 a0 a1 = some o) : evCL T 0 k26_1 (frOf 18 (upd (upd anyF 0 (.ts .imm 7 (a0.map (encOffer .imm)))) 3 (.ptr 0 0 0))) [some ⟨.box, 7, [(encOffer .imm a1)]⟩] = some (X26_1 a0 a1 o) := by
 unfold m26_1 at h
 obtain ⟨r3, q1, h⟩ := bnd_some h
 have w2 := e13 a0 r3 q1
 try simp -implicitDefEqProofs only [go_sem] at w2
 try simp -implicitDefEqProofs only [go_sem, X26_1, k26_1, w2]
 cases b4 : (r3 : Bool)
 · replace h := br_f b4 h
   cases h
   simp -implicitDefEqProofs only [go_sem, X26_1, k26_1, w2, b4]
 · replace h := br_t b4 h
   obtain ⟨r7, q5, h⟩ := bnd_some h
   have w6 := e13 [a1] r7 q5
   try simp -implicitDefEqProofs only [go_sem] at w6
   cases h
   simp -implicitDefEqProofs only [go_sem, X26_1, k26_1, w2, b4, w6]
theorem e26 (a0 : (List Offer)) (a1 : Offer) (r : ((List Offer) × Bool)) (h : m26 a0 a1 = some r) : evFL T 26 [.ts .imm 7 (a0.map (encOffer .imm)), .agg (encOffer .imm a1)] [] = some (.tup [.sl 0 0 r.1.length, .bool r.2], [some ⟨.arr, 7, r.1.map (encOffer .own)⟩]) := by
 unfold m26 at h
 rw [evFL_at fn26 (Nat.le_of_ble_eq_true rfl) rfl (.inr rfl) ⟨rfl, rfl⟩]
 obtain ⟨v10, q8, h⟩ := bnd_some h
 have w9 := e26_1 a0 a1 v10 q8
 simp only [X26_1] at w9
 try simp -implicitDefEqProofs only [go_sem] at w9
 try simp -implicitDefEqProofs only [go_sem, i26, c26, w9]
 cases b11 : (v10 : Bool)
 · replace h := br_f b11 h
   obtain ⟨r14, q12, h⟩ := bnd_some h
   have w13 := e60 a0 a1 r14 q12
   try simp -implicitDefEqProofs only [go_sem] at w13
   cases h
   simp -implicitDefEqProofs only [go_sem, i26, c26, w9, b11, w13]
 · replace h := br_t b11 h
   cases h
   simp -implicitDefEqProofs only [go_sem, i26, c26, w9, b11]
theorem call91 (args : List AV) (S : St) : evCall T (evFL T) 91 args S = lendC (evFL T 91) S (lendAll S [[0], [0], [0]] args) := evCall0 fn91 rfl rfl rfl args S
attribute [go_sem] call91
noncomputable def X91_1 (a0 : Int) (a1 : Int) (a2 : Int) (o : Bool) : Ex × Fr × St :=
 (.normal, frOf 15 (upd anyF 6 (.bool o)), [])
theorem e91_1 (a0 : Int) (a1 : Int) (a2 : Int) (o : Bool) (h : m91_1 a0 a1 a2 = some o) : evCL T 0 k91_1 (frOf 15 (upd (upd (upd anyF 0 (nI a0)) 1 (nI a1)) 2 (nI a2))) [] = some (X91_1 a0 a1 a2 o) := by
 unfold m91_1 at h
 try simp -implicitDefEqProofs only [go_sem, X91_1, k91_1]
 cases b1 : (leI a1 a0 : Bool)
 · replace h := br_f b1 h
   cases h
   simp -implicitDefEqProofs only [go_sem, X91_1, k91_1, b1]
 · replace h := br_t b1 h
   cases h
   simp -implicitDefEqProofs only [go_sem, X91_1, k91_1, b1]
theorem e91 (a0 : Int) (a1 : Int) (a2 : Int) (r : Bool) (h : m91 a0 a1 a2 = some r) : evFL T 91 [nI a0, nI a1, nI a2] [] = some (.bool r, []) := by
 unfold m91 at h
 rw [evFL_at fn91 (Nat.le_of_ble_eq_true rfl) rfl (.inr rfl) ⟨rfl, rfl⟩]
 obtain ⟨v4, q2, h⟩ := bnd_some h
 have w3 := e91_1 a0 a1 a2 v4 q2
 simp only [X91_1] at w3
 try simp -implicitDefEqProofs only [go_sem] at w3
 cases h
 simp -implicitDefEqProofs only [go_sem, i91, c91, w3]
theorem call76 (args : List AV) (S : St) : evCall T (evFL T) 76 args S = lendC (evFL T 76) S (lendAll S [[0]] args) := evCall0 fn76 rfl rfl rfl args S
attribute [go_sem] call76
theorem e76 (a0 : Int) (r : Bool) (h : m76 a0 = some r) : evFL T 76 [nI a0] [] = some (.bool r, []) := by
 unfold m76 at h
 rw [evFL_at fn76 (Nat.le_of_ble_eq_true rfl) rfl (.inr rfl) ⟨rfl, rfl⟩]
 obtain ⟨r3, q1, h⟩ := bnd_some h
 have w2 := e91 a0 0 5 r3 q1
 try simp -implicitDefEqProofs only [go_sem] at w2
 cases h
 simp -implicitDefEqProofs only [go_sem, i76, c76, w2]
theorem call115 (args : List AV) (S : St) : evCall T (evFL T) 115 args S = lendC (evFL T 115) S (lendAll S [[1], [0]] args) := evCall0 fn115 rfl rfl rfl args S
attribute [go_sem] call115
noncomputable def X115_1 (a1_f : Nat) (a1_c : List AV) (a0 : (List Int)) (p1 : Int) (a1 : (Int → Option Bool)) (o : (Unit ⊕ Int)) : Ex × Fr × St :=
 match o with
 | .inl o => (.exit 0, frOf 19 (anyF), [])
 | .inr o => (.ret, frOf 19 (upd anyF 4 (nI o)), [])
noncomputable def E115_1 (a1_f : Nat) (a1_c : List AV) (a0 : (List Int)) (p1 : Int) (a1 : (Int → Option Bool)) (s : Int) : Fr × St := (frOf 19 (upd (upd (upd (upd anyF 0 (.ts .imm 1 (a0.map encInt))) 1 (.fn a1_f a1_c)) 7 (nI p1)) 8 (nI s)), [])
theorem b115_1 (a0 : (List Int)) (p1 : Int) (a1 : (Int → Option Bool)) (a1_f : Nat) (a1_c : List AV) (a1_h : ((∀ S, mapO (lendPtr S) a1_c = some a1_c) ∧ (∀ n0 src R tm t c, tdL n0 src R tm t c a1_c = some a1_c)) ∧ ∀ y0 r, a1 y0 = some r → (∀ S, evCall T (evFL T) a1_f ([nI y0] ++ a1_c) S = some (.bool r, S)) ∧ (∀ S, evCallFz T (evFL T) a1_f ([nI y0] ++ a1_c) S = some (.bool r, S))) (s : Int) (o : Ctl Int (Unit ⊕ Int)) (h : m115_1b a0 p1 a1 s = some o) : evCL T 0 k115_1b (E115_1 a1_f a1_c a0 p1 a1 s).1 (E115_1 a1_f a1_c a0 p1 a1 s).2 = some (ctlX (E115_1 a1_f a1_c a0 p1 a1) (X115_1 a1_f a1_c a0 p1 a1) o) := by
 unfold m115_1b at h
 revert h
 generalize s = s12
 intro h
 try simp -implicitDefEqProofs only [go_sem, E115_1, X115_1, k115_1b, a1_h.1]
 cases b13 : (ltI s12 p1 : Bool)
 · replace h := br_f b13 h
   cases h
   simp -implicitDefEqProofs only [go_sem, E115_1, X115_1, k115_1b, a1_h.1, b13]
 · replace h := br_t b13 h
   obtain ⟨x14, q15, h⟩ := bnd_some h
   obtain ⟨g16, g17, g18⟩ := idx_row encInt q15
   try simp -implicitDefEqProofs only [go_sem] at g17 g18
   obtain ⟨r19, q20, h⟩ := bnd_some h
   have w21 := a1_h.2 x14 r19 q20
   try simp -implicitDefEqProofs only [go_sem] at w21
   try simp -implicitDefEqProofs only [go_sem, E115_1, X115_1, k115_1b, a1_h.1, b13, g16, g17, g18, w21.1, w21.2]
   cases b22 : (r19 : Bool)
   · replace h := br_f b22 h
     cases h
     simp -implicitDefEqProofs only [go_sem, E115_1, X115_1, k115_1b, a1_h.1, b13, g16, g17, g18, w21.1, w21.2, b22]
   · replace h := br_t b22 h
     cases h
     simp -implicitDefEqProofs only [go_sem, E115_1, X115_1, k115_1b, a1_h.1, b13, g16, g17, g18, w21.1, w21.2, b22]
theorem e115_1 (a0 : (List Int)) (p1 : Int) (a1 : (Int → Option Bool)) (a1_f : Nat) (a1_c : List AV) (a1_h : ((∀ S, mapO (lendPtr S) a1_c = some a1_c) ∧ (∀ n0 src R tm t c, tdL n0 src R tm t c a1_c = some a1_c)) ∧ ∀ y0 r, a1 y0 = some r → (∀ S, evCall T (evFL T) a1_f ([nI y0] ++ a1_c) S = some (.bool r, S)) ∧ (∀ S, evCallFz T (evFL T) a1_f ([nI y0] ++ a1_c) S = some (.bool r, S))) (s : Int) (o : (Unit ⊕ Int)) (h : loopP (m115_1b a0 p1 a1) s = some o) : evCL T 0 (.loop k115_1b) (E115_1 a1_f a1_c a0 p1 a1 s).1 (E115_1 a1_f a1_c a0 p1 a1 s).2 = some (X115_1 a1_f a1_c a0 p1 a1 o) :=
 loop_walk (E := E115_1 a1_f a1_c a0 p1 a1) (X := X115_1 a1_f a1_c a0 p1 a1) (by intro b; rcases b with b | b <;> (simp only [X115_1]; nofun)) (b115_1 a0 p1 a1 a1_f a1_c a1_h) s o h
theorem e115 (a0 : (List Int)) (a1 : (Int → Option Bool)) (a1_f : Nat) (a1_c : List AV) (a1_h : ((∀ S, mapO (lendPtr S) a1_c = some a1_c) ∧ (∀ n0 src R tm t c, tdL n0 src R tm t c a1_c = some a1_c)) ∧ ∀ y0 r, a1 y0 = some r → (∀ S, evCall T (evFL T) a1_f ([nI y0] ++ a1_c) S = some (.bool r, S)) ∧ (∀ S, evCallFz T (evFL T) a1_f ([nI y0] ++ a1_c) S = some (.bool r, S))) (r : Int) (h : m115 a0 a1 = some r) : evFL T 115 [.ts .imm 1 (a0.map encInt), .fn a1_f a1_c] [] = some (nI r, []) := by
 unfold m115 at h
 rw [evFL_at fn115 (Nat.le_of_ble_eq_true rfl) rfl (.inr rfl) ⟨rfl, rfl⟩]
 try simp -implicitDefEqProofs only [go_sem, i115, c115, a1_h.1]
 obtain ⟨o, q23, h⟩ := bnd_some h
 rcases o with ⟨⟩ | v25
 · replace h := selS_l h
   have w24 := e115_1 a0 (↑a0.length : Int) a1 a1_f a1_c a1_h 0 (.inl ()) q23
   simp only [E115_1, X115_1] at w24
   try simp -implicitDefEqProofs only [go_sem] at w24
   cases h
   simp -implicitDefEqProofs only [go_sem, i115, c115, a1_h.1, w24]
 · replace h := selS_r h
   have w24 := e115_1 a0 (↑a0.length : Int) a1 a1_f a1_c a1_h 0 (.inr v25) q23
   simp only [E115_1, X115_1] at w24
   try simp -implicitDefEqProofs only [go_sem] at w24
   cases h
   simp -implicitDefEqProofs only [go_sem, i115, c115, a1_h.1, w24]
theorem call109 (args : List AV) (S : St) : evCall T (evFL T) 109 args S = lendC (evFL T 109) S (lendAll S [[1], [0]] args) := evCall0 fn109 rfl rfl rfl args S
attribute [go_sem] call109
theorem e109 (a0 : (List Int)) (a1 : (Int → Option Bool)) (a1_f : Nat) (a1_c : List AV) (a1_h : ((∀ S, mapO (lendPtr S) a1_c = some a1_c) ∧ (∀ n0 src R tm t c, tdL n0 src R tm t c a1_c = some a1_c)) ∧ ∀ y0 r, a1 y0 = some r → (∀ S, evCall T (evFL T) a1_f ([nI y0] ++ a1_c) S = some (.bool r, S)) ∧ (∀ S, evCallFz T (evFL T) a1_f ([nI y0] ++ a1_c) S = some (.bool r, S))) (r : Bool) (h : m109 a0 a1 = some r) : evFL T 109 [.ts .imm 1 (a0.map encInt), .fn a1_f a1_c] [] = some (.bool r, []) := by
 unfold m109 at h
 rw [evFL_at fn109 (Nat.le_of_ble_eq_true rfl) rfl (.inr rfl) ⟨rfl, rfl⟩]
 obtain ⟨r3, q1, h⟩ := bnd_some h
 have w2 := e115 a0 a1 a1_f a1_c a1_h r3 q1
 try simp -implicitDefEqProofs only [go_sem] at w2
 cases h
 simp -implicitDefEqProofs only [go_sem, i109, c109, a1_h.1, w2]
theorem call66 (args : List AV) (S : St) : evCall T (evFL T) 66 args S = lendC (evFL T 66) S (lendAll S [[0]] args) := evCall0 fn66 rfl rfl rfl args S
attribute [go_sem] call66
theorem e66 (a0 : Int) (r : Bool) (h : m66 a0 = some r) : evFL T 66 [nI a0] [] = some (.bool r, []) := by
 unfold m66 at h
 rw [evFL_at fn66 (Nat.le_of_ble_eq_true rfl) rfl (.inr rfl) ⟨rfl, rfl⟩]
 obtain ⟨r3, q1, h⟩ := bnd_some h
 have w2 := e91 a0 1 65535 r3 q1
 try simp -implicitDefEqProofs only [go_sem] at w2
 cases h
 simp -implicitDefEqProofs only [go_sem, i66, c66, w2]
theorem call110 (args : List AV) (S : St) : evCall T (evFL T) 110 args S = lendC (evFL T 110) S (lendAll S [[0]] args) := evCall0 fn110 rfl rfl rfl args S
theorem callz110 (args : List AV) (S : St) : evCallFz T (evFL T) 110 args S = lendZ (evFL T 110) S [[0]] (lendAll S [[0]] args) := evCallFz0 fn110 rfl rfl rfl args S
attribute [go_sem] call110 callz110
theorem e110 (a0 : Int) (r : Bool) (h : m110 a0 = some r) : evFL T 110 [nI a0] [] = some (.bool r, []) := by
 unfold m110 at h
 rw [evFL_at fn110 (Nat.le_of_ble_eq_true rfl) rfl (.inr rfl) ⟨rfl, rfl⟩]
 obtain ⟨r3, q1, h⟩ := bnd_some h
 have w2 := e66 a0 r3 q1
 try simp -implicitDefEqProofs only [go_sem] at w2
 cases h
 simp -implicitDefEqProofs only [go_sem, i110, c110, w2]
theorem call98 (args : List AV) (S : St) : evCall T (evFL T) 98 args S = lendC (evFL T 98) S (lendAll S [[1]] args) := evCall0 fn98 rfl rfl rfl args S
attribute [go_sem] call98
noncomputable def X98_1 (a0 : (List Int)) (o : Bool) : Ex × Fr × St :=
 (.normal, frOf 11 (upd anyF 2 (.bool o)), [])
theorem e98_1 (a0 : (List Int)) (o : Bool) (h : m98_1 a0 = some o) : evCL T 0 k98_1 (frOf 11 (upd anyF 0 (.ts .imm 1 (a0.map encInt)))) [] = some (X98_1 a0 o) := by
 unfold m98_1 at h
 try simp -implicitDefEqProofs only [go_sem, X98_1, k98_1]
 cases b1 : (leI (↑a0.length : Int) 10 : Bool)
 · replace h := br_f b1 h
   cases h
   simp -implicitDefEqProofs only [go_sem, X98_1, k98_1, b1]
 · replace h := br_t b1 h
   obtain ⟨r4, q2, h⟩ := bnd_some h
   have w3 := e109 a0 (fun y0 => m110 y0) 110 [] ⟨⟨fun S => by simp -implicitDefEqProofs only [go_sem], fun _ _ _ _ _ _ => by simp -implicitDefEqProofs only [go_sem]⟩, fun y0 r h => ⟨fun S => by simp -implicitDefEqProofs only [go_sem, e110 y0 r h], fun S => by simp -implicitDefEqProofs only [go_sem, e110 y0 r h]⟩⟩ r4 q2
   try simp -implicitDefEqProofs only [go_sem] at w3
   cases h
   simp -implicitDefEqProofs only [go_sem, X98_1, k98_1, b1, w3]
theorem e98 (a0 : (List Int)) (r : Bool) (h : m98 a0 = some r) : evFL T 98 [.ts .imm 1 (a0.map encInt)] [] = some (.bool r, []) := by
 unfold m98 at h
 rw [evFL_at fn98 (Nat.le_of_ble_eq_true rfl) rfl (.inr rfl) ⟨rfl, rfl⟩]
 obtain ⟨v7, q5, h⟩ := bnd_some h
 have w6 := e98_1 a0 v7 q5
 simp only [X98_1] at w6
 try simp -implicitDefEqProofs only [go_sem] at w6
 cases h
 simp -implicitDefEqProofs only [go_sem, i98, c98, w6]
theorem call99 (args : List AV) (S : St) : evCall T (evFL T) 99 args S = lendC (evFL T 99) S (lendAll S [[0]] args) := evCall0 fn99 rfl rfl rfl args S
attribute [go_sem] call99
theorem e99 (a0 : Int) (r : Bool) (h : m99 a0 = some r) : evFL T 99 [nI a0] [] = some (.bool r, []) := by
 unfold m99 at h
 rw [evFL_at fn99 (Nat.le_of_ble_eq_true rfl) rfl (.inr rfl) ⟨rfl, rfl⟩]
 obtain ⟨r3, q1, h⟩ := bnd_some h
 have w2 := e91 a0 0 4294967295 r3 q1
 try simp -implicitDefEqProofs only [go_sem] at w2
 cases h
 simp -implicitDefEqProofs only [go_sem, i99, c99, w2]
theorem call100 (args : List AV) (S : St) : evCall T (evFL T) 100 args S = lendC (evFL T 100) S (lendAll S [[0]] args) := evCall0 fn100 rfl rfl rfl args S
attribute [go_sem] call100
theorem e100 (a0 : Int) (r : Bool) (h : m100 a0 = some r) : evFL T 100 [nI a0] [] = some (.bool r, []) := by
 unfold m100 at h
 rw [evFL_at fn100 (Nat.le_of_ble_eq_true rfl) rfl (.inr rfl) ⟨rfl, rfl⟩]
 obtain ⟨r3, q1, h⟩ := bnd_some h
 have w2 := e91 a0 0 1000000 r3 q1
 try simp -implicitDefEqProofs only [go_sem] at w2
 cases h
 simp -implicitDefEqProofs only [go_sem, i100, c100, w2]
theorem call101 (args : List AV) (S : St) : evCall T (evFL T) 101 args S = lendC (evFL T 101) S (lendAll S [[1]] args) := evCall0 fn101 rfl rfl rfl args S
attribute [go_sem] call101
noncomputable def X101_3 (a0 : (List Int)) (s22 : Int) (x24 : Int) (p1 : Int) (o : Bool) : Ex × Fr × St :=
 (.normal, frOf 32 (upd (upd (upd (upd (upd anyF 0 (.ts .imm 1 (a0.map encInt))) 5 (.ts .imm 1 (a0.map encInt))) 6 (nI p1)) 7 (nI s22)) 27 (.bool o)), [])
theorem e101_3 (a0 : (List Int)) (s22 : Int) (x24 : Int) (p1 : Int) (o : Bool) (h : m101_3 a0 s22 x24 = some o) : evCL T 0 k101_3 (frOf 32 (upd (upd (upd (upd (upd (upd anyF 0 (.ts .imm 1 (a0.map encInt))) 3 (nI s22)) 4 (nI x24)) 5 (.ts .imm 1 (a0.map encInt))) 6 (nI p1)) 7 (nI s22))) [] = some (X101_3 a0 s22 x24 p1 o) := by
 unfold m101_3 at h
 obtain ⟨r31, q29, h⟩ := bnd_some h
 have w30 := e100 x24 r31 q29
 try simp -implicitDefEqProofs only [go_sem] at w30
 try simp -implicitDefEqProofs only [go_sem, X101_3, k101_3, w30]
 cases b32 : (r31 : Bool)
 · replace h := br_f b32 h
   cases h
   simp -implicitDefEqProofs only [go_sem, X101_3, k101_3, w30, b32]
 · replace h := br_t b32 h
   try simp -implicitDefEqProofs only [go_sem, X101_3, k101_3, w30, b32]
   cases b33 : (ltI 0 s22 : Bool)
   · replace h := br_f b33 h
     cases h
     simp -implicitDefEqProofs only [go_sem, X101_3, k101_3, w30, b32, b33]
   · replace h := br_t b33 h
     obtain ⟨x34, q35, h⟩ := bnd_some h
     obtain ⟨g36, g37, g38⟩ := idx_row encInt q35
     try simp -implicitDefEqProofs only [go_sem] at g37 g38
     cases h
     simp -implicitDefEqProofs only [go_sem, X101_3, k101_3, w30, b32, b33, g36, g37, g38]
noncomputable def X101_1 (a0 : (List Int)) (p1 : Int) (o : (Unit ⊕ Unit)) : Ex × Fr × St :=
 match o with
 | .inl o => (.exit 0, frOf 32 (upd anyF 0 (.ts .imm 1 (a0.map encInt))), [])
 | .inr o => (.ret, frOf 32 (upd anyF 2 (.bool false)), [])
noncomputable def E101_1 (a0 : (List Int)) (p1 : Int) (s : Int) : Fr × St := (frOf 32 (upd (upd (upd (upd anyF 0 (.ts .imm 1 (a0.map encInt))) 5 (.ts .imm 1 (a0.map encInt))) 6 (nI p1)) 7 (nI s)), [])
theorem b101_1 (a0 : (List Int)) (p1 : Int) (s : Int) (o : Ctl Int (Unit ⊕ Unit)) (h : m101_1b a0 p1 s = some o) : evCL T 0 k101_1b (E101_1 a0 p1 s).1 (E101_1 a0 p1 s).2 = some (ctlX (E101_1 a0 p1) (X101_1 a0 p1) o) := by
 unfold m101_1b at h
 revert h
 generalize s = s22
 intro h
 try simp -implicitDefEqProofs only [go_sem, E101_1, X101_1, k101_1b]
 cases b23 : (ltI s22 p1 : Bool)
 · replace h := br_f b23 h
   cases h
   simp -implicitDefEqProofs only [go_sem, E101_1, X101_1, k101_1b, b23]
 · replace h := br_t b23 h
   obtain ⟨x24, q25, h⟩ := bnd_some h
   obtain ⟨g26, g27, g28⟩ := idx_row encInt q25
   try simp -implicitDefEqProofs only [go_sem] at g27 g28
   obtain ⟨v41, q39, h⟩ := bnd_some h
   have w40 := e101_3 a0 s22 x24 p1 v41 q39
   simp only [X101_3] at w40
   try simp -implicitDefEqProofs only [go_sem] at w40
   try simp -implicitDefEqProofs only [go_sem, E101_1, X101_1, k101_1b, b23, g26, g27, g28, w40]
   cases b42 : (v41 : Bool)
   · replace h := br_f b42 h
     cases h
     simp -implicitDefEqProofs only [go_sem, E101_1, X101_1, k101_1b, b23, g26, g27, g28, w40, b42]
   · replace h := br_t b42 h
     cases h
     simp -implicitDefEqProofs only [go_sem, E101_1, X101_1, k101_1b, b23, g26, g27, g28, w40, b42]
theorem e101_1 (a0 : (List Int)) (p1 : Int) (s : Int) (o : (Unit ⊕ Unit)) (h : loopP (m101_1b a0 p1) s = some o) : evCL T 0 (.loop k101_1b) (E101_1 a0 p1 s).1 (E101_1 a0 p1 s).2 = some (X101_1 a0 p1 o) :=
 loop_walk (E := E101_1 a0 p1) (X := X101_1 a0 p1) (by intro b; rcases b with b | b <;> (simp only [X101_1]; nofun)) (b101_1 a0 p1) s o h
theorem e101 (a0 : (List Int)) (r : Bool) (h : m101 a0 = some r) : evFL T 101 [.ts .imm 1 (a0.map encInt)] [] = some (.bool r, []) := by
 unfold m101 at h
 rw [evFL_at fn101 (Nat.le_of_ble_eq_true rfl) rfl (.inr rfl) ⟨rfl, rfl⟩]
 try simp -implicitDefEqProofs only [go_sem, i101, c101]
 obtain ⟨o, q43, h⟩ := bnd_some h
 rcases o with ⟨⟩ | ⟨⟩
 · replace h := selS_l h
   have w44 := e101_1 a0 (↑a0.length : Int) 0 (.inl ()) q43
   simp only [E101_1, X101_1] at w44
   try simp -implicitDefEqProofs only [go_sem] at w44
   cases h
   simp -implicitDefEqProofs only [go_sem, i101, c101, w44]
 · replace h := selS_r h
   have w44 := e101_1 a0 (↑a0.length : Int) 0 (.inr ()) q43
   simp only [E101_1, X101_1] at w44
   try simp -implicitDefEqProofs only [go_sem] at w44
   cases h
   simp -implicitDefEqProofs only [go_sem, i101, c101, w44]
theorem call77 (args : List AV) (S : St) : evCall T (evFL T) 77 args S = lendC (evFL T 77) S (lendAll S [[0, 1, 0, 0, 0, 1]] args) := evCall0 fn77 rfl rfl rfl args S
attribute [go_sem] call77
noncomputable def X77_1 (a0 : Attrs) (o : Bool) : Ex × Fr × St :=
 (.normal, frOf 31 (upd anyF 2 (.bool o)), [])
theorem e77_1 (a0 : Attrs) (o : Bool) (h : m77_1 a0 = some o) : evCL T 0 k77_1 (frOf 31 (upd anyF 1 (.ptr 0 0 0))) [some ⟨.box, 6, [(encAttrs .imm a0)]⟩] = some (X77_1 a0 o) := by
 unfold m77_1 at h
 obtain ⟨r3, q1, h⟩ := bnd_some h
 have w2 := e91 a0.origin 0 2 r3 q1
 try simp -implicitDefEqProofs only [go_sem] at w2
 try simp -implicitDefEqProofs only [go_sem, X77_1, k77_1, w2]
 cases b4 : (r3 : Bool)
 · replace h := br_f b4 h
   cases h
   simp -implicitDefEqProofs only [go_sem, X77_1, k77_1, w2, b4]
 · replace h := br_t b4 h
   obtain ⟨r7, q5, h⟩ := bnd_some h
   have w6 := e98 a0.path r7 q5
   try simp -implicitDefEqProofs only [go_sem] at w6
   try simp -implicitDefEqProofs only [go_sem, X77_1, k77_1, w2, b4, w6]
   cases b8 : (r7 : Bool)
   · replace h := br_f b8 h
     cases h
     simp -implicitDefEqProofs only [go_sem, X77_1, k77_1, w2, b4, w6, b8]
   · replace h := br_t b8 h
     obtain ⟨r11, q9, h⟩ := bnd_some h
     have w10 := e99 a0.next r11 q9
     try simp -implicitDefEqProofs only [go_sem] at w10
     try simp -implicitDefEqProofs only [go_sem, X77_1, k77_1, w2, b4, w6, b8, w10]
     cases b12 : (r11 : Bool)
     · replace h := br_f b12 h
       cases h
       simp -implicitDefEqProofs only [go_sem, X77_1, k77_1, w2, b4, w6, b8, w10, b12]
     · replace h := br_t b12 h
       obtain ⟨r15, q13, h⟩ := bnd_some h
       have w14 := e100 a0.med r15 q13
       try simp -implicitDefEqProofs only [go_sem] at w14
       try simp -implicitDefEqProofs only [go_sem, X77_1, k77_1, w2, b4, w6, b8, w10, b12, w14]
       cases b16 : (r15 : Bool)
       · replace h := br_f b16 h
         cases h
         simp -implicitDefEqProofs only [go_sem, X77_1, k77_1, w2, b4, w6, b8, w10, b12, w14, b16]
       · replace h := br_t b16 h
         obtain ⟨r19, q17, h⟩ := bnd_some h
         have w18 := e100 a0.pref r19 q17
         try simp -implicitDefEqProofs only [go_sem] at w18
         try simp -implicitDefEqProofs only [go_sem, X77_1, k77_1, w2, b4, w6, b8, w10, b12, w14, b16, w18]
         cases b20 : (r19 : Bool)
         · replace h := br_f b20 h
           cases h
           simp -implicitDefEqProofs only [go_sem, X77_1, k77_1, w2, b4, w6, b8, w10, b12, w14, b16, w18, b20]
         · replace h := br_t b20 h
           obtain ⟨r23, q21, h⟩ := bnd_some h
           have w22 := e101 a0.comms r23 q21
           try simp -implicitDefEqProofs only [go_sem] at w22
           cases h
           simp -implicitDefEqProofs only [go_sem, X77_1, k77_1, w2, b4, w6, b8, w10, b12, w14, b16, w18, b20, w22]
theorem e77 (a0 : Attrs) (r : Bool) (h : m77 a0 = some r) : evFL T 77 [.agg (encAttrs .imm a0)] [] = some (.bool r, []) := by
 unfold m77 at h
 rw [evFL_at fn77 (Nat.le_of_ble_eq_true rfl) rfl (.inr rfl) ⟨rfl, rfl⟩]
 obtain ⟨v26, q24, h⟩ := bnd_some h
 have w25 := e77_1 a0 v26 q24
 simp only [X77_1] at w25
 try simp -implicitDefEqProofs only [go_sem] at w25
 cases h
 simp -implicitDefEqProofs only [go_sem, i77, c77, w25]
theorem call50 (args : List AV) (S : St) : evCall T (evFL T) 50 args S = lendC (evFL T 50) S (lendAll S [[0, 0, 1, 0, 0, 0, 1]] args) := evCall0 fn50 rfl rfl rfl args S
theorem callz50 (args : List AV) (S : St) : evCallFz T (evFL T) 50 args S = lendZ (evFL T 50) S [[0]] (lendAll S [[0, 0, 1, 0, 0, 0, 1]] args) := evCallFz0 fn50 rfl rfl rfl args S
attribute [go_sem] call50 callz50
noncomputable def X50_1 (a0 : Offer) (o : Bool) : Ex × Fr × St :=
 (.normal, frOf 11 (upd anyF 2 (.bool o)), [])
theorem e50_1 (a0 : Offer) (o : Bool) (h : m50_1 a0 = some o) : evCL T 0 k50_1 (frOf 11 (upd anyF 1 (.ptr 0 0 0))) [some ⟨.box, 7, [(encOffer .imm a0)]⟩] = some (X50_1 a0 o) := by
 unfold m50_1 at h
 obtain ⟨r3, q1, h⟩ := bnd_some h
 have w2 := e76 a0.peer r3 q1
 try simp -implicitDefEqProofs only [go_sem] at w2
 try simp -implicitDefEqProofs only [go_sem, X50_1, k50_1, w2]
 cases b4 : (r3 : Bool)
 · replace h := br_f b4 h
   cases h
   simp -implicitDefEqProofs only [go_sem, X50_1, k50_1, w2, b4]
 · replace h := br_t b4 h
   obtain ⟨r7, q5, h⟩ := bnd_some h
   have w6 := e77 a0.attrs r7 q5
   try simp -implicitDefEqProofs only [go_sem] at w6
   cases h
   simp -implicitDefEqProofs only [go_sem, X50_1, k50_1, w2, b4, w6]
theorem e50 (a0 : Offer) (r : Bool) (h : m50 a0 = some r) : evFL T 50 [.agg (encOffer .imm a0)] [] = some (.bool r, []) := by
 unfold m50 at h
 rw [evFL_at fn50 (Nat.le_of_ble_eq_true rfl) rfl (.inr rfl) ⟨rfl, rfl⟩]
 obtain ⟨v10, q8, h⟩ := bnd_some h
 have w9 := e50_1 a0 v10 q8
 simp only [X50_1] at w9
 try simp -implicitDefEqProofs only [go_sem] at w9
 cases h
 simp -implicitDefEqProofs only [go_sem, i50, c50, w9]
theorem call15 (args : List AV) (S : St) : evCall T (evFL T) 15 args S = lendC (evFL T 15) S (lendAll S [[7]] args) := evCall0 fn15 rfl rfl rfl args S
attribute [go_sem] call15
noncomputable def X15_3 (a0 : (List Offer)) (s22 : Int) (p1 : Int) (x24 : Offer) (o : Bool) : Ex × Fr × St :=
 (.normal, frOf 31 (upd (upd (upd (upd (upd anyF 0 (.ts .imm 7 (a0.map (encOffer .imm)))) 5 (.ts .imm 7 (a0.map (encOffer .imm)))) 6 (nI p1)) 7 (nI s22)) 29 (.bool o)), [])
theorem e15_3 (a0 : (List Offer)) (s22 : Int) (p1 : Int) (x24 : Offer) (o : Bool) (h : m15_3 a0 s22 x24 = some o) : evCL T 0 k15_3 (frOf 31 (upd (upd (upd (upd (upd (upd anyF 0 (.ts .imm 7 (a0.map (encOffer .imm)))) 3 (nI s22)) 4 (.ptr 0 0 0)) 5 (.ts .imm 7 (a0.map (encOffer .imm)))) 6 (nI p1)) 7 (nI s22))) [some ⟨.box, 7, [(encOffer .imm x24)]⟩] = some (X15_3 a0 s22 p1 x24 o) := by
 unfold m15_3 at h
 obtain ⟨r31, q29, h⟩ := bnd_some h
 have w30 := e50 x24 r31 q29
 try simp -implicitDefEqProofs only [go_sem] at w30
 try simp -implicitDefEqProofs only [go_sem, X15_3, k15_3, w30]
 cases b32 : (r31 : Bool)
 · replace h := br_f b32 h
   cases h
   simp -implicitDefEqProofs only [go_sem, X15_3, k15_3, w30, b32]
 · replace h := br_t b32 h
   try simp -implicitDefEqProofs only [go_sem, X15_3, k15_3, w30, b32]
   cases b33 : (ltI 0 s22 : Bool)
   · replace h := br_f b33 h
     cases h
     simp -implicitDefEqProofs only [go_sem, X15_3, k15_3, w30, b32, b33]
   · replace h := br_t b33 h
     obtain ⟨x34, q35, h⟩ := bnd_some h
     obtain ⟨g36, g37, g38⟩ := idx_row (encOffer .imm) q35
     try simp -implicitDefEqProofs only [go_sem] at g37 g38
     cases h
     simp -implicitDefEqProofs only [go_sem, X15_3, k15_3, w30, b32, b33, g36, g37, g38]
noncomputable def X15_1 (a0 : (List Offer)) (p1 : Int) (o : (Unit ⊕ Unit)) : Ex × Fr × St :=
 match o with
 | .inl o => (.exit 0, frOf 31 (anyF), [])
 | .inr o => (.ret, frOf 31 (upd anyF 2 (.bool false)), [])
noncomputable def E15_1 (a0 : (List Offer)) (p1 : Int) (s : Int) : Fr × St := (frOf 31 (upd (upd (upd (upd anyF 0 (.ts .imm 7 (a0.map (encOffer .imm)))) 5 (.ts .imm 7 (a0.map (encOffer .imm)))) 6 (nI p1)) 7 (nI s)), [])
theorem b15_1 (a0 : (List Offer)) (p1 : Int) (s : Int) (o : Ctl Int (Unit ⊕ Unit)) (h : m15_1b a0 p1 s = some o) : evCL T 0 k15_1b (E15_1 a0 p1 s).1 (E15_1 a0 p1 s).2 = some (ctlX (E15_1 a0 p1) (X15_1 a0 p1) o) := by
 unfold m15_1b at h
 revert h
 generalize s = s22
 intro h
 try simp -implicitDefEqProofs only [go_sem, E15_1, X15_1, k15_1b]
 cases b23 : (ltI s22 p1 : Bool)
 · replace h := br_f b23 h
   cases h
   simp -implicitDefEqProofs only [go_sem, E15_1, X15_1, k15_1b, b23]
 · replace h := br_t b23 h
   obtain ⟨x24, q25, h⟩ := bnd_some h
   obtain ⟨g26, g27, g28⟩ := idx_row (encOffer .imm) q25
   try simp -implicitDefEqProofs only [go_sem] at g27 g28
   obtain ⟨v41, q39, h⟩ := bnd_some h
   have w40 := e15_3 a0 s22 p1 x24 v41 q39
   simp only [X15_3] at w40
   try simp -implicitDefEqProofs only [go_sem] at w40
   try simp -implicitDefEqProofs only [go_sem, E15_1, X15_1, k15_1b, b23, g26, g27, g28, w40]
   cases b42 : (v41 : Bool)
   · replace h := br_f b42 h
     cases h
     simp -implicitDefEqProofs only [go_sem, E15_1, X15_1, k15_1b, b23, g26, g27, g28, w40, b42]
   · replace h := br_t b42 h
     cases h
     simp -implicitDefEqProofs only [go_sem, E15_1, X15_1, k15_1b, b23, g26, g27, g28, w40, b42]
theorem e15_1 (a0 : (List Offer)) (p1 : Int) (s : Int) (o : (Unit ⊕ Unit)) (h : loopP (m15_1b a0 p1) s = some o) : evCL T 0 (.loop k15_1b) (E15_1 a0 p1 s).1 (E15_1 a0 p1 s).2 = some (X15_1 a0 p1 o) :=
 loop_walk (E := E15_1 a0 p1) (X := X15_1 a0 p1) (by intro b; rcases b with b | b <;> (simp only [X15_1]; nofun)) (b15_1 a0 p1) s o h
theorem e15 (a0 : (List Offer)) (r : Bool) (h : m15 a0 = some r) : evFL T 15 [.ts .imm 7 (a0.map (encOffer .imm))] [] = some (.bool r, []) := by
 unfold m15 at h
 rw [evFL_at fn15 (Nat.le_of_ble_eq_true rfl) rfl (.inr rfl) ⟨rfl, rfl⟩]
 try simp -implicitDefEqProofs only [go_sem, i15, c15]
 obtain ⟨o, q43, h⟩ := bnd_some h
 rcases o with ⟨⟩ | ⟨⟩
 · replace h := selS_l h
   have w44 := e15_1 a0 (↑a0.length : Int) 0 (.inl ()) q43
   simp only [E15_1, X15_1] at w44
   try simp -implicitDefEqProofs only [go_sem] at w44
   cases h
   simp -implicitDefEqProofs only [go_sem, i15, c15, w44]
 · replace h := selS_r h
   have w44 := e15_1 a0 (↑a0.length : Int) 0 (.inr ()) q43
   simp only [E15_1, X15_1] at w44
   try simp -implicitDefEqProofs only [go_sem] at w44
   cases h
   simp -implicitDefEqProofs only [go_sem, i15, c15, w44]
theorem call103 (args : List AV) (S : St) : evCall T (evFL T) 103 args S = lendC (evFL T 103) S (lendAll S [[1]] args) := evCall0 fn103 rfl rfl rfl args S
theorem callz103 (args : List AV) (S : St) : evCallFz T (evFL T) 103 args S = lendZ (evFL T 103) S [[1]] (lendAll S [[1]] args) := evCallFz0 fn103 rfl rfl rfl args S
attribute [go_sem] call103 callz103
theorem e103 (a0 : (List Int)) (r : (List Int)) (h : m103 a0 = some r) : evFL T 103 [.ts .imm 1 (a0.map encInt)] [] = some (.sl 0 0 r.length, [some ⟨.arr, 1, r.map encInt⟩]) := by
 unfold m103 at h
 rw [evFL_at fn103 (Nat.le_of_ble_eq_true rfl) rfl (.inr rfl) ⟨rfl, rfl⟩]
 cases a0 with
 | nil =>
     obtain ⟨g1, h⟩ := ck_some h
     try simp -implicitDefEqProofs only [go_sem] at g1
     cases h
     simp -implicitDefEqProofs only [go_sem, i103, c103, g1]
 | cons y ys =>
     obtain ⟨g1, h⟩ := ck_some h
     try simp -implicitDefEqProofs only [go_sem] at g1
     cases h
     simp -implicitDefEqProofs only [go_sem, i103, c103, g1]
theorem call86 (args : List AV) (S : St) : evCall T (evFL T) 86 args S = lendC (evFL T 86) S (lendAll S [[0, 1, 0, 0, 0, 1]] args) := evCall0 fn86 rfl rfl rfl args S
theorem callz86 (args : List AV) (S : St) : evCallFz T (evFL T) 86 args S = lendZ (evFL T 86) S [[0, 1, 0, 0, 0, 1]] (lendAll S [[0, 1, 0, 0, 0, 1]] args) := evCallFz0 fn86 rfl rfl rfl args S
attribute [go_sem] call86 callz86
theorem e86 (a0 : Attrs) (r : Attrs) (h : m86 a0 = some r) : evFL T 86 [.agg (encAttrs .imm a0)] [] = some (.agg [nI r.origin, .sl 0 0 r.path.length, nI r.next, nI r.med, nI r.pref, .sl 1 0 r.comms.length], [some ⟨.arr, 1, r.path.map encInt⟩, some ⟨.arr, 1, r.comms.map encInt⟩]) := by
 unfold m86 at h
 rw [evFL_at fn86 (Nat.le_of_ble_eq_true rfl) rfl (.inr rfl) ⟨rfl, rfl⟩]
 obtain ⟨r3, q1, h⟩ := bnd_some h
 have w2 := e103 a0.path r3 q1
 try simp -implicitDefEqProofs only [go_sem] at w2
 obtain ⟨r6, q4, h⟩ := bnd_some h
 have w5 := e103 a0.comms r6 q4
 try simp -implicitDefEqProofs only [go_sem] at w5
 cases h
 simp -implicitDefEqProofs only [go_sem, i86, c86, w2, w5]
theorem call59 (args : List AV) (S : St) : evCall T (evFL T) 59 args S = lendC (evFL T 59) S (lendAll S [[7]] args) := evCall0 fn59 rfl rfl rfl args S
attribute [go_sem] call59
noncomputable def X59_1 (a0 : (List Offer)) (p1 : Int) (o : (List Offer)) : Ex × Fr × St :=
 (.exit 0, frOf 24 (upd anyF 3 (.sl 0 0 o.length)), [some ⟨.arr, 7, o.map (encOffer .own)⟩])
noncomputable def E59_1 (a0 : (List Offer)) (p1 : Int) (s : (Int × List Offer)) : Fr × St := (frOf 24 (upd (upd (upd (upd anyF 3 (.sl 0 0 s.2.length)) 7 (.ts .imm 7 (a0.map (encOffer .imm)))) 8 (nI p1)) 9 (nI s.1)), [some ⟨.arr, 7, s.2.map (encOffer .own)⟩])
theorem b59_1 (a0 : (List Offer)) (p1 : Int) (s : (Int × List Offer)) (o : Ctl (Int × List Offer) (List Offer)) (h : m59_1b a0 p1 s = some o) : evCL T 0 k59_1b (E59_1 a0 p1 s).1 (E59_1 a0 p1 s).2 = some (ctlX (E59_1 a0 p1) (X59_1 a0 p1) o) := by
 unfold m59_1b at h
 obtain ⟨s11, s12⟩ := s
 replace h := sel2_some h
 try simp -implicitDefEqProofs only [go_sem, E59_1, X59_1, k59_1b]
 cases b13 : (ltI s11 p1 : Bool)
 · replace h := br_f b13 h
   cases h
   simp -implicitDefEqProofs only [go_sem, E59_1, X59_1, k59_1b, b13]
 · replace h := br_t b13 h
   obtain ⟨x14, q15, h⟩ := bnd_some h
   obtain ⟨g16, g17, g18⟩ := idx_row (encOffer .imm) q15
   try simp -implicitDefEqProofs only [go_sem] at g17 g18
   obtain ⟨r21, q19, h⟩ := bnd_some h
   have w20 := e86 x14.attrs r21 q19
   try simp -implicitDefEqProofs only [go_sem] at w20
   obtain ⟨g22, h⟩ := ck_some h
   try simp -implicitDefEqProofs only [go_sem] at g22
   cases h
   simp -implicitDefEqProofs only [go_sem, E59_1, X59_1, k59_1b, b13, g16, g17, g18, w20, g22]
theorem e59_1 (a0 : (List Offer)) (p1 : Int) (s : (Int × List Offer)) (o : (List Offer)) (h : loopP (m59_1b a0 p1) s = some o) : evCL T 0 (.loop k59_1b) (E59_1 a0 p1 s).1 (E59_1 a0 p1 s).2 = some (X59_1 a0 p1 o) :=
 loop_walk (E := E59_1 a0 p1) (X := X59_1 a0 p1) (by intro b; (simp only [X59_1]; nofun)) (b59_1 a0 p1) s o h
theorem e59 (a0 : (List Offer)) (r : (List Offer)) (h : m59 a0 = some r) : evFL T 59 [.ts .imm 7 (a0.map (encOffer .imm))] [] = some (.sl 0 0 r.length, [some ⟨.arr, 7, r.map (encOffer .own)⟩]) := by
 unfold m59 at h
 rw [evFL_at fn59 (Nat.le_of_ble_eq_true rfl) rfl (.inr rfl) ⟨rfl, rfl⟩]
 obtain ⟨v25, q23, h⟩ := bnd_some h
 have w24 := e59_1 a0 (↑a0.length : Int) (0, []) v25 q23
 simp only [E59_1, X59_1] at w24
 try simp -implicitDefEqProofs only [go_sem] at w24
 cases h
 simp -implicitDefEqProofs only [go_sem, i59, c59, w24]
theorem call84 (args : List AV) (S : St) : evCall T (evFL T) 84 args S = lendC (evFL T 84) S (lendAll S [[7], [0], [0]] args) := evCall0 fn84 rfl rfl rfl args S
attribute [go_sem] call84
noncomputable def X84_3 (a2_f : Nat) (a2_c : List AV) (a0 : (List Offer)) (a1 : Int) (p1 : Int) (s19 : Int) (s20 : Int) (p30 : Int) (p31 : Bool) (a2 : (Offer → Int → Option Int)) (o : (Int × Int)) : Ex × Fr × St :=
 (.normal, frOf 49 (upd (upd (upd (upd (upd (upd anyF 0 (.ts .imm 7 (a0.map (encOffer .imm)))) 1 (nI a1)) 2 (.fn a2_f a2_c)) 8 (nI p1)) 9 (nI o.1)) 10 (nI o.2)), [])
theorem e84_3 (a0 : (List Offer)) (a1 : Int) (p1 : Int) (s19 : Int) (s20 : Int) (p30 : Int) (p31 : Bool) (a2 : (Offer → Int → Option Int)) (a2_f : Nat) (a2_c : List AV) (a2_h : ((∀ S, mapO (lendPtr S) a2_c = some a2_c) ∧ (∀ n0 src R tm t c, tdL n0 src R tm t c a2_c = some a2_c)) ∧ ∀ y0 y1 r, a2 y0 y1 = some r → (∀ S, evCall T (evFL T) a2_f ([.agg (encOffer .imm y0), nI y1] ++ a2_c) S = some (nI r, S)) ∧ (∀ S, evCallFz T (evFL T) a2_f ([.agg (encOffer .imm y0), nI y1] ++ a2_c) S = some (nI r, S))) (o : (Int × Int)) (h : m84_3 s19 s20 p30 p31 = some o) : evCL T 0 k84_3 (frOf 49 (upd (upd (upd (upd (upd (upd (upd (upd anyF 0 (.ts .imm 7 (a0.map (encOffer .imm)))) 1 (nI a1)) 2 (.fn a2_f a2_c)) 8 (nI p1)) 9 (nI s19)) 10 (nI s20)) 11 (nI p30)) 31 (.bool p31))) [] = some (X84_3 a2_f a2_c a0 a1 p1 s19 s20 p30 p31 a2 o) := by
 unfold m84_3 at h
 try simp -implicitDefEqProofs only [go_sem, X84_3, k84_3, a2_h.1]
 cases b32 : (p31 : Bool)
 · replace h := br_f b32 h
   cases h
   simp -implicitDefEqProofs only [go_sem, X84_3, k84_3, a2_h.1, b32]
 · replace h := br_t b32 h
   cases h
   simp -implicitDefEqProofs only [go_sem, X84_3, k84_3, a2_h.1, b32]
noncomputable def X84_1 (a2_f : Nat) (a2_c : List AV) (a0 : (List Offer)) (a1 : Int) (p1 : Int) (a2 : (Offer → Int → Option Int)) (o : Int) : Ex × Fr × St :=
 (.exit 0, frOf 49 (upd (upd (upd (upd (upd anyF 0 (.ts .imm 7 (a0.map (encOffer .imm)))) 1 (nI a1)) 2 (.fn a2_f a2_c)) 8 (nI p1)) 9 (nI o)), [])
noncomputable def E84_1 (a2_f : Nat) (a2_c : List AV) (a0 : (List Offer)) (a1 : Int) (p1 : Int) (a2 : (Offer → Int → Option Int)) (s : (Int × Int)) : Fr × St := (frOf 49 (upd (upd (upd (upd (upd (upd anyF 0 (.ts .imm 7 (a0.map (encOffer .imm)))) 1 (nI a1)) 2 (.fn a2_f a2_c)) 8 (nI p1)) 9 (nI s.1)) 10 (nI s.2)), [])
theorem b84_1 (a0 : (List Offer)) (a1 : Int) (p1 : Int) (a2 : (Offer → Int → Option Int)) (a2_f : Nat) (a2_c : List AV) (a2_h : ((∀ S, mapO (lendPtr S) a2_c = some a2_c) ∧ (∀ n0 src R tm t c, tdL n0 src R tm t c a2_c = some a2_c)) ∧ ∀ y0 y1 r, a2 y0 y1 = some r → (∀ S, evCall T (evFL T) a2_f ([.agg (encOffer .imm y0), nI y1] ++ a2_c) S = some (nI r, S)) ∧ (∀ S, evCallFz T (evFL T) a2_f ([.agg (encOffer .imm y0), nI y1] ++ a2_c) S = some (nI r, S))) (s : (Int × Int)) (o : Ctl (Int × Int) Int) (h : m84_1b a0 a1 a2 s = some o) : evCL T 0 k84_1b (E84_1 a2_f a2_c a0 a1 p1 a2 s).1 (E84_1 a2_f a2_c a0 a1 p1 a2 s).2 = some (ctlX (E84_1 a2_f a2_c a0 a1 p1 a2) (X84_1 a2_f a2_c a0 a1 p1 a2) o) := by
 unfold m84_1b at h
 obtain ⟨s19, s20⟩ := s
 replace h := sel2_some h
 try simp -implicitDefEqProofs only [go_sem, E84_1, X84_1, k84_1b, a2_h.1]
 cases b21 : (ltI s19 s20 : Bool)
 · replace h := br_f b21 h
   cases h
   simp -implicitDefEqProofs only [go_sem, E84_1, X84_1, k84_1b, a2_h.1, b21]
 · replace h := br_t b21 h
   obtain ⟨x22, q23, h⟩ := bnd_some h
   obtain ⟨g24, g25, g26⟩ := idx_row (encOffer .imm) q23
   try simp -implicitDefEqProofs only [go_sem] at g25 g26
   obtain ⟨r27, q28, h⟩ := bnd_some h
   have w29 := a2_h.2 x22 a1 r27 q28
   try simp -implicitDefEqProofs only [go_sem] at w29
   obtain ⟨⟨v35, v36⟩, q33, h⟩ := bnd_some h
   replace h := sel2_some h
   have w34 := e84_3 a0 a1 p1 s19 s20 (wcv .i64 (wshr .u64 (wcv .u64 (wadd .i64 s19 s20)) 1)) (ltI r27 0) a2 a2_f a2_c a2_h (v35, v36) q33
   simp only [X84_3] at w34
   try simp -implicitDefEqProofs only [go_sem] at w34
   cases h
   simp -implicitDefEqProofs only [go_sem, E84_1, X84_1, k84_1b, a2_h.1, b21, g24, g25, g26, w29.1, w29.2, w34]
theorem e84_1 (a0 : (List Offer)) (a1 : Int) (p1 : Int) (a2 : (Offer → Int → Option Int)) (a2_f : Nat) (a2_c : List AV) (a2_h : ((∀ S, mapO (lendPtr S) a2_c = some a2_c) ∧ (∀ n0 src R tm t c, tdL n0 src R tm t c a2_c = some a2_c)) ∧ ∀ y0 y1 r, a2 y0 y1 = some r → (∀ S, evCall T (evFL T) a2_f ([.agg (encOffer .imm y0), nI y1] ++ a2_c) S = some (nI r, S)) ∧ (∀ S, evCallFz T (evFL T) a2_f ([.agg (encOffer .imm y0), nI y1] ++ a2_c) S = some (nI r, S))) (s : (Int × Int)) (o : Int) (h : loopP (m84_1b a0 a1 a2) s = some o) : evCL T 0 (.loop k84_1b) (E84_1 a2_f a2_c a0 a1 p1 a2 s).1 (E84_1 a2_f a2_c a0 a1 p1 a2 s).2 = some (X84_1 a2_f a2_c a0 a1 p1 a2 o) :=
 loop_walk (E := E84_1 a2_f a2_c a0 a1 p1 a2) (X := X84_1 a2_f a2_c a0 a1 p1 a2) (by intro b; (simp only [X84_1]; nofun)) (b84_1 a0 a1 p1 a2 a2_f a2_c a2_h) s o h
noncomputable def X84_4 (a2_f : Nat) (a2_c : List AV) (a0 : (List Offer)) (a1 : Int) (p40 : Int) (v39 : Int) (a2 : (Offer → Int → Option Int)) (o : Bool) : Ex × Fr × St :=
 (.normal, frOf 49 (upd (upd anyF 6 (nI v39)) 7 (.bool o)), [])
theorem e84_4 (a0 : (List Offer)) (a1 : Int) (p40 : Int) (v39 : Int) (a2 : (Offer → Int → Option Int)) (a2_f : Nat) (a2_c : List AV) (a2_h : ((∀ S, mapO (lendPtr S) a2_c = some a2_c) ∧ (∀ n0 src R tm t c, tdL n0 src R tm t c a2_c = some a2_c)) ∧ ∀ y0 y1 r, a2 y0 y1 = some r → (∀ S, evCall T (evFL T) a2_f ([.agg (encOffer .imm y0), nI y1] ++ a2_c) S = some (nI r, S)) ∧ (∀ S, evCallFz T (evFL T) a2_f ([.agg (encOffer .imm y0), nI y1] ++ a2_c) S = some (nI r, S))) (o : Bool) (h : m84_4 a0 a1 p40 v39 a2 = some o) : evCL T 0 k84_4 (frOf 49 (upd (upd (upd (upd (upd anyF 0 (.ts .imm 7 (a0.map (encOffer .imm)))) 1 (nI a1)) 2 (.fn a2_f a2_c)) 8 (nI p40)) 9 (nI v39))) [] = some (X84_4 a2_f a2_c a0 a1 p40 v39 a2 o) := by
 unfold m84_4 at h
 try simp -implicitDefEqProofs only [go_sem, X84_4, k84_4, a2_h.1]
 cases b41 : (ltI v39 p40 : Bool)
 · replace h := br_f b41 h
   cases h
   simp -implicitDefEqProofs only [go_sem, X84_4, k84_4, a2_h.1, b41]
 · replace h := br_t b41 h
   obtain ⟨x42, q43, h⟩ := bnd_some h
   obtain ⟨g44, g45, g46⟩ := idx_row (encOffer .imm) q43
   try simp -implicitDefEqProofs only [go_sem] at g45 g46
   obtain ⟨r47, q48, h⟩ := bnd_some h
   have w49 := a2_h.2 x42 a1 r47 q48
   try simp -implicitDefEqProofs only [go_sem] at w49
   cases h
   simp -implicitDefEqProofs only [go_sem, X84_4, k84_4, a2_h.1, b41, g44, g45, g46, w49.1, w49.2]
theorem e84 (a0 : (List Offer)) (a1 : Int) (a2 : (Offer → Int → Option Int)) (a2_f : Nat) (a2_c : List AV) (a2_h : ((∀ S, mapO (lendPtr S) a2_c = some a2_c) ∧ (∀ n0 src R tm t c, tdL n0 src R tm t c a2_c = some a2_c)) ∧ ∀ y0 y1 r, a2 y0 y1 = some r → (∀ S, evCall T (evFL T) a2_f ([.agg (encOffer .imm y0), nI y1] ++ a2_c) S = some (nI r, S)) ∧ (∀ S, evCallFz T (evFL T) a2_f ([.agg (encOffer .imm y0), nI y1] ++ a2_c) S = some (nI r, S))) (r : (Int × Bool)) (h : m84 a0 a1 a2 = some r) : evFL T 84 [.ts .imm 7 (a0.map (encOffer .imm)), nI a1, .fn a2_f a2_c] [] = some (.tup [nI r.1, .bool r.2], []) := by
 unfold m84 at h
 rw [evFL_at fn84 (Nat.le_of_ble_eq_true rfl) rfl (.inr rfl) ⟨rfl, rfl⟩]
 obtain ⟨v39, q37, h⟩ := bnd_some h
 have w38 := e84_1 a0 a1 (↑a0.length : Int) a2 a2_f a2_c a2_h (0, (↑a0.length : Int)) v39 q37
 simp only [E84_1, X84_1] at w38
 try simp -implicitDefEqProofs only [go_sem] at w38
 obtain ⟨v52, q50, h⟩ := bnd_some h
 have w51 := e84_4 a0 a1 (↑a0.length : Int) v39 a2 a2_f a2_c a2_h v52 q50
 simp only [X84_4] at w51
 try simp -implicitDefEqProofs only [go_sem] at w51
 cases h
 simp -implicitDefEqProofs only [go_sem, i84, c84, a2_h.1, w38, w51]
theorem call102 (args : List AV) (S : St) : evCall T (evFL T) 102 args S = lendC (evFL T 102) S (lendAll S [[0]] args) := evCall0 fn102 rfl rfl rfl args S
attribute [go_sem] call102
theorem e102 (a0 : Int) (r : Bool) (h : m102 a0 = some r) : evFL T 102 [nI a0] [] = some (.bool r, []) := by
 unfold m102 at h
 rw [evFL_at fn102 (Nat.le_of_ble_eq_true rfl) rfl (.inr rfl) ⟨rfl, rfl⟩]
 cases h
 simp -implicitDefEqProofs only [go_sem, i102, c102]
theorem call82 (args : List AV) (S : St) : evCall T (evFL T) 82 args S = lendC (evFL T 82) S (lendAll S [[0], [0]] args) := evCall0 fn82 rfl rfl rfl args S
attribute [go_sem] call82
theorem e82 (a0 : Int) (a1 : Int) (r : Int) (h : m82 a0 a1 = some r) : evFL T 82 [nI a0, nI a1] [] = some (nI r, []) := by
 unfold m82 at h
 rw [evFL_at fn82 (Nat.le_of_ble_eq_true rfl) rfl (.inr rfl) ⟨rfl, rfl⟩]
 obtain ⟨r3, q1, h⟩ := bnd_some h
 have w2 := e102 a0 r3 q1
 try simp -implicitDefEqProofs only [go_sem] at w2
 obtain ⟨r6, q4, h⟩ := bnd_some h
 have w5 := e102 a1 r6 q4
 try simp -implicitDefEqProofs only [go_sem] at w5
 try simp -implicitDefEqProofs only [go_sem, i82, c82, w2, w5]
 cases b7 : (r3 : Bool)
 · replace h := br_f b7 h
   try simp -implicitDefEqProofs only [go_sem, i82, c82, w2, w5, b7]
   cases b9 : (r6 : Bool)
   · replace h := br_f b9 h
     try simp -implicitDefEqProofs only [go_sem, i82, c82, w2, w5, b7, b9]
     cases b10 : (ltI a0 a1 : Bool)
     · replace h := br_f b10 h
       try simp -implicitDefEqProofs only [go_sem, i82, c82, w2, w5, b7, b9, b10]
       cases b11 : (ltI a1 a0 : Bool)
       · replace h := br_f b11 h
         cases h
         simp -implicitDefEqProofs only [go_sem, i82, c82, w2, w5, b7, b9, b10, b11]
       · replace h := br_t b11 h
         cases h
         simp -implicitDefEqProofs only [go_sem, i82, c82, w2, w5, b7, b9, b10, b11]
     · replace h := br_t b10 h
       cases h
       simp -implicitDefEqProofs only [go_sem, i82, c82, w2, w5, b7, b9, b10]
   · replace h := br_t b9 h
     cases h
     simp -implicitDefEqProofs only [go_sem, i82, c82, w2, w5, b7, b9]
 · replace h := br_t b7 h
   try simp -implicitDefEqProofs only [go_sem, i82, c82, w2, w5, b7]
   cases b8 : (r6 : Bool)
   · replace h := br_f b8 h
     cases h
     simp -implicitDefEqProofs only [go_sem, i82, c82, w2, w5, b7, b8]
   · replace h := br_t b8 h
     cases h
     simp -implicitDefEqProofs only [go_sem, i82, c82, w2, w5, b7, b8]
theorem call85 (args : List AV) (S : St) : evCall T (evFL T) 85 args S = lendC (evFL T 85) S (lendAll S [[0, 0, 1, 0, 0, 0, 1], [0]] args) := evCall0 fn85 rfl rfl rfl args S
theorem callz85 (args : List AV) (S : St) : evCallFz T (evFL T) 85 args S = lendZ (evFL T 85) S [[0]] (lendAll S [[0, 0, 1, 0, 0, 0, 1], [0]] args) := evCallFz0 fn85 rfl rfl rfl args S
attribute [go_sem] call85 callz85
theorem e85 (a0 : Offer) (a1 : Int) (r : Int) (h : m85 a0 a1 = some r) : evFL T 85 [.agg [nI a0.peer, nI a0.attrs.origin, .ts .imm 1 (a0.attrs.path.map encInt), nI a0.attrs.next, nI a0.attrs.med, nI a0.attrs.pref, .ts .imm 1 (a0.attrs.comms.map encInt)], nI a1] [] = some (nI r, []) := by
 unfold m85 at h
 rw [evFL_at fn85 (Nat.le_of_ble_eq_true rfl) rfl (.inr rfl) ⟨rfl, rfl⟩]
 obtain ⟨r3, q1, h⟩ := bnd_some h
 have w2 := e82 a0.peer a1 r3 q1
 try simp -implicitDefEqProofs only [go_sem] at w2
 cases h
 simp -implicitDefEqProofs only [go_sem, i85, c85, w2]
theorem call57 (args : List AV) (S : St) : evCall T (evFL T) 57 args S = lendC (evFL T 57) S (lendAll S [[7], [0]] args) := evCall0 fn57 rfl rfl rfl args S
attribute [go_sem] call57
theorem e57 (a0 : (List Offer)) (a1 : Int) (r : (Int × Bool)) (h : m57 a0 a1 = some r) : evFL T 57 [.ts .imm 7 (a0.map (encOffer .imm)), nI a1] [] = some (.tup [nI r.1, .bool r.2], []) := by
 unfold m57 at h
 rw [evFL_at fn57 (Nat.le_of_ble_eq_true rfl) rfl (.inr rfl) ⟨rfl, rfl⟩]
 obtain ⟨⟨r3, r4⟩, q1, h⟩ := bnd_some h
 replace h := sel2_some h
 have w2 := e84 a0 a1 (fun y0 y1 => m85 y0 y1) 85 [] ⟨⟨fun S => by simp -implicitDefEqProofs only [go_sem], fun _ _ _ _ _ _ => by simp -implicitDefEqProofs only [go_sem]⟩, fun y0 y1 r h => ⟨fun S => by simp -implicitDefEqProofs only [go_sem, e85 y0 y1 r h], fun S => by simp -implicitDefEqProofs only [go_sem, e85 y0 y1 r h]⟩⟩ (r3, r4) q1
 try simp -implicitDefEqProofs only [go_sem] at w2
 cases h
 simp -implicitDefEqProofs only [go_sem, i57, c57, w2]
theorem call88 (args : List AV) (S : St) : evCall T (evFL T) 88 args S = evIns T 25 args S := evCallI fn88 rfl args S
attribute [go_sem] call88
theorem call61 (args : List AV) (S : St) : evCall T (evFL T) 61 args S = lendC (evFL T 61) S (lendAll S [[7], [0, 0, 1, 0, 0, 0, 1]] args) := evCall0 fn61 rfl rfl rfl args S
attribute [go_sem] call61
theorem e61 (a0 : (List Offer)) (a1 : Offer) (r : (List Offer)) (h : m61 a0 a1 = some r) : evFL T 61 [.ts .imm 7 (a0.map (encOffer .imm)), .agg (encOffer .imm a1)] [] = some (.sl 0 0 r.length, [some ⟨.arr, 7, r.map (encOffer .own)⟩]) := by
 unfold m61 at h
 rw [evFL_at fn61 (Nat.le_of_ble_eq_true rfl) rfl (.inr rfl) ⟨rfl, rfl⟩]
 obtain ⟨r3, q1, h⟩ := bnd_some h
 have w2 := e59 a0 r3 q1
 try simp -implicitDefEqProofs only [go_sem] at w2
 obtain ⟨r6, q4, h⟩ := bnd_some h
 have w5 := e86 a1.attrs r6 q4
 try simp -implicitDefEqProofs only [go_sem] at w5
 obtain ⟨⟨r9, r10⟩, q7, h⟩ := bnd_some h
 replace h := sel2_some h
 have w8 := e57 r3 a1.peer (r9, r10) q7
 try simp -implicitDefEqProofs only [go_sem] at w8
 try simp -implicitDefEqProofs only [go_sem, i61, c61, w2, w5, w8]
 cases b11 : (r10 : Bool)
 · replace h := br_f b11 h
   obtain ⟨v17, q18, h⟩ := bnd_some h
   obtain ⟨g19, g20, g21, g22⟩ := ins_row (encOffer .own) q18
   try simp -implicitDefEqProofs only [go_sem, g20] at g19
   try simp -implicitDefEqProofs only [go_sem, g20] at g20
   try simp -implicitDefEqProofs only [go_sem, g20] at g21
   cases h
   simp -implicitDefEqProofs only [go_sem, i61, c61, w2, w5, w8, b11, g19, g20, g21, g22]
 · replace h := br_t b11 h
   obtain ⟨x12, q13, h⟩ := bnd_some h
   obtain ⟨g14, g15, g16⟩ := idx_row (encOffer .own) q13
   try simp -implicitDefEqProofs only [go_sem] at g15 g16
   cases h
   simp -implicitDefEqProofs only [go_sem, i61, c61, w2, w5, w8, b11, g14, g15, g16]
theorem call27 (args : List AV) (S : St) : evCall T (evFL T) 27 args S = lendC (evFL T 27) S (lendAll S [[7], [0, 0, 1, 0, 0, 0, 1]] args) := evCall0 fn27 rfl rfl rfl args S
theorem callz27 (args : List AV) (S : St) : evCallFz T (evFL T) 27 args S = lendZ (evFL T 27) S [[7], [0]] (lendAll S [[7], [0, 0, 1, 0, 0, 0, 1]] args) := evCallFz0 fn27 rfl rfl rfl args S
theorem calls27 (args : List AV) (S : St) : evCall (T.at true) (evFL T) 27 args S = lendC (evFL T 27) S (lendAll S [[7], [0, 0, 1, 0, 0, 0, 1]] args) := evCall0 fns27 rfl rfl rfl args S
theorem callsz27 (args : List AV) (S : St) : evCallFz (T.at true) (evFL T) 27 args S = lendZ (evFL T 27) S [[7], [0]] (lendAll S [[7], [0, 0, 1, 0, 0, 0, 1]] args) := evCallFz0 fns27 rfl rfl rfl args S
attribute [go_sem] call27 callz27 calls27 callsz27
noncomputable def X27_1 (a0 : (List Offer)) (a1 : Offer) (o : Bool) : Ex × Fr × St :=
 (.normal, frOf 17 (upd (upd (upd anyF 0 (.ts .imm 7 (a0.map (encOffer .imm)))) 3 (.ptr 0 0 0)) 13 (.bool o)), [some ⟨.box, 7, [(encOffer .imm a1)]⟩])
theorem e27_1 (a0 : (List Offer)) (a1 : Offer) (o : Bool) (h : m27_1 a0 a1 = some o) : evCL T 0 k27_1 (frOf 17 (upd (upd anyF 0 (.ts .imm 7 (a0.map (encOffer .imm)))) 3 (.ptr 0 0 0))) [some ⟨.box, 7, [(encOffer .imm a1)]⟩] = some (X27_1 a0 a1 o) := by
 unfold m27_1 at h
 obtain ⟨r3, q1, h⟩ := bnd_some h
 have w2 := e15 a0 r3 q1
 try simp -implicitDefEqProofs only [go_sem] at w2
 try simp -implicitDefEqProofs only [go_sem, X27_1, k27_1, w2]
 cases b4 : (r3 : Bool)
 · replace h := br_f b4 h
   cases h
   simp -implicitDefEqProofs only [go_sem, X27_1, k27_1, w2, b4]
 · replace h := br_t b4 h
   obtain ⟨r7, q5, h⟩ := bnd_some h
   have w6 := e50 a1 r7 q5
   try simp -implicitDefEqProofs only [go_sem] at w6
   cases h
   simp -implicitDefEqProofs only [go_sem, X27_1, k27_1, w2, b4, w6]
theorem e27 (a0 : (List Offer)) (a1 : Offer) (r : ((List Offer) × Bool)) (h : m27 a0 a1 = some r) : evFL T 27 [.ts .imm 7 (a0.map (encOffer .imm)), .agg (encOffer .imm a1)] [] = some (.tup [.sl 0 0 r.1.length, .bool r.2], [some ⟨.arr, 7, r.1.map (encOffer .own)⟩]) := by
 unfold m27 at h
 rw [evFL_at fn27 (Nat.le_of_ble_eq_true rfl) rfl (.inr rfl) ⟨rfl, rfl⟩]
 obtain ⟨v10, q8, h⟩ := bnd_some h
 have w9 := e27_1 a0 a1 v10 q8
 simp only [X27_1] at w9
 try simp -implicitDefEqProofs only [go_sem] at w9
 try simp -implicitDefEqProofs only [go_sem, i27, c27, w9]
 cases b11 : (v10 : Bool)
 · replace h := br_f b11 h
   obtain ⟨r14, q12, h⟩ := bnd_some h
   have w13 := e61 a0 a1 r14 q12
   try simp -implicitDefEqProofs only [go_sem] at w13
   cases h
   simp -implicitDefEqProofs only [go_sem, i27, c27, w9, b11, w13]
 · replace h := br_t b11 h
   cases h
   simp -implicitDefEqProofs only [go_sem, i27, c27, w9, b11]
theorem call33 (args : List AV) (S : St) : evCall T (evFL T) 33 args S = lendC (evFL T 33) S (lendAll S [[1], [1]] args) := evCall0 fn33 rfl rfl rfl args S
attribute [go_sem] call33
noncomputable def X33_1 (a0 : (List Int)) (a1 : (List Int)) (o : (Unit ⊕ Unit)) : Ex × Fr × St :=
 match o with
 | .inl o => (.exit 0, frOf 26 (anyF), [])
 | .inr o => (.ret, frOf 26 (upd anyF 4 (.bool false)), [])
noncomputable def E33_1 (a0 : (List Int)) (a1 : (List Int)) (s : Int) : Fr × St := (frOf 26 (upd (upd (upd anyF 0 (.ts .imm 1 (a0.map encInt))) 1 (.ts .imm 1 (a1.map encInt))) 5 (nI s)), [])
theorem b33_1 (a0 : (List Int)) (a1 : (List Int)) (s : Int) (o : Ctl Int (Unit ⊕ Unit)) (h : m33_1b a0 a1 s = some o) : evCL T 0 k33_1b (E33_1 a0 a1 s).1 (E33_1 a0 a1 s).2 = some (ctlX (E33_1 a0 a1) (X33_1 a0 a1) o) := by
 unfold m33_1b at h
 revert h
 generalize s = s14
 intro h
 try simp -implicitDefEqProofs only [go_sem, E33_1, X33_1, k33_1b]
 cases b15 : (ltI s14 (↑a0.length : Int) : Bool)
 · replace h := br_f b15 h
   cases h
   simp -implicitDefEqProofs only [go_sem, E33_1, X33_1, k33_1b, b15]
 · replace h := br_t b15 h
   obtain ⟨x16, q17, h⟩ := bnd_some h
   obtain ⟨g18, g19, g20⟩ := idx_row encInt q17
   try simp -implicitDefEqProofs only [go_sem] at g19 g20
   obtain ⟨x21, q22, h⟩ := bnd_some h
   obtain ⟨g23, g24, g25⟩ := idx_row encInt q22
   try simp -implicitDefEqProofs only [go_sem] at g24 g25
   try simp -implicitDefEqProofs only [go_sem, E33_1, X33_1, k33_1b, b15, g18, g19, g20, g23, g24, g25]
   cases b26 : (eqI x16 x21 : Bool)
   · replace h := br_f b26 h
     cases h
     simp -implicitDefEqProofs only [go_sem, E33_1, X33_1, k33_1b, b15, g18, g19, g20, g23, g24, g25, b26]
   · replace h := br_t b26 h
     cases h
     simp -implicitDefEqProofs only [go_sem, E33_1, X33_1, k33_1b, b15, g18, g19, g20, g23, g24, g25, b26]
theorem e33_1 (a0 : (List Int)) (a1 : (List Int)) (s : Int) (o : (Unit ⊕ Unit)) (h : loopP (m33_1b a0 a1) s = some o) : evCL T 0 (.loop k33_1b) (E33_1 a0 a1 s).1 (E33_1 a0 a1 s).2 = some (X33_1 a0 a1 o) :=
 loop_walk (E := E33_1 a0 a1) (X := X33_1 a0 a1) (by intro b; rcases b with b | b <;> (simp only [X33_1]; nofun)) (b33_1 a0 a1) s o h
theorem e33 (a0 : (List Int)) (a1 : (List Int)) (r : Bool) (h : m33 a0 a1 = some r) : evFL T 33 [.ts .imm 1 (a0.map encInt), .ts .imm 1 (a1.map encInt)] [] = some (.bool r, []) := by
 unfold m33 at h
 rw [evFL_at fn33 (Nat.le_of_ble_eq_true rfl) rfl (.inr rfl) ⟨rfl, rfl⟩]
 try simp -implicitDefEqProofs only [go_sem, i33, c33]
 cases b1 : (eqI (↑a0.length : Int) (↑a1.length : Int) : Bool)
 · replace h := br_f b1 h
   cases h
   simp -implicitDefEqProofs only [go_sem, i33, c33, b1]
 · replace h := br_t b1 h
   try simp -implicitDefEqProofs only [go_sem, i33, c33, b1]
   obtain ⟨o, q27, h⟩ := bnd_some h
   rcases o with ⟨⟩ | ⟨⟩
   · replace h := selS_l h
     have w28 := e33_1 a0 a1 0 (.inl ()) q27
     simp only [E33_1, X33_1] at w28
     try simp -implicitDefEqProofs only [go_sem] at w28
     cases h
     simp -implicitDefEqProofs only [go_sem, i33, c33, b1, w28]
   · replace h := selS_r h
     have w28 := e33_1 a0 a1 0 (.inr ()) q27
     simp only [E33_1, X33_1] at w28
     try simp -implicitDefEqProofs only [go_sem] at w28
     cases h
     simp -implicitDefEqProofs only [go_sem, i33, c33, b1, w28]
theorem call55 (args : List AV) (S : St) : evCall T (evFL T) 55 args S = lendC (evFL T 55) S (lendAll S [[0, 1, 0, 0, 0, 1], [0, 1, 0, 0, 0, 1]] args) := evCall0 fn55 rfl rfl rfl args S
attribute [go_sem] call55
theorem e55 (a0 : Attrs) (a1 : Attrs) (r : Bool) (h : m55 a0 a1 = some r) : evFL T 55 [.agg (encAttrs .imm a0), .agg (encAttrs .imm a1)] [] = some (.bool r, []) := by
 unfold m55 at h
 rw [evFL_at fn55 (Nat.le_of_ble_eq_true rfl) rfl (.inr rfl) ⟨rfl, rfl⟩]
 try simp -implicitDefEqProofs only [go_sem, i55, c55]
 cases b1 : (eqI a0.origin a1.origin : Bool)
 · replace h := br_f b1 h
   cases h
   simp -implicitDefEqProofs only [go_sem, i55, c55, b1]
 · replace h := br_t b1 h
   obtain ⟨r4, q2, h⟩ := bnd_some h
   have w3 := e33 a0.path a1.path r4 q2
   try simp -implicitDefEqProofs only [go_sem] at w3
   try simp -implicitDefEqProofs only [go_sem, i55, c55, b1, w3]
   cases b5 : (r4 : Bool)
   · replace h := br_f b5 h
     cases h
     simp -implicitDefEqProofs only [go_sem, i55, c55, b1, w3, b5]
   · replace h := br_t b5 h
     try simp -implicitDefEqProofs only [go_sem, i55, c55, b1, w3, b5]
     cases b6 : (eqI a0.next a1.next : Bool)
     · replace h := br_f b6 h
       cases h
       simp -implicitDefEqProofs only [go_sem, i55, c55, b1, w3, b5, b6]
     · replace h := br_t b6 h
       try simp -implicitDefEqProofs only [go_sem, i55, c55, b1, w3, b5, b6]
       cases b7 : (eqI a0.med a1.med : Bool)
       · replace h := br_f b7 h
         cases h
         simp -implicitDefEqProofs only [go_sem, i55, c55, b1, w3, b5, b6, b7]
       · replace h := br_t b7 h
         try simp -implicitDefEqProofs only [go_sem, i55, c55, b1, w3, b5, b6, b7]
         cases b8 : (eqI a0.pref a1.pref : Bool)
         · replace h := br_f b8 h
           cases h
           simp -implicitDefEqProofs only [go_sem, i55, c55, b1, w3, b5, b6, b7, b8]
         · replace h := br_t b8 h
           obtain ⟨r11, q9, h⟩ := bnd_some h
           have w10 := e33 a0.comms a1.comms r11 q9
           try simp -implicitDefEqProofs only [go_sem] at w10
           try simp -implicitDefEqProofs only [go_sem, i55, c55, b1, w3, b5, b6, b7, b8, w10]
           cases b12 : (r11 : Bool)
           · replace h := br_f b12 h
             cases h
             simp -implicitDefEqProofs only [go_sem, i55, c55, b1, w3, b5, b6, b7, b8, w10, b12]
           · replace h := br_t b12 h
             cases h
             simp -implicitDefEqProofs only [go_sem, i55, c55, b1, w3, b5, b6, b7, b8, w10, b12]
theorem call21 (args : List AV) (S : St) : evCall T (evFL T) 21 args S = lendC (evFL T 21) S (lendAll S [[0, 0, 1, 0, 0, 0, 1], [0, 0, 1, 0, 0, 0, 1]] args) := evCall0 fn21 rfl rfl rfl args S
theorem callz21 (args : List AV) (S : St) : evCallFz T (evFL T) 21 args S = lendZ (evFL T 21) S [[0]] (lendAll S [[0, 0, 1, 0, 0, 0, 1], [0, 0, 1, 0, 0, 0, 1]] args) := evCallFz0 fn21 rfl rfl rfl args S
theorem calls21 (args : List AV) (S : St) : evCall (T.at true) (evFL T) 21 args S = lendC (evFL T 21) S (lendAll S [[0, 0, 1, 0, 0, 0, 1], [0, 0, 1, 0, 0, 0, 1]] args) := evCall0 fns21 rfl rfl rfl args S
theorem callsz21 (args : List AV) (S : St) : evCallFz (T.at true) (evFL T) 21 args S = lendZ (evFL T 21) S [[0]] (lendAll S [[0, 0, 1, 0, 0, 0, 1], [0, 0, 1, 0, 0, 0, 1]] args) := evCallFz0 fns21 rfl rfl rfl args S
attribute [go_sem] call21 callz21 calls21 callsz21
theorem e21 (a0 : Offer) (a1 : Offer) (r : Bool) (h : m21 a0 a1 = some r) : evFL T 21 [.agg (encOffer .imm a0), .agg (encOffer .imm a1)] [] = some (.bool r, []) := by
 unfold m21 at h
 rw [evFL_at fn21 (Nat.le_of_ble_eq_true rfl) rfl (.inr rfl) ⟨rfl, rfl⟩]
 try simp -implicitDefEqProofs only [go_sem, i21, c21]
 cases b1 : (eqI a0.peer a1.peer : Bool)
 · replace h := br_f b1 h
   cases h
   simp -implicitDefEqProofs only [go_sem, i21, c21, b1]
 · replace h := br_t b1 h
   obtain ⟨r4, q2, h⟩ := bnd_some h
   have w3 := e55 a0.attrs a1.attrs r4 q2
   try simp -implicitDefEqProofs only [go_sem] at w3
   try simp -implicitDefEqProofs only [go_sem, i21, c21, b1, w3]
   cases b5 : (r4 : Bool)
   · replace h := br_f b5 h
     cases h
     simp -implicitDefEqProofs only [go_sem, i21, c21, b1, w3, b5]
   · replace h := br_t b5 h
     cases h
     simp -implicitDefEqProofs only [go_sem, i21, c21, b1, w3, b5]
theorem call16 (args : List AV) (S : St) : evCall T (evFL T) 16 args S = lendC (evFL T 16) S (lendAll S [[7], [7]] args) := evCall0 fn16 rfl rfl rfl args S
theorem calls16 (args : List AV) (S : St) : evCall (T.at true) (evFL T) 16 args S = lendC (evFL T 16) S (lendAll S [[7], [7]] args) := evCall0 fns16 rfl rfl rfl args S
attribute [go_sem] call16 calls16
noncomputable def X16_1 (a0 : (List Offer)) (a1 : (List Offer)) (o : (Unit ⊕ Unit)) : Ex × Fr × St :=
 match o with
 | .inl o => (.exit 0, frOf 27 (anyF), [])
 | .inr o => (.ret, frOf 27 (upd anyF 4 (.bool false)), [])
noncomputable def E16_1 (a0 : (List Offer)) (a1 : (List Offer)) (s : Int) : Fr × St := (frOf 27 (upd (upd (upd anyF 0 (.ts .imm 7 (a0.map (encOffer .imm)))) 1 (.ts .imm 7 (a1.map (encOffer .imm)))) 5 (nI s)), [])
theorem b16_1 (a0 : (List Offer)) (a1 : (List Offer)) (s : Int) (o : Ctl Int (Unit ⊕ Unit)) (h : m16_1b a0 a1 s = some o) : evCL T 0 k16_1b (E16_1 a0 a1 s).1 (E16_1 a0 a1 s).2 = some (ctlX (E16_1 a0 a1) (X16_1 a0 a1) o) := by
 unfold m16_1b at h
 revert h
 generalize s = s17
 intro h
 try simp -implicitDefEqProofs only [go_sem, E16_1, X16_1, k16_1b]
 cases b18 : (ltI s17 (↑a0.length : Int) : Bool)
 · replace h := br_f b18 h
   cases h
   simp -implicitDefEqProofs only [go_sem, E16_1, X16_1, k16_1b, b18]
 · replace h := br_t b18 h
   obtain ⟨x19, q20, h⟩ := bnd_some h
   obtain ⟨g21, g22, g23⟩ := idx_row (encOffer .imm) q20
   try simp -implicitDefEqProofs only [go_sem] at g22 g23
   obtain ⟨x24, q25, h⟩ := bnd_some h
   obtain ⟨g26, g27, g28⟩ := idx_row (encOffer .imm) q25
   try simp -implicitDefEqProofs only [go_sem] at g27 g28
   obtain ⟨r31, q29, h⟩ := bnd_some h
   have w30 := e21 x19 x24 r31 q29
   try simp -implicitDefEqProofs only [go_sem] at w30
   try simp -implicitDefEqProofs only [go_sem, E16_1, X16_1, k16_1b, b18, g21, g22, g23, g26, g27, g28, w30]
   cases b32 : (r31 : Bool)
   · replace h := br_f b32 h
     cases h
     simp -implicitDefEqProofs only [go_sem, E16_1, X16_1, k16_1b, b18, g21, g22, g23, g26, g27, g28, w30, b32]
   · replace h := br_t b32 h
     cases h
     simp -implicitDefEqProofs only [go_sem, E16_1, X16_1, k16_1b, b18, g21, g22, g23, g26, g27, g28, w30, b32]
theorem e16_1 (a0 : (List Offer)) (a1 : (List Offer)) (s : Int) (o : (Unit ⊕ Unit)) (h : loopP (m16_1b a0 a1) s = some o) : evCL T 0 (.loop k16_1b) (E16_1 a0 a1 s).1 (E16_1 a0 a1 s).2 = some (X16_1 a0 a1 o) :=
 loop_walk (E := E16_1 a0 a1) (X := X16_1 a0 a1) (by intro b; rcases b with b | b <;> (simp only [X16_1]; nofun)) (b16_1 a0 a1) s o h
theorem e16 (a0 : (List Offer)) (a1 : (List Offer)) (r : Bool) (h : m16 a0 a1 = some r) : evFL T 16 [.ts .imm 7 (a0.map (encOffer .imm)), .ts .imm 7 (a1.map (encOffer .imm))] [] = some (.bool r, []) := by
 unfold m16 at h
 rw [evFL_at fn16 (Nat.le_of_ble_eq_true rfl) rfl (.inr rfl) ⟨rfl, rfl⟩]
 try simp -implicitDefEqProofs only [go_sem, i16, c16]
 cases b1 : (eqI (↑a0.length : Int) (↑a1.length : Int) : Bool)
 · replace h := br_f b1 h
   cases h
   simp -implicitDefEqProofs only [go_sem, i16, c16, b1]
 · replace h := br_t b1 h
   try simp -implicitDefEqProofs only [go_sem, i16, c16, b1]
   obtain ⟨o, q33, h⟩ := bnd_some h
   rcases o with ⟨⟩ | ⟨⟩
   · replace h := selS_l h
     have w34 := e16_1 a0 a1 0 (.inl ()) q33
     simp only [E16_1, X16_1] at w34
     try simp -implicitDefEqProofs only [go_sem] at w34
     cases h
     simp -implicitDefEqProofs only [go_sem, i16, c16, b1, w34]
   · replace h := selS_r h
     have w34 := e16_1 a0 a1 0 (.inr ()) q33
     simp only [E16_1, X16_1] at w34
     try simp -implicitDefEqProofs only [go_sem] at w34
     cases h
     simp -implicitDefEqProofs only [go_sem, i16, c16, b1, w34]
theorem call34 (args : List AV) (S : St) : evCall T (evFL T) 34 args S = c3A true true (evFL T 34) (rawAll S [[1], [0]] args) := evCall3_g fn34 rfl (fun h => absurd h.1 (by decide)) args S
theorem calls34 (args : List AV) (S : St) : evCall (T.at true) (evFL T) 34 args S = c3A false true (evFL T 34) (rawAll S [[1], [0]] args) := evCall3_g fns34 rfl (fun h => absurd h.1 (by decide)) args S
attribute [go_sem] call34 calls34
noncomputable def X34_1 (o : (Int × List Int)) : Ex × Fr × St :=
 (.exit 0, frOf 19 (upd anyF 1 (nI o.1)), [some ⟨.arr, 1, o.2.map encInt⟩])
noncomputable def E34_1 (s : (Int × Int × List Int)) : Fr × St := (frOf 19 (upd (upd (upd anyF 0 (.sl 0 0 s.2.2.length)) 1 (nI s.1)) 5 (nI s.2.1)), [some ⟨.arr, 1, s.2.2.map encInt⟩])
theorem b34_1 (s : (Int × Int × List Int)) (o : Ctl (Int × Int × List Int) (Int × List Int)) (h : m34_1b s = some o) : evCL T 1 k34_1b (E34_1 s).1 (E34_1 s).2 = some (ctlX (E34_1) (X34_1) o) := by
 unfold m34_1b at h
 obtain ⟨s7, s8, s9⟩ := s
 replace h := sel3_some h
 try simp -implicitDefEqProofs only [go_sem, E34_1, X34_1, k34_1b]
 cases b10 : (ltI s8 (↑s9.length : Int) : Bool)
 · replace h := br_f b10 h
   cases h
   simp -implicitDefEqProofs only [go_sem, E34_1, X34_1, k34_1b, b10]
 · replace h := br_t b10 h
   obtain ⟨x11, q12, h⟩ := bnd_some h
   obtain ⟨g13, g14, g15⟩ := idx_row encInt q12
   try simp -implicitDefEqProofs only [go_sem] at g14 g15
   cases h
   simp -implicitDefEqProofs only [go_sem, E34_1, X34_1, k34_1b, b10, g13, g14, g15]
theorem e34_1 (s : (Int × Int × List Int)) (o : (Int × List Int)) (h : loopP (m34_1b) s = some o) : evCL T 1 (.loop k34_1b) (E34_1 s).1 (E34_1 s).2 = some (X34_1 o) :=
 loop_walk (E := E34_1) (X := X34_1) (by intro b; (simp only [X34_1]; nofun)) (b34_1) s o h
theorem e34 (a0 : (List Int)) (a1 : Int) (r : (Int × List Int)) (h : m34 a0 a1 = some r) : evFL T 34 [.sl 0 0 a0.length, nI a1] [some ⟨.arr, 1, a0.map encInt⟩] = some (nI r.1, [some ⟨.arr, 1, r.2.map encInt⟩]) := by
 unfold m34 at h
 rw [evFL_at fn34 (Nat.le_of_ble_eq_true rfl) rfl (.inl rfl) ⟨rfl, rfl⟩]
 obtain ⟨⟨v18, v19⟩, q16, h⟩ := bnd_some h
 replace h := sel2_some h
 have w17 := e34_1 (a1, 0, a0) (v18, v19) q16
 simp only [E34_1, X34_1] at w17
 try simp -implicitDefEqProofs only [go_sem] at w17
 cases h
 simp -implicitDefEqProofs only [go_sem, i34, c34, w17]
theorem calls24 (args : List AV) (S : St) : evCall (T.at true) (evFL T) 24 args S = c3A true true (evFL T 24) (rawAll S [[7], [0]] args) := evCall3_g fns24 rfl (fun h => absurd h.2 (by decide)) args S
attribute [go_sem] calls24
noncomputable def X24_1 (o : (Int × List Offer)) : Ex × Fr × St :=
 (.exit 0, frOf 68 (upd anyF 1 (nI o.1)), [some ⟨.arr, 7, o.2.map (encOffer .own)⟩])
noncomputable def E24_1 (s : (Int × Int × List Offer)) : Fr × St := (frOf 68 (upd (upd (upd anyF 0 (.sl 0 0 s.2.2.length)) 1 (nI s.1)) 5 (nI s.2.1)), [some ⟨.arr, 7, s.2.2.map (encOffer .own)⟩])
theorem b24_1 (s : (Int × Int × List Offer)) (o : Ctl (Int × Int × List Offer) (Int × List Offer)) (h : m24_1b s = some o) : evCL (T.at true) 1 k24_1b (E24_1 s).1 (E24_1 s).2 = some (ctlX (E24_1) (X24_1) o) := by
 unfold m24_1b at h
 obtain ⟨s17, s18, s19⟩ := s
 replace h := sel3_some h
 try simp -implicitDefEqProofs only [go_sem, E24_1, X24_1, k24_1b]
 cases b20 : (ltI s18 (↑s19.length : Int) : Bool)
 · replace h := br_f b20 h
   cases h
   simp -implicitDefEqProofs only [go_sem, E24_1, X24_1, k24_1b, b20]
 · replace h := br_t b20 h
   obtain ⟨x21, q22, h⟩ := bnd_some h
   obtain ⟨g23, g24, g25⟩ := idx_row (encOffer .own) q22
   try simp -implicitDefEqProofs only [go_sem] at g24 g25
   obtain ⟨⟨r28, r29⟩, q26, h⟩ := bnd_some h
   replace h := sel2_some h
   have w27 := e34 x21.attrs.path (wadd .i64 (wadd .i64 s17 1) 1) (r28, r29) q26
   try simp -implicitDefEqProofs only [go_sem] at w27
   obtain ⟨g30, h⟩ := ck_some h
   try simp -implicitDefEqProofs only [go_sem] at g30
   obtain ⟨⟨r33, r34⟩, q31, h⟩ := bnd_some h
   replace h := sel2_some h
   have w32 := e34 x21.attrs.comms (wadd .i64 (wadd .i64 (wadd .i64 r28 1) 1) 1) (r33, r34) q31
   try simp -implicitDefEqProofs only [go_sem, g30] at w32
   obtain ⟨g35, h⟩ := ck_some h
   try simp -implicitDefEqProofs only [go_sem] at g35
   cases h
   simp -implicitDefEqProofs only [go_sem, E24_1, X24_1, k24_1b, b20, g23, g24, g25, w27, g30, take_of_len_map g30, w32, g35, take_of_len_map g35]
theorem e24_1 (s : (Int × Int × List Offer)) (o : (Int × List Offer)) (h : loopP (m24_1b) s = some o) : evCL (T.at true) 1 (.loop k24_1b) (E24_1 s).1 (E24_1 s).2 = some (X24_1 o) :=
 loop_walk (E := E24_1) (X := X24_1) (by intro b; (simp only [X24_1]; nofun)) (b24_1) s o h
theorem e24 (a0 : (List Offer)) (a1 : Int) (r : (Int × List Offer)) (h : m24 a0 a1 = some r) : evFL T 24 [.sl 0 0 a0.length, nI a1] [some ⟨.arr, 7, a0.map (encOffer .own)⟩] = some (nI r.1, [some ⟨.arr, 7, r.2.map (encOffer .own)⟩]) := by
 unfold m24 at h
 rw [evFL_atS fn24 (Nat.le_of_ble_eq_true rfl) rfl (.inl rfl) ⟨rfl, rfl⟩]
 obtain ⟨⟨v38, v39⟩, q36, h⟩ := bnd_some h
 replace h := sel2_some h
 have w37 := e24_1 (a1, 0, a0) (v38, v39) q36
 simp only [E24_1, X24_1] at w37
 try simp -implicitDefEqProofs only [go_sem] at w37
 cases h
 simp -implicitDefEqProofs only [go_sem, i24, c24, w37]
theorem call62 (args : List AV) (S : St) : evCall T (evFL T) 62 args S = c3A true true (evFL T 62) (rawAll S [[0, 1, 0, 0, 0, 1], [0]] args) := evCall3_g fn62 rfl (fun h => absurd h.1 (by decide)) args S
attribute [go_sem] call62
theorem e62 (a0 : Attrs) (a1 : Int) (r : (Int × List Int × List Int)) (h : m62 a0 a1 = some r) : evFL T 62 [.agg [nI a0.origin, .sl 0 0 a0.path.length, nI a0.next, nI a0.med, nI a0.pref, .sl 1 0 a0.comms.length], nI a1] [some ⟨.arr, 1, a0.path.map encInt⟩, some ⟨.arr, 1, a0.comms.map encInt⟩] = some (nI r.1, [some ⟨.arr, 1, r.2.1.map encInt⟩, some ⟨.arr, 1, r.2.2.map encInt⟩]) := by
 unfold m62 at h
 rw [evFL_at fn62 (Nat.le_of_ble_eq_true rfl) rfl (.inl rfl) ⟨rfl, rfl⟩]
 obtain ⟨⟨r3, r4⟩, q1, h⟩ := bnd_some h
 replace h := sel2_some h
 have w2 := e34 a0.path a1 (r3, r4) q1
 try simp -implicitDefEqProofs only [go_sem] at w2
 obtain ⟨g5, h⟩ := ck_some h
 try simp -implicitDefEqProofs only [go_sem] at g5
 obtain ⟨⟨r8, r9⟩, q6, h⟩ := bnd_some h
 replace h := sel2_some h
 have w7 := e34 a0.comms r3 (r8, r9) q6
 try simp -implicitDefEqProofs only [go_sem, g5] at w7
 obtain ⟨g10, h⟩ := ck_some h
 try simp -implicitDefEqProofs only [go_sem] at g10
 cases h
 simp -implicitDefEqProofs only [go_sem, i62, c62, w2, g5, take_of_len_map g5, w7, g10, take_of_len_map g10]
theorem call28 (args : List AV) (S : St) : evCall T (evFL T) 28 args S = c3A true true (evFL T 28) (rawAll S [[0, 0, 1, 0, 0, 0, 1], [0]] args) := evCall3_g fn28 rfl (fun h => absurd h.1 (by decide)) args S
theorem calls28 (args : List AV) (S : St) : evCall (T.at true) (evFL T) 28 args S = c3A false true (evFL T 28) (rawAll S [[0, 0, 1, 0, 0, 0, 1], [0]] args) := evCall3_g fns28 rfl (fun h => absurd h.1 (by decide)) args S
attribute [go_sem] call28 calls28
theorem e28 (a0 : Offer) (a1 : Int) (r : (Int × List Int × List Int)) (h : m28 a0 a1 = some r) : evFL T 28 [.agg [nI a0.peer, nI a0.attrs.origin, .sl 0 0 a0.attrs.path.length, nI a0.attrs.next, nI a0.attrs.med, nI a0.attrs.pref, .sl 1 0 a0.attrs.comms.length], nI a1] [some ⟨.arr, 1, a0.attrs.path.map encInt⟩, some ⟨.arr, 1, a0.attrs.comms.map encInt⟩] = some (nI r.1, [some ⟨.arr, 1, r.2.1.map encInt⟩, some ⟨.arr, 1, r.2.2.map encInt⟩]) := by
 unfold m28 at h
 rw [evFL_at fn28 (Nat.le_of_ble_eq_true rfl) rfl (.inl rfl) ⟨rfl, rfl⟩]
 obtain ⟨⟨r3, r4, r5⟩, q1, h⟩ := bnd_some h
 replace h := sel3_some h
 have w2 := e62 a0.attrs a1 (r3, r4, r5) q1
 try simp -implicitDefEqProofs only [go_sem] at w2
 obtain ⟨g6, h⟩ := ck_some h
 try simp -implicitDefEqProofs only [go_sem] at g6
 obtain ⟨g7, h⟩ := ck_some h
 try simp -implicitDefEqProofs only [go_sem] at g7
 cases h
 simp -implicitDefEqProofs only [go_sem, i28, c28, w2, g6, take_of_len_map g6, g7, take_of_len_map g7]
theorem call35 (args : List AV) (S : St) : evCall T (evFL T) 35 args S = lendC (evFL T 35) S (lendAll S [[1], [0]] args) := evCall0 fn35 rfl rfl rfl args S
attribute [go_sem] call35
noncomputable def X35_1 (a0 : (List Int)) (o : (Int ⊕ Unit)) : Ex × Fr × St :=
 match o with
 | .inl o => (.exit 0, frOf 21 (upd anyF 1 (nI o)), [])
 | .inr o => (.ret, frOf 21 (upd anyF 4 (nI (-1))), [])
noncomputable def E35_1 (a0 : (List Int)) (s : (Int × Int)) : Fr × St := (frOf 21 (upd (upd (upd anyF 0 (.ts .imm 1 (a0.map encInt))) 1 (nI s.1)) 5 (nI s.2)), [])
theorem b35_1 (a0 : (List Int)) (s : (Int × Int)) (o : Ctl (Int × Int) (Int ⊕ Unit)) (h : m35_1b a0 s = some o) : evCL T 0 k35_1b (E35_1 a0 s).1 (E35_1 a0 s).2 = some (ctlX (E35_1 a0) (X35_1 a0) o) := by
 unfold m35_1b at h
 obtain ⟨s8, s9⟩ := s
 replace h := sel2_some h
 try simp -implicitDefEqProofs only [go_sem, E35_1, X35_1, k35_1b]
 cases b10 : (ltI s9 (↑a0.length : Int) : Bool)
 · replace h := br_f b10 h
   cases h
   simp -implicitDefEqProofs only [go_sem, E35_1, X35_1, k35_1b, b10]
 · replace h := br_t b10 h
   obtain ⟨x11, q12, h⟩ := bnd_some h
   obtain ⟨g13, g14, g15⟩ := idx_row encInt q12
   try simp -implicitDefEqProofs only [go_sem] at g14 g15
   try simp -implicitDefEqProofs only [go_sem, E35_1, X35_1, k35_1b, b10, g13, g14, g15]
   cases b16 : (eqI x11 s8 : Bool)
   · replace h := br_f b16 h
     cases h
     simp -implicitDefEqProofs only [go_sem, E35_1, X35_1, k35_1b, b10, g13, g14, g15, b16]
   · replace h := br_t b16 h
     cases h
     simp -implicitDefEqProofs only [go_sem, E35_1, X35_1, k35_1b, b10, g13, g14, g15, b16]
theorem e35_1 (a0 : (List Int)) (s : (Int × Int)) (o : (Int ⊕ Unit)) (h : loopP (m35_1b a0) s = some o) : evCL T 0 (.loop k35_1b) (E35_1 a0 s).1 (E35_1 a0 s).2 = some (X35_1 a0 o) :=
 loop_walk (E := E35_1 a0) (X := X35_1 a0) (by intro b; rcases b with b | b <;> (simp only [X35_1]; nofun)) (b35_1 a0) s o h
theorem e35 (a0 : (List Int)) (a1 : Int) (r : Int) (h : m35 a0 a1 = some r) : evFL T 35 [.ts .imm 1 (a0.map encInt), nI a1] [] = some (nI r, []) := by
 unfold m35 at h
 rw [evFL_at fn35 (Nat.le_of_ble_eq_true rfl) rfl (.inr rfl) ⟨rfl, rfl⟩]
 try simp -implicitDefEqProofs only [go_sem, i35, c35]
 obtain ⟨o, q17, h⟩ := bnd_some h
 rcases o with v19 | ⟨⟩
 · replace h := selS_l h
   have w18 := e35_1 a0 (a1, 0) (.inl v19) q17
   simp only [E35_1, X35_1] at w18
   try simp -implicitDefEqProofs only [go_sem] at w18
   cases h
   simp -implicitDefEqProofs only [go_sem, i35, c35, w18]
 · replace h := selS_r h
   have w18 := e35_1 a0 (a1, 0) (.inr ()) q17
   simp only [E35_1, X35_1] at w18
   try simp -implicitDefEqProofs only [go_sem] at w18
   cases h
   simp -implicitDefEqProofs only [go_sem, i35, c35, w18]
theorem call25 (args : List AV) (S : St) : evCall T (evFL T) 25 args S = lendC (evFL T 25) S (lendAll S [[7], [0]] args) := evCall0 fn25 rfl rfl rfl args S
theorem calls25 (args : List AV) (S : St) : evCall (T.at true) (evFL T) 25 args S = lendC (evFL T 25) S (lendAll S [[7], [0]] args) := evCall0 fns25 rfl rfl rfl args S
attribute [go_sem] call25 calls25
noncomputable def X25_1 (a0 : (List Offer)) (o : (Int ⊕ Unit)) : Ex × Fr × St :=
 match o with
 | .inl o => (.exit 0, frOf 82 (upd anyF 1 (nI o)), [])
 | .inr o => (.ret, frOf 82 (upd anyF 4 (nI (-1))), [])
noncomputable def E25_1 (a0 : (List Offer)) (s : (Int × Int)) : Fr × St := (frOf 82 (upd (upd (upd anyF 0 (.ts .imm 7 (a0.map (encOffer .imm)))) 1 (nI s.1)) 5 (nI s.2)), [])
theorem b25_1 (a0 : (List Offer)) (s : (Int × Int)) (o : Ctl (Int × Int) (Int ⊕ Unit)) (h : m25_1b a0 s = some o) : evCL T 0 k25_1b (E25_1 a0 s).1 (E25_1 a0 s).2 = some (ctlX (E25_1 a0) (X25_1 a0) o) := by
 unfold m25_1b at h
 obtain ⟨s20, s21⟩ := s
 replace h := sel2_some h
 try simp -implicitDefEqProofs only [go_sem, E25_1, X25_1, k25_1b]
 cases b22 : (ltI s21 (↑a0.length : Int) : Bool)
 · replace h := br_f b22 h
   cases h
   simp -implicitDefEqProofs only [go_sem, E25_1, X25_1, k25_1b, b22]
 · replace h := br_t b22 h
   obtain ⟨x23, q24, h⟩ := bnd_some h
   obtain ⟨g25, g26, g27⟩ := idx_row (encOffer .imm) q24
   try simp -implicitDefEqProofs only [go_sem] at g26 g27
   try simp -implicitDefEqProofs only [go_sem, E25_1, X25_1, k25_1b, b22, g25, g26, g27]
   cases b28 : (eqI x23.peer s20 : Bool)
   · replace h := br_f b28 h
     cases h
     simp -implicitDefEqProofs only [go_sem, E25_1, X25_1, k25_1b, b22, g25, g26, g27, b28]
   · replace h := br_t b28 h
     try simp -implicitDefEqProofs only [go_sem, E25_1, X25_1, k25_1b, b22, g25, g26, g27, b28]
     cases b29 : (eqI x23.attrs.origin (wadd .i64 s20 1) : Bool)
     · replace h := br_f b29 h
       cases h
       simp -implicitDefEqProofs only [go_sem, E25_1, X25_1, k25_1b, b22, g25, g26, g27, b28, b29]
     · replace h := br_t b29 h
       obtain ⟨r32, q30, h⟩ := bnd_some h
       have w31 := e35 x23.attrs.path (wadd .i64 (wadd .i64 s20 1) 1) r32 q30
       try simp -implicitDefEqProofs only [go_sem] at w31
       try simp -implicitDefEqProofs only [go_sem, E25_1, X25_1, k25_1b, b22, g25, g26, g27, b28, b29, w31]
       cases b33 : (ltI r32 0 : Bool)
       · replace h := br_f b33 h
         try simp -implicitDefEqProofs only [go_sem, E25_1, X25_1, k25_1b, b22, g25, g26, g27, b28, b29, w31, b33]
         cases b34 : (eqI x23.attrs.next r32 : Bool)
         · replace h := br_f b34 h
           cases h
           simp -implicitDefEqProofs only [go_sem, E25_1, X25_1, k25_1b, b22, g25, g26, g27, b28, b29, w31, b33, b34]
         · replace h := br_t b34 h
           try simp -implicitDefEqProofs only [go_sem, E25_1, X25_1, k25_1b, b22, g25, g26, g27, b28, b29, w31, b33, b34]
           cases b35 : (eqI x23.attrs.med (wadd .i64 r32 1) : Bool)
           · replace h := br_f b35 h
             cases h
             simp -implicitDefEqProofs only [go_sem, E25_1, X25_1, k25_1b, b22, g25, g26, g27, b28, b29, w31, b33, b34, b35]
           · replace h := br_t b35 h
             try simp -implicitDefEqProofs only [go_sem, E25_1, X25_1, k25_1b, b22, g25, g26, g27, b28, b29, w31, b33, b34, b35]
             cases b36 : (eqI x23.attrs.pref (wadd .i64 (wadd .i64 r32 1) 1) : Bool)
             · replace h := br_f b36 h
               cases h
               simp -implicitDefEqProofs only [go_sem, E25_1, X25_1, k25_1b, b22, g25, g26, g27, b28, b29, w31, b33, b34, b35, b36]
             · replace h := br_t b36 h
               obtain ⟨r39, q37, h⟩ := bnd_some h
               have w38 := e35 x23.attrs.comms (wadd .i64 (wadd .i64 (wadd .i64 r32 1) 1) 1) r39 q37
               try simp -implicitDefEqProofs only [go_sem] at w38
               try simp -implicitDefEqProofs only [go_sem, E25_1, X25_1, k25_1b, b22, g25, g26, g27, b28, b29, w31, b33, b34, b35, b36, w38]
               cases b40 : (ltI r39 0 : Bool)
               · replace h := br_f b40 h
                 cases h
                 simp -implicitDefEqProofs only [go_sem, E25_1, X25_1, k25_1b, b22, g25, g26, g27, b28, b29, w31, b33, b34, b35, b36, w38, b40]
               · replace h := br_t b40 h
                 cases h
                 simp -implicitDefEqProofs only [go_sem, E25_1, X25_1, k25_1b, b22, g25, g26, g27, b28, b29, w31, b33, b34, b35, b36, w38, b40]
       · replace h := br_t b33 h
         cases h
         simp -implicitDefEqProofs only [go_sem, E25_1, X25_1, k25_1b, b22, g25, g26, g27, b28, b29, w31, b33]
theorem e25_1 (a0 : (List Offer)) (s : (Int × Int)) (o : (Int ⊕ Unit)) (h : loopP (m25_1b a0) s = some o) : evCL T 0 (.loop k25_1b) (E25_1 a0 s).1 (E25_1 a0 s).2 = some (X25_1 a0 o) :=
 loop_walk (E := E25_1 a0) (X := X25_1 a0) (by intro b; rcases b with b | b <;> (simp only [X25_1]; nofun)) (b25_1 a0) s o h
theorem e25 (a0 : (List Offer)) (a1 : Int) (r : Int) (h : m25 a0 a1 = some r) : evFL T 25 [.ts .imm 7 (a0.map (encOffer .imm)), nI a1] [] = some (nI r, []) := by
 unfold m25 at h
 rw [evFL_at fn25 (Nat.le_of_ble_eq_true rfl) rfl (.inr rfl) ⟨rfl, rfl⟩]
 try simp -implicitDefEqProofs only [go_sem, i25, c25]
 obtain ⟨o, q41, h⟩ := bnd_some h
 rcases o with v43 | ⟨⟩
 · replace h := selS_l h
   have w42 := e25_1 a0 (a1, 0) (.inl v43) q41
   simp only [E25_1, X25_1] at w42
   try simp -implicitDefEqProofs only [go_sem] at w42
   cases h
   simp -implicitDefEqProofs only [go_sem, i25, c25, w42]
 · replace h := selS_r h
   have w42 := e25_1 a0 (a1, 0) (.inr ()) q41
   simp only [E25_1, X25_1] at w42
   try simp -implicitDefEqProofs only [go_sem] at w42
   cases h
   simp -implicitDefEqProofs only [go_sem, i25, c25, w42]
noncomputable def X6_1 (a0 : (List Offer)) (r17 : (List Offer)) (r18 : Bool) (r26 : Bool) (a1 : Offer) (r11 : (List Offer)) (r14 : Offer) (r25 : (List Offer)) (o : Bool) : Ex × Fr × St :=
 (.normal, frOf 119 (upd (upd (upd (upd (upd (upd (upd (upd (upd anyF 0 (.ts .imm 7 (a0.map (encOffer .imm)))) 3 (.ptr 0 0 0)) 6 (.ts .imm 7 (r17.map (encOffer .imm)))) 7 (.bool r18)) 8 (.sl 1 0 r11.length)) 9 (.ptr 2 0 0)) 10 (.sl 5 0 r25.length)) 11 (.bool r26)) 53 (.bool o)), [some ⟨.box, 7, [(encOffer .imm a1)]⟩, some ⟨.arr, 7, r11.map (encOffer .own)⟩, some ⟨.box, 7, [[nI r14.peer, nI r14.attrs.origin, .sl 3 0 r14.attrs.path.length, nI r14.attrs.next, nI r14.attrs.med, nI r14.attrs.pref, .sl 4 0 r14.attrs.comms.length]]⟩, some ⟨.arr, 1, r14.attrs.path.map encInt⟩, some ⟨.arr, 1, r14.attrs.comms.map encInt⟩, some ⟨.arr, 7, r25.map (encOffer .own)⟩])
theorem e6_1 (a0 : (List Offer)) (r17 : (List Offer)) (r18 : Bool) (r26 : Bool) (a1 : Offer) (r11 : (List Offer)) (r14 : Offer) (r25 : (List Offer)) (o : Bool) (h : m6_1 r17 r18 r26 r25 = some o) : evCL (T.at true) 0 k6_1 (frOf 119 (upd (upd (upd (upd (upd (upd (upd (upd anyF 0 (.ts .imm 7 (a0.map (encOffer .imm)))) 3 (.ptr 0 0 0)) 6 (.ts .imm 7 (r17.map (encOffer .imm)))) 7 (.bool r18)) 8 (.sl 1 0 r11.length)) 9 (.ptr 2 0 0)) 10 (.sl 5 0 r25.length)) 11 (.bool r26))) [some ⟨.box, 7, [(encOffer .imm a1)]⟩, some ⟨.arr, 7, r11.map (encOffer .own)⟩, some ⟨.box, 7, [[nI r14.peer, nI r14.attrs.origin, .sl 3 0 r14.attrs.path.length, nI r14.attrs.next, nI r14.attrs.med, nI r14.attrs.pref, .sl 4 0 r14.attrs.comms.length]]⟩, some ⟨.arr, 1, r14.attrs.path.map encInt⟩, some ⟨.arr, 1, r14.attrs.comms.map encInt⟩, some ⟨.arr, 7, r25.map (encOffer .own)⟩] = some (X6_1 a0 r17 r18 r26 a1 r11 r14 r25 o) := by
 unfold m6_1 at h
 obtain ⟨r29, q27, h⟩ := bnd_some h
 have w28 := e16 r25 r17 r29 q27
 try simp -implicitDefEqProofs only [go_sem] at w28
 try simp -implicitDefEqProofs only [go_sem, X6_1, k6_1, w28]
 cases b30 : (r29 : Bool)
 · replace h := br_f b30 h
   cases h
   simp -implicitDefEqProofs only [go_sem, X6_1, k6_1, w28, b30]
 · replace h := br_t b30 h
   cases h
   simp -implicitDefEqProofs only [go_sem, X6_1, k6_1, w28, b30]
noncomputable def X6_2 (a0 : (List Offer)) (r17 : (List Offer)) (r18 : Bool) (r26 : Bool) (r54 : Int) (a1 : Offer) (r25 : (List Offer)) (o : Bool) : Ex × Fr × St :=
 (.normal, frOf 119 (upd (upd (upd (upd (upd (upd anyF 0 (.ts .imm 7 (a0.map (encOffer .imm)))) 3 (.ptr 0 0 0)) 6 (.ts .imm 7 (r17.map (encOffer .imm)))) 7 (.bool r18)) 10 (.sl 1 0 r25.length)) 82 (.bool o)), [some ⟨.box, 7, [(encOffer .imm a1)]⟩, some ⟨.arr, 7, r25.map (encOffer .own)⟩])
theorem e6_2 (a0 : (List Offer)) (r17 : (List Offer)) (r18 : Bool) (r26 : Bool) (r54 : Int) (a1 : Offer) (r25 : (List Offer)) (o : Bool) (h : m6_2 r17 r18 r26 r54 r25 = some o) : evCL (T.at true) 0 k6_2 (frOf 119 (upd (upd (upd (upd (upd (upd (upd anyF 0 (.ts .imm 7 (a0.map (encOffer .imm)))) 3 (.ptr 0 0 0)) 6 (.ts .imm 7 (r17.map (encOffer .imm)))) 7 (.bool r18)) 10 (.sl 1 0 r25.length)) 11 (.bool r26)) 12 (nI r54))) [some ⟨.box, 7, [(encOffer .imm a1)]⟩, some ⟨.arr, 7, r25.map (encOffer .own)⟩] = some (X6_2 a0 r17 r18 r26 r54 a1 r25 o) := by
 unfold m6_2 at h
 try simp -implicitDefEqProofs only [go_sem, X6_2, k6_2]
 cases b59 : (ltI r54 0 : Bool)
 · replace h := br_f b59 h
   obtain ⟨r62, q60, h⟩ := bnd_some h
   have w61 := e16 r25 r17 r62 q60
   try simp -implicitDefEqProofs only [go_sem] at w61
   try simp -implicitDefEqProofs only [go_sem, X6_2, k6_2, b59, w61]
   cases b63 : (r62 : Bool)
   · replace h := br_f b63 h
     cases h
     simp -implicitDefEqProofs only [go_sem, X6_2, k6_2, b59, w61, b63]
   · replace h := br_t b63 h
     cases h
     simp -implicitDefEqProofs only [go_sem, X6_2, k6_2, b59, w61, b63]
 · replace h := br_t b59 h
   cases h
   simp -implicitDefEqProofs only [go_sem, X6_2, k6_2, b59]
noncomputable def X6_3 (r17 : (List Offer)) (r18 : Bool) (r70 : Int) (r25 : (List Offer)) (r26 : Bool) (r71 : List Offer) (o : Bool) : Ex × Fr × St :=
 (.normal, frOf 119 (upd (upd (upd anyF 10 (.sl 0 0 r71.length)) 13 (nI r70)) 110 (.bool o)), [some ⟨.arr, 7, r71.map (encOffer .own)⟩])
theorem e6_3 (r17 : (List Offer)) (r18 : Bool) (r70 : Int) (r25 : (List Offer)) (r26 : Bool) (r71 : List Offer) (o : Bool) (h : m6_3 r17 r18 r25 r26 = some o) : evCL (T.at true) 0 k6_3 (frOf 119 (upd (upd (upd (upd (upd (upd anyF 6 (.ts .imm 7 (r17.map (encOffer .imm)))) 7 (.bool r18)) 10 (.sl 0 0 r71.length)) 13 (nI r70)) 15 (.ts .imm 7 (r25.map (encOffer .imm)))) 16 (.bool r26))) [some ⟨.arr, 7, r71.map (encOffer .own)⟩] = some (X6_3 r17 r18 r70 r25 r26 r71 o) := by
 unfold m6_3 at h
 obtain ⟨r86, q84, h⟩ := bnd_some h
 have w85 := e16 r25 r17 r86 q84
 try simp -implicitDefEqProofs only [go_sem] at w85
 try simp -implicitDefEqProofs only [go_sem, X6_3, k6_3, w85]
 cases b87 : (r86 : Bool)
 · replace h := br_f b87 h
   cases h
   simp -implicitDefEqProofs only [go_sem, X6_3, k6_3, w85, b87]
 · replace h := br_t b87 h
   cases h
   simp -implicitDefEqProofs only [go_sem, X6_3, k6_3, w85, b87]
theorem e6 (a0 : (List Offer)) (a1 : Offer) (r : Bool) (h : m6 a0 a1 = some r) : evFL T 6 [.ts .imm 7 (a0.map (encOffer .imm)), .agg (encOffer .imm a1)] [] = some (.bool r, []) := by
 unfold m6 at h
 rw [evFL_atS fn6 (Nat.le_of_ble_eq_true rfl) rfl (.inr rfl) ⟨rfl, rfl⟩]
 obtain ⟨r3, q1, h⟩ := bnd_some h
 have w2 := e12 a0 1048576 r3 q1
 try simp -implicitDefEqProofs only [go_sem] at w2
 try simp -implicitDefEqProofs only [go_sem, i6, c6, w2]
 cases b4 : (ltI r3 0 : Bool)
 · replace h := br_f b4 h
   obtain ⟨r7, q5, h⟩ := bnd_some h
   have w6 := e17 a1 r3 r7 q5
   try simp -implicitDefEqProofs only [go_sem] at w6
   try simp -implicitDefEqProofs only [go_sem, i6, c6, w2, b4, w6]
   cases b8 : (ltI r7 0 : Bool)
   · replace h := br_f b8 h
     obtain ⟨r11, q9, h⟩ := bnd_some h
     have w10 := e14 a0 r11 q9
     try simp -implicitDefEqProofs only [go_sem] at w10
     obtain ⟨r14, q12, h⟩ := bnd_some h
     have w13 := e19 a1 r14 q12
     try simp -implicitDefEqProofs only [go_sem] at w13
     obtain ⟨⟨r17, r18⟩, q15, h⟩ := bnd_some h
     replace h := sel2_some h
     have w16 := e26 r11 r14 (r17, r18) q15
     try simp -implicitDefEqProofs only [go_sem] at w16
     obtain ⟨⟨r25, r26⟩, q23, h⟩ := bnd_some h
     replace h := sel2_some h
     have w24 := e27 r11 r14 (r25, r26) q23
     try simp -implicitDefEqProofs only [go_sem] at w24
     obtain ⟨v33, q31, h⟩ := bnd_some h
     have w32 := e6_1 a0 r17 r18 r26 a1 r11 r14 r25 v33 q31
     simp only [X6_1] at w32
     try simp -implicitDefEqProofs only [go_sem] at w32
     try simp -implicitDefEqProofs only [go_sem, i6, c6, w2, b4, w6, b8, w10, w13, w16, w24, w32]
     cases b34 : (v33 : Bool)
     · replace h := br_f b34 h
       obtain ⟨r39, q37, h⟩ := bnd_some h
       have w38 := e16 r11 r11 r39 q37
       try simp -implicitDefEqProofs only [go_sem] at w38
       try simp -implicitDefEqProofs only [go_sem, i6, c6, w2, b4, w6, b8, w10, w13, w16, w24, w32, b34, w38]
       cases b40 : (r39 : Bool)
       · replace h := br_f b40 h
         cases h
         simp -implicitDefEqProofs only [go_sem, i6, c6, w2, b4, w6, b8, w10, w13, w16, w24, w32, b34, w38, b40]
       · replace h := br_t b40 h
         obtain ⟨r45, q43, h⟩ := bnd_some h
         have w44 := e21 r14 r14 r45 q43
         try simp -implicitDefEqProofs only [go_sem] at w44
         try simp -implicitDefEqProofs only [go_sem, i6, c6, w2, b4, w6, b8, w10, w13, w16, w24, w32, b34, w38, b40, w44]
         cases b46 : (r45 : Bool)
         · replace h := br_f b46 h
           cases h
           simp -implicitDefEqProofs only [go_sem, i6, c6, w2, b4, w6, b8, w10, w13, w16, w24, w32, b34, w38, b40, w44, b46]
         · replace h := br_t b46 h
           obtain ⟨⟨r49, r50⟩, q47, h⟩ := bnd_some h
           replace h := sel2_some h
           have w48 := e24 r11 1 (r49, r50) q47
           try simp -implicitDefEqProofs only [go_sem] at w48
           obtain ⟨g51, h⟩ := ck_some h
           try simp -implicitDefEqProofs only [go_sem] at g51
           obtain ⟨⟨r54, r55, r56⟩, q52, h⟩ := bnd_some h
           replace h := sel3_some h
           have w53 := e28 r14 r49 (r54, r55, r56) q52
           try simp -implicitDefEqProofs only [go_sem, g51] at w53
           obtain ⟨g57, h⟩ := ck_some h
           try simp -implicitDefEqProofs only [go_sem] at g57
           obtain ⟨g58, h⟩ := ck_some h
           try simp -implicitDefEqProofs only [go_sem] at g58
           obtain ⟨v66, q64, h⟩ := bnd_some h
           have w65 := e6_2 a0 r17 r18 r26 r54 a1 r25 v66 q64
           simp only [X6_2] at w65
           try simp -implicitDefEqProofs only [go_sem, g51, g57, g58] at w65
           try simp -implicitDefEqProofs only [go_sem, i6, c6, w2, b4, w6, b8, w10, w13, w16, w24, w32, b34, w38, b40, w44, b46, w48, g51, take_of_len_map g51, w53, g57, take_of_len_map g57, g58, take_of_len_map g58, w65]
           cases b67 : (v66 : Bool)
           · replace h := br_f b67 h
             obtain ⟨⟨r70, r71⟩, q68, h⟩ := bnd_some h
             replace h := sel2_some h
             have w69 := e24 r25 1 (r70, r71) q68
             try simp -implicitDefEqProofs only [go_sem, g51, g57, g58] at w69
             obtain ⟨g72, h⟩ := ck_some h
             try simp -implicitDefEqProofs only [go_sem] at g72
             obtain ⟨r75, q73, h⟩ := bnd_some h
             have w74 := e25 r71 1 r75 q73
             try simp -implicitDefEqProofs only [go_sem, g51, g57, g58, g72] at w74
             try simp -implicitDefEqProofs only [go_sem, i6, c6, w2, b4, w6, b8, w10, w13, w16, w24, w32, b34, w38, b40, w44, b46, w48, g51, take_of_len_map g51, w53, g57, take_of_len_map g57, g58, take_of_len_map g58, w65, b67, w69, g72, take_of_len_map g72, w74]
             cases b76 : (ltI r75 0 : Bool)
             · replace h := br_f b76 h
               try simp -implicitDefEqProofs only [go_sem, i6, c6, w2, b4, w6, b8, w10, w13, w16, w24, w32, b34, w38, b40, w44, b46, w48, g51, take_of_len_map g51, w53, g57, take_of_len_map g57, g58, take_of_len_map g58, w65, b67, w69, g72, take_of_len_map g72, w74, b76]
               cases b77 : (eqI r75 r70 : Bool)
               · replace h := br_f b77 h
                 cases h
                 simp -implicitDefEqProofs only [go_sem, i6, c6, w2, b4, w6, b8, w10, w13, w16, w24, w32, b34, w38, b40, w44, b46, w48, g51, take_of_len_map g51, w53, g57, take_of_len_map g57, g58, take_of_len_map g58, w65, b67, w69, g72, take_of_len_map g72, w74, b76, b77]
               · replace h := br_t b77 h
                 obtain ⟨v90, q88, h⟩ := bnd_some h
                 have w89 := e6_3 r17 r18 r70 r25 r26 r71 v90 q88
                 simp only [X6_3] at w89
                 try simp -implicitDefEqProofs only [go_sem, g51, g57, g58, g72] at w89
                 try simp -implicitDefEqProofs only [go_sem, i6, c6, w2, b4, w6, b8, w10, w13, w16, w24, w32, b34, w38, b40, w44, b46, w48, g51, take_of_len_map g51, w53, g57, take_of_len_map g57, g58, take_of_len_map g58, w65, b67, w69, g72, take_of_len_map g72, w74, b76, b77, w89]
                 cases b91 : (v90 : Bool)
                 · replace h := br_f b91 h
                   cases h
                   simp -implicitDefEqProofs only [go_sem, i6, c6, w2, b4, w6, b8, w10, w13, w16, w24, w32, b34, w38, b40, w44, b46, w48, g51, take_of_len_map g51, w53, g57, take_of_len_map g57, g58, take_of_len_map g58, w65, b67, w69, g72, take_of_len_map g72, w74, b76, b77, w89, b91]
                 · replace h := br_t b91 h
                   cases h
                   simp -implicitDefEqProofs only [go_sem, i6, c6, w2, b4, w6, b8, w10, w13, w16, w24, w32, b34, w38, b40, w44, b46, w48, g51, take_of_len_map g51, w53, g57, take_of_len_map g57, g58, take_of_len_map g58, w65, b67, w69, g72, take_of_len_map g72, w74, b76, b77, w89, b91]
             · replace h := br_t b76 h
               cases h
               simp -implicitDefEqProofs only [go_sem, i6, c6, w2, b4, w6, b8, w10, w13, w16, w24, w32, b34, w38, b40, w44, b46, w48, g51, take_of_len_map g51, w53, g57, take_of_len_map g57, g58, take_of_len_map g58, w65, b67, w69, g72, take_of_len_map g72, w74, b76]
           · replace h := br_t b67 h
             cases h
             simp -implicitDefEqProofs only [go_sem, i6, c6, w2, b4, w6, b8, w10, w13, w16, w24, w32, b34, w38, b40, w44, b46, w48, g51, take_of_len_map g51, w53, g57, take_of_len_map g57, g58, take_of_len_map g58, w65, b67]
     · replace h := br_t b34 h
       cases h
       simp -implicitDefEqProofs only [go_sem, i6, c6, w2, b4, w6, b8, w10, w13, w16, w24, w32, b34]
   · replace h := br_t b8 h
     cases h
     simp -implicitDefEqProofs only [go_sem, i6, c6, w2, b4, w6, b8]
 · replace h := br_t b4 h
   cases h
   simp -implicitDefEqProofs only [go_sem, i6, c6, w2, b4]
end Go.Pi.Ytlcanbihlfncoaa.AddOffer
