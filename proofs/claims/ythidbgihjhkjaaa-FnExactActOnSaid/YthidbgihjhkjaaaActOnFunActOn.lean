/- no condition -/
import Derived.Test.YthidbgihjhkjaaaActOnTabActOn
import Derived.Test.YthidbgihjhkjaaaActOnModActOn
set_option linter.all false
namespace Go.Pi.Ythidbgihjhkjaaa.ActOn
open Go Go.Proofs Go.Pi
set_option maxRecDepth 100000
set_option linter.all false
@[go_sem] noncomputable def encInt (x : Int) : List AV := [.int .i64 x]
theorem sq_encInt (q : Ql) (x : Int) : setQL q (encInt x) = encInt x := by simp [encInt]
theorem sqm_encInt (q : Ql) (xs : List Int) : setQLL q (xs.map encInt) = xs.map encInt := by rw [setQLL_map]; exact List.map_congr_left (fun x _ => sq_encInt q x)
theorem ow_encInt (x : Int) : ownOnlyL (encInt x) = true := by simp [encInt, ownOnlyL, ownOnly, ownLL_map]
theorem owm_encInt (xs : List Int) : ownOnlyLL (xs.map encInt) = true := ownLL_map _ ow_encInt xs
theorem fi_encInt (x : Int) : fine.fineL (encInt x) = true := by simp [encInt, fine.fineL, fine, fineLL_map]
theorem fim_encInt (xs : List Int) : fine.fineLL (xs.map encInt) = true := fineLL_map _ fi_encInt xs
theorem nu_encInt (x : Int) : nude.nudeL (encInt x) = true := by simp [encInt, nude.nudeL, nude, nudeLL_map]
theorem num_encInt (xs : List Int) : nude.nudeLL (xs.map encInt) = true := nudeLL_map _ nu_encInt xs
theorem st_encInt (q : Ql) (xs : List Int) : (xs.map encInt).map (fun x => x.map (setTop q)) = xs.map encInt := by rw [List.map_map]; rfl
attribute [go_sem] st_encInt
attribute [simp] sqm_encInt ow_encInt owm_encInt fi_encInt fim_encInt nu_encInt num_encInt
attribute [go_sem] sqm_encInt owm_encInt fim_encInt num_encInt
@[go_sem] noncomputable def encAcn (x : Acn) : List AV := [.int .i64 x.kind, .int .i64 x.n]
theorem sq_encAcn (q : Ql) (x : Acn) : setQL q (encAcn x) = encAcn x := by simp [encAcn]
theorem sqm_encAcn (q : Ql) (xs : List Acn) : setQLL q (xs.map encAcn) = xs.map encAcn := by rw [setQLL_map]; exact List.map_congr_left (fun x _ => sq_encAcn q x)
theorem ow_encAcn (x : Acn) : ownOnlyL (encAcn x) = true := by simp [encAcn, ownOnlyL, ownOnly, ownLL_map]
theorem owm_encAcn (xs : List Acn) : ownOnlyLL (xs.map encAcn) = true := ownLL_map _ ow_encAcn xs
theorem fi_encAcn (x : Acn) : fine.fineL (encAcn x) = true := by simp [encAcn, fine.fineL, fine, fineLL_map]
theorem fim_encAcn (xs : List Acn) : fine.fineLL (xs.map encAcn) = true := fineLL_map _ fi_encAcn xs
theorem nu_encAcn (x : Acn) : nude.nudeL (encAcn x) = true := by simp [encAcn, nude.nudeL, nude, nudeLL_map]
theorem num_encAcn (xs : List Acn) : nude.nudeLL (xs.map encAcn) = true := nudeLL_map _ nu_encAcn xs
theorem st_encAcn (q : Ql) (xs : List Acn) : (xs.map encAcn).map (fun x => x.map (setTop q)) = xs.map encAcn := by rw [List.map_map]; rfl
attribute [go_sem] st_encAcn
attribute [simp] sqm_encAcn ow_encAcn owm_encAcn fi_encAcn fim_encAcn nu_encAcn num_encAcn
attribute [go_sem] sqm_encAcn owm_encAcn fim_encAcn num_encAcn
@[go_sem] noncomputable def encPrefix (x : Prefix) : List AV := [.int .i64 x.addr, .int .i64 x.len]
theorem sq_encPrefix (q : Ql) (x : Prefix) : setQL q (encPrefix x) = encPrefix x := by simp [encPrefix]
theorem sqm_encPrefix (q : Ql) (xs : List Prefix) : setQLL q (xs.map encPrefix) = xs.map encPrefix := by rw [setQLL_map]; exact List.map_congr_left (fun x _ => sq_encPrefix q x)
theorem ow_encPrefix (x : Prefix) : ownOnlyL (encPrefix x) = true := by simp [encPrefix, ownOnlyL, ownOnly, ownLL_map]
theorem owm_encPrefix (xs : List Prefix) : ownOnlyLL (xs.map encPrefix) = true := ownLL_map _ ow_encPrefix xs
theorem fi_encPrefix (x : Prefix) : fine.fineL (encPrefix x) = true := by simp [encPrefix, fine.fineL, fine, fineLL_map]
theorem fim_encPrefix (xs : List Prefix) : fine.fineLL (xs.map encPrefix) = true := fineLL_map _ fi_encPrefix xs
theorem nu_encPrefix (x : Prefix) : nude.nudeL (encPrefix x) = true := by simp [encPrefix, nude.nudeL, nude, nudeLL_map]
theorem num_encPrefix (xs : List Prefix) : nude.nudeLL (xs.map encPrefix) = true := nudeLL_map _ nu_encPrefix xs
theorem st_encPrefix (q : Ql) (xs : List Prefix) : (xs.map encPrefix).map (fun x => x.map (setTop q)) = xs.map encPrefix := by rw [List.map_map]; rfl
attribute [go_sem] st_encPrefix
attribute [simp] sqm_encPrefix ow_encPrefix owm_encPrefix fi_encPrefix fim_encPrefix nu_encPrefix num_encPrefix
attribute [go_sem] sqm_encPrefix owm_encPrefix fim_encPrefix num_encPrefix
@[go_sem] noncomputable def encLInt (q : Ql) (x : (List Int)) : List AV := [.ts q 1 (x.map encInt)]
theorem sq_encLInt (q q1 : Ql) (x : (List Int)) : setQL q (encLInt q1 x) = encLInt q x := by simp [encLInt, sq_encInt]
theorem sqm_encLInt (q q1 : Ql) (xs : List (List Int)) : setQLL q (xs.map (encLInt q1)) = xs.map (encLInt q) := by rw [setQLL_map]; exact List.map_congr_left (fun x _ => sq_encLInt q q1 x)
theorem ow_encLInt (x : (List Int)) : ownOnlyL (encLInt .own x) = true := by simp [encLInt, ownOnlyL, ownOnly, ownLL_map]
theorem owm_encLInt (xs : List (List Int)) : ownOnlyLL (xs.map (encLInt .own)) = true := ownLL_map _ ow_encLInt xs
theorem fi_encLInt (x : (List Int)) : fine.fineL (encLInt .own x) = true := by simp [encLInt, fine.fineL, fine, fineLL_map]
theorem fim_encLInt (xs : List (List Int)) : fine.fineLL (xs.map (encLInt .own)) = true := fineLL_map _ fi_encLInt xs
theorem nu_encLInt (x : (List Int)) : nude.nudeL (encLInt .own x) = true := by simp [encLInt, nude.nudeL, nude, nudeLL_map]
theorem num_encLInt (xs : List (List Int)) : nude.nudeLL (xs.map (encLInt .own)) = true := nudeLL_map _ nu_encLInt xs
theorem st_encLInt (q q1 : Ql) (xs : List (List Int)) : (xs.map (encLInt q1)).map (fun x => x.map (setTop q)) = xs.map (encLInt q) := by rw [List.map_map]; rfl
theorem fii_encLInt (xs : List (List Int)) : fine.fineLL (xs.map (encLInt .imm)) = true := fineLL_map _ (fun x => by simp [encLInt, fine.fineL, fine]) xs
attribute [go_sem] fii_encLInt
attribute [go_sem] st_encLInt
attribute [simp] sqm_encLInt ow_encLInt owm_encLInt fi_encLInt fim_encLInt nu_encLInt num_encLInt
attribute [go_sem] sqm_encLInt owm_encLInt fim_encLInt num_encLInt
@[go_sem] noncomputable def encAttrs (q : Ql) (x : Attrs) : List AV := [.int .i64 x.origin, .ts q 1 (x.path.map encInt), .int .i64 x.next, .int .i64 x.med, .int .i64 x.pref, .ts q 1 (x.comms.map encInt)]
theorem sq_encAttrs (q q1 : Ql) (x : Attrs) : setQL q (encAttrs q1 x) = encAttrs q x := by simp [encAttrs, sq_encInt, sq_encInt]
theorem sqm_encAttrs (q q1 : Ql) (xs : List Attrs) : setQLL q (xs.map (encAttrs q1)) = xs.map (encAttrs q) := by rw [setQLL_map]; exact List.map_congr_left (fun x _ => sq_encAttrs q q1 x)
theorem ow_encAttrs (x : Attrs) : ownOnlyL (encAttrs .own x) = true := by simp [encAttrs, ownOnlyL, ownOnly, ownLL_map]
theorem owm_encAttrs (xs : List Attrs) : ownOnlyLL (xs.map (encAttrs .own)) = true := ownLL_map _ ow_encAttrs xs
theorem fi_encAttrs (x : Attrs) : fine.fineL (encAttrs .own x) = true := by simp [encAttrs, fine.fineL, fine, fineLL_map]
theorem fim_encAttrs (xs : List Attrs) : fine.fineLL (xs.map (encAttrs .own)) = true := fineLL_map _ fi_encAttrs xs
theorem nu_encAttrs (x : Attrs) : nude.nudeL (encAttrs .own x) = true := by simp [encAttrs, nude.nudeL, nude, nudeLL_map]
theorem num_encAttrs (xs : List Attrs) : nude.nudeLL (xs.map (encAttrs .own)) = true := nudeLL_map _ nu_encAttrs xs
theorem st_encAttrs (q q1 : Ql) (xs : List Attrs) : (xs.map (encAttrs q1)).map (fun x => x.map (setTop q)) = xs.map (encAttrs q) := by rw [List.map_map]; rfl
theorem fii_encAttrs (xs : List Attrs) : fine.fineLL (xs.map (encAttrs .imm)) = true := fineLL_map _ (fun x => by simp [encAttrs, fine.fineL, fine]) xs
attribute [go_sem] fii_encAttrs
attribute [go_sem] st_encAttrs
attribute [simp] sqm_encAttrs ow_encAttrs owm_encAttrs fi_encAttrs fim_encAttrs nu_encAttrs num_encAttrs
attribute [go_sem] sqm_encAttrs owm_encAttrs fim_encAttrs num_encAttrs
@[go_sem] noncomputable def encRoute (q : Ql) (x : Route) : List AV := [.int .i64 x.prefix_.addr, .int .i64 x.prefix_.len, .int .i64 x.attrs.origin, .ts q 1 (x.attrs.path.map encInt), .int .i64 x.attrs.next, .int .i64 x.attrs.med, .int .i64 x.attrs.pref, .ts q 1 (x.attrs.comms.map encInt)]
theorem sq_encRoute (q q1 : Ql) (x : Route) : setQL q (encRoute q1 x) = encRoute q x := by simp [encRoute, sq_encInt, sq_encInt]
theorem sqm_encRoute (q q1 : Ql) (xs : List Route) : setQLL q (xs.map (encRoute q1)) = xs.map (encRoute q) := by rw [setQLL_map]; exact List.map_congr_left (fun x _ => sq_encRoute q q1 x)
theorem ow_encRoute (x : Route) : ownOnlyL (encRoute .own x) = true := by simp [encRoute, ownOnlyL, ownOnly, ownLL_map]
theorem owm_encRoute (xs : List Route) : ownOnlyLL (xs.map (encRoute .own)) = true := ownLL_map _ ow_encRoute xs
theorem fi_encRoute (x : Route) : fine.fineL (encRoute .own x) = true := by simp [encRoute, fine.fineL, fine, fineLL_map]
theorem fim_encRoute (xs : List Route) : fine.fineLL (xs.map (encRoute .own)) = true := fineLL_map _ fi_encRoute xs
theorem nu_encRoute (x : Route) : nude.nudeL (encRoute .own x) = true := by simp [encRoute, nude.nudeL, nude, nudeLL_map]
theorem num_encRoute (xs : List Route) : nude.nudeLL (xs.map (encRoute .own)) = true := nudeLL_map _ nu_encRoute xs
theorem st_encRoute (q q1 : Ql) (xs : List Route) : (xs.map (encRoute q1)).map (fun x => x.map (setTop q)) = xs.map (encRoute q) := by rw [List.map_map]; rfl
theorem fii_encRoute (xs : List Route) : fine.fineLL (xs.map (encRoute .imm)) = true := fineLL_map _ (fun x => by simp [encRoute, fine.fineL, fine]) xs
attribute [go_sem] fii_encRoute
attribute [go_sem] st_encRoute
attribute [simp] sqm_encRoute ow_encRoute owm_encRoute fi_encRoute fim_encRoute nu_encRoute num_encRoute
attribute [go_sem] sqm_encRoute owm_encRoute fim_encRoute num_encRoute
@[go_sem] noncomputable def encBool (x : Bool) : List AV := [.bool x]
theorem sq_encBool (q : Ql) (x : Bool) : setQL q (encBool x) = encBool x := by simp [encBool]
theorem sqm_encBool (q : Ql) (xs : List Bool) : setQLL q (xs.map encBool) = xs.map encBool := by rw [setQLL_map]; exact List.map_congr_left (fun x _ => sq_encBool q x)
theorem ow_encBool (x : Bool) : ownOnlyL (encBool x) = true := by simp [encBool, ownOnlyL, ownOnly, ownLL_map]
theorem owm_encBool (xs : List Bool) : ownOnlyLL (xs.map encBool) = true := ownLL_map _ ow_encBool xs
theorem fi_encBool (x : Bool) : fine.fineL (encBool x) = true := by simp [encBool, fine.fineL, fine, fineLL_map]
theorem fim_encBool (xs : List Bool) : fine.fineLL (xs.map encBool) = true := fineLL_map _ fi_encBool xs
theorem nu_encBool (x : Bool) : nude.nudeL (encBool x) = true := by simp [encBool, nude.nudeL, nude, nudeLL_map]
theorem num_encBool (xs : List Bool) : nude.nudeLL (xs.map encBool) = true := nudeLL_map _ nu_encBool xs
theorem st_encBool (q : Ql) (xs : List Bool) : (xs.map encBool).map (fun x => x.map (setTop q)) = xs.map encBool := by rw [List.map_map]; rfl
attribute [go_sem] st_encBool
attribute [simp] sqm_encBool ow_encBool owm_encBool fi_encBool fim_encBool nu_encBool num_encBool
attribute [go_sem] sqm_encBool owm_encBool fim_encBool num_encBool
theorem call70 (args : List AV) (S : St) : evCall T (evFL T) 70 args S = lendC (evFL T 70) S (lendAll S [[1], [0]] args) := evCall0 fn70 rfl rfl rfl args S
theorem callz70 (args : List AV) (S : St) : evCallFz T (evFL T) 70 args S = lendZ (evFL T 70) S [[0]] (lendAll S [[1], [0]] args) := evCallFz0 fn70 rfl rfl rfl args S
attribute [go_sem] call70 callz70
theorem e70 (a0 : (List Int)) (a1 : Int) (r : Int) (h : m70 a0 a1 = some r) : evFL T 70 [.ts .imm 1 (a0.map encInt), .int .i64 a1] [] = some (.int .i64 r, []) := by
 unfold m70 at h
 rw [evFL_at fn70 (Nat.le_of_ble_eq_true rfl) rfl (.inr rfl) ⟨rfl, rfl⟩]
 try simp -implicitDefEqProofs only [go_sem, i70, c70]
 cases b1 : (ltI (wsub .i64 a1 (↑a0.length : Int)) 0 : Bool)
 · replace h := br_f b1 h
   cases h
   simp -implicitDefEqProofs only [go_sem, i70, c70, b1]
 · replace h := br_t b1 h
   cases h
   simp -implicitDefEqProofs only [go_sem, i70, c70, b1]
theorem call32 (args : List AV) (S : St) : evCall T (evFL T) 32 args S = lendC (evFL T 32) S (lendAll S [[0, 1, 0, 0, 0, 1], [0]] args) := evCall0 fn32 rfl rfl rfl args S
theorem callz32 (args : List AV) (S : St) : evCallFz T (evFL T) 32 args S = lendZ (evFL T 32) S [[0]] (lendAll S [[0, 1, 0, 0, 0, 1], [0]] args) := evCallFz0 fn32 rfl rfl rfl args S
attribute [go_sem] call32 callz32
theorem e32 (a0 : Attrs) (a1 : Int) (r : Int) (h : m32 a0 a1 = some r) : evFL T 32 [.agg [.int .i64 a0.origin, .ts .imm 1 (a0.path.map encInt), .int .i64 a0.next, .int .i64 a0.med, .int .i64 a0.pref, .ts .imm 1 (a0.comms.map encInt)], .int .i64 a1] [] = some (.int .i64 r, []) := by
 unfold m32 at h
 rw [evFL_at fn32 (Nat.le_of_ble_eq_true rfl) rfl (.inr rfl) ⟨rfl, rfl⟩]
 obtain ⟨r3, q1, h⟩ := bnd_some h
 have w2 := e70 a0.path a1 r3 q1
 try simp -implicitDefEqProofs only [go_sem] at w2
 try simp -implicitDefEqProofs only [go_sem, i32, c32, w2]
 cases b4 : (ltI r3 0 : Bool)
 · replace h := br_f b4 h
   obtain ⟨r7, q5, h⟩ := bnd_some h
   have w6 := e70 a0.comms r3 r7 q5
   try simp -implicitDefEqProofs only [go_sem] at w6
   try simp -implicitDefEqProofs only [go_sem, i32, c32, w2, b4, w6]
   cases b8 : (ltI r7 0 : Bool)
   · replace h := br_f b8 h
     cases h
     simp -implicitDefEqProofs only [go_sem, i32, c32, w2, b4, w6, b8]
   · replace h := br_t b8 h
     cases h
     simp -implicitDefEqProofs only [go_sem, i32, c32, w2, b4, w6, b8]
 · replace h := br_t b4 h
   cases h
   simp -implicitDefEqProofs only [go_sem, i32, c32, w2, b4]
theorem call8 (args : List AV) (S : St) : evCall T (evFL T) 8 args S = lendC (evFL T 8) S (lendAll S [[0, 0, 0, 1, 0, 0, 0, 1], [0]] args) := evCall0 fn8 rfl rfl rfl args S
theorem callz8 (args : List AV) (S : St) : evCallFz T (evFL T) 8 args S = lendZ (evFL T 8) S [[0]] (lendAll S [[0, 0, 0, 1, 0, 0, 0, 1], [0]] args) := evCallFz0 fn8 rfl rfl rfl args S
attribute [go_sem] call8 callz8
theorem e8 (a0 : Route) (a1 : Int) (r : Int) (h : m8 a0 a1 = some r) : evFL T 8 [.agg [.int .i64 a0.prefix_.addr, .int .i64 a0.prefix_.len, .int .i64 a0.attrs.origin, .ts .imm 1 (a0.attrs.path.map encInt), .int .i64 a0.attrs.next, .int .i64 a0.attrs.med, .int .i64 a0.attrs.pref, .ts .imm 1 (a0.attrs.comms.map encInt)], .int .i64 a1] [] = some (.int .i64 r, []) := by
 unfold m8 at h
 rw [evFL_at fn8 (Nat.le_of_ble_eq_true rfl) rfl (.inr rfl) ⟨rfl, rfl⟩]
 obtain ⟨r3, q1, h⟩ := bnd_some h
 have w2 := e32 a0.attrs a1 r3 q1
 try simp -implicitDefEqProofs only [go_sem] at w2
 try simp -implicitDefEqProofs only [go_sem, i8, c8, w2]
 cases b4 : (ltI r3 0 : Bool)
 · replace h := br_f b4 h
   cases h
   simp -implicitDefEqProofs only [go_sem, i8, c8, w2, b4]
 · replace h := br_t b4 h
   cases h
   simp -implicitDefEqProofs only [go_sem, i8, c8, w2, b4]
theorem call19 (args : List AV) (S : St) : evCall T (evFL T) 19 args S = lendC (evFL T 19) S (lendAll S [[0, 0]] args) := evCall0 fn19 rfl rfl rfl args S
theorem callz19 (args : List AV) (S : St) : evCallFz T (evFL T) 19 args S = lendZ (evFL T 19) S [[0, 0]] (lendAll S [[0, 0]] args) := evCallFz0 fn19 rfl rfl rfl args S
attribute [go_sem] call19 callz19
theorem e19 (a0 : Acn) (r : Acn) (h : m19 a0 = some r) : evFL T 19 [.agg [.int .i64 a0.kind, .int .i64 a0.n]] [] = some (.agg [.int .i64 r.kind, .int .i64 r.n], []) := by
 unfold m19 at h
 rw [evFL_at fn19 (Nat.le_of_ble_eq_true rfl) rfl (.inr rfl) ⟨rfl, rfl⟩]
 cases h
 simp -implicitDefEqProofs only [go_sem, i19, c19]
theorem call35 (args : List AV) (S : St) : evCall T (evFL T) 35 args S = lendC (evFL T 35) S (lendAll S [[0, 0]] args) := evCall0 fn35 rfl rfl rfl args S
theorem callz35 (args : List AV) (S : St) : evCallFz T (evFL T) 35 args S = lendZ (evFL T 35) S [[0, 0]] (lendAll S [[0, 0]] args) := evCallFz0 fn35 rfl rfl rfl args S
attribute [go_sem] call35 callz35
theorem e35 (a0 : Prefix) (r : Prefix) (h : m35 a0 = some r) : evFL T 35 [.agg [.int .i64 a0.addr, .int .i64 a0.len]] [] = some (.agg [.int .i64 r.addr, .int .i64 r.len], []) := by
 unfold m35 at h
 rw [evFL_at fn35 (Nat.le_of_ble_eq_true rfl) rfl (.inr rfl) ⟨rfl, rfl⟩]
 cases h
 simp -implicitDefEqProofs only [go_sem, i35, c35]
theorem call74 (args : List AV) (S : St) : evCall T (evFL T) 74 args S = lendC (evFL T 74) S (lendAll S [[1]] args) := evCall0 fn74 rfl rfl rfl args S
theorem callz74 (args : List AV) (S : St) : evCallFz T (evFL T) 74 args S = lendZ (evFL T 74) S [[1]] (lendAll S [[1]] args) := evCallFz0 fn74 rfl rfl rfl args S
attribute [go_sem] call74 callz74
noncomputable def X74_1 (a0 : (List Int)) (o : (List Int)) : Ex × Fr × St :=
 (.exit 0, frOf 22 (upd anyF 3 (.sl 0 0 o.length)), [some ⟨.arr, 1, o.map encInt⟩])
noncomputable def E74_1 (a0 : (List Int)) (s : (Int × List Int)) : Fr × St := (frOf 22 (upd (upd (upd anyF 0 (.ts .imm 1 (a0.map encInt))) 3 (.sl 0 0 s.2.length)) 4 (.int .i64 s.1)), [some ⟨.arr, 1, s.2.map encInt⟩])
theorem b74_1 (a0 : (List Int)) (s : (Int × List Int)) (o : Ctl (Int × List Int) (List Int)) (h : m74_1b a0 s = some o) : evCL T 0 k74_1b (E74_1 a0 s).1 (E74_1 a0 s).2 = some (ctlX (E74_1 a0) (X74_1 a0) o) := by
 unfold m74_1b at h
 obtain ⟨s14, s15⟩ := s
 replace h := sel2_some h
 try simp -implicitDefEqProofs only [go_sem, E74_1, X74_1, k74_1b]
 cases b16 : (ltI s14 (↑a0.length : Int) : Bool)
 · replace h := br_f b16 h
   cases h
   simp -implicitDefEqProofs only [go_sem, E74_1, X74_1, k74_1b, b16]
 · replace h := br_t b16 h
   obtain ⟨x17, q18, h⟩ := bnd_some h
   obtain ⟨g19, g20, g21⟩ := idx_row encInt q18
   try simp -implicitDefEqProofs only [go_sem] at g20
   try simp -implicitDefEqProofs only [go_sem] at g21
   obtain ⟨x22, q23, h⟩ := bnd_some h
   obtain ⟨g24, g25, g26⟩ := idx_row encInt q23
   try simp -implicitDefEqProofs only [go_sem] at g25
   try simp -implicitDefEqProofs only [go_sem] at g26
   cases h
   simp -implicitDefEqProofs only [go_sem, E74_1, X74_1, k74_1b, b16, g19, g20, g21, g24, g25, g26]
theorem e74_1 (a0 : (List Int)) (s : (Int × List Int)) (o : (List Int)) (h : loopP (m74_1b a0) s = some o) : evCL T 0 (.loop k74_1b) (E74_1 a0 s).1 (E74_1 a0 s).2 = some (X74_1 a0 o) :=
 loop_walk (E := E74_1 a0) (X := X74_1 a0) (by intro b; (simp only [X74_1]; nofun)) (b74_1 a0) s o h
theorem e74 (a0 : (List Int)) (r : (List Int)) (h : m74 a0 = some r) : evFL T 74 [.ts .imm 1 (a0.map encInt)] [] = some (.sl 0 0 r.length, [some ⟨.arr, 1, r.map encInt⟩]) := by
 unfold m74 at h
 rw [evFL_at fn74 (Nat.le_of_ble_eq_true rfl) rfl (.inr rfl) ⟨rfl, rfl⟩]
 obtain ⟨g1, h⟩ := ck_some h
 try simp -implicitDefEqProofs only [go_sem] at g1
 obtain ⟨v29, q27, h⟩ := bnd_some h
 have w28 := e74_1 a0 (0, List.replicate a0.length 0) v29 q27
 simp only [E74_1, X74_1] at w28
 try simp -implicitDefEqProofs only [go_sem] at w28
 cases h
 simp -implicitDefEqProofs only [go_sem, i74, c74, g1, w28]
theorem call36 (args : List AV) (S : St) : evCall T (evFL T) 36 args S = lendC (evFL T 36) S (lendAll S [[0, 1, 0, 0, 0, 1]] args) := evCall0 fn36 rfl rfl rfl args S
theorem callz36 (args : List AV) (S : St) : evCallFz T (evFL T) 36 args S = lendZ (evFL T 36) S [[0, 1, 0, 0, 0, 1]] (lendAll S [[0, 1, 0, 0, 0, 1]] args) := evCallFz0 fn36 rfl rfl rfl args S
attribute [go_sem] call36 callz36
theorem e36 (a0 : Attrs) (r : Attrs) (h : m36 a0 = some r) : evFL T 36 [.agg [.int .i64 a0.origin, .ts .imm 1 (a0.path.map encInt), .int .i64 a0.next, .int .i64 a0.med, .int .i64 a0.pref, .ts .imm 1 (a0.comms.map encInt)]] [] = some (.agg [.int .i64 r.origin, .sl 0 0 r.path.length, .int .i64 r.next, .int .i64 r.med, .int .i64 r.pref, .sl 1 0 r.comms.length], [some ⟨.arr, 1, r.path.map encInt⟩, some ⟨.arr, 1, r.comms.map encInt⟩]) := by
 unfold m36 at h
 rw [evFL_at fn36 (Nat.le_of_ble_eq_true rfl) rfl (.inr rfl) ⟨rfl, rfl⟩]
 obtain ⟨r3, q1, h⟩ := bnd_some h
 have w2 := e74 a0.path r3 q1
 try simp -implicitDefEqProofs only [go_sem] at w2
 obtain ⟨r6, q4, h⟩ := bnd_some h
 have w5 := e74 a0.comms r6 q4
 try simp -implicitDefEqProofs only [go_sem] at w5
 cases h
 simp -implicitDefEqProofs only [go_sem, i36, c36, w2, w5]
theorem call10 (args : List AV) (S : St) : evCall T (evFL T) 10 args S = lendC (evFL T 10) S (lendAll S [[0, 0, 0, 1, 0, 0, 0, 1]] args) := evCall0 fn10 rfl rfl rfl args S
theorem callz10 (args : List AV) (S : St) : evCallFz T (evFL T) 10 args S = lendZ (evFL T 10) S [[0, 0, 0, 1, 0, 0, 0, 1]] (lendAll S [[0, 0, 0, 1, 0, 0, 0, 1]] args) := evCallFz0 fn10 rfl rfl rfl args S
attribute [go_sem] call10 callz10
theorem e10 (a0 : Route) (r : Route) (h : m10 a0 = some r) : evFL T 10 [.agg [.int .i64 a0.prefix_.addr, .int .i64 a0.prefix_.len, .int .i64 a0.attrs.origin, .ts .imm 1 (a0.attrs.path.map encInt), .int .i64 a0.attrs.next, .int .i64 a0.attrs.med, .int .i64 a0.attrs.pref, .ts .imm 1 (a0.attrs.comms.map encInt)]] [] = some (.agg [.int .i64 r.prefix_.addr, .int .i64 r.prefix_.len, .int .i64 r.attrs.origin, .sl 0 0 r.attrs.path.length, .int .i64 r.attrs.next, .int .i64 r.attrs.med, .int .i64 r.attrs.pref, .sl 1 0 r.attrs.comms.length], [some ⟨.arr, 1, r.attrs.path.map encInt⟩, some ⟨.arr, 1, r.attrs.comms.map encInt⟩]) := by
 unfold m10 at h
 rw [evFL_at fn10 (Nat.le_of_ble_eq_true rfl) rfl (.inr rfl) ⟨rfl, rfl⟩]
 obtain ⟨r3, q1, h⟩ := bnd_some h
 have w2 := e35 a0.prefix_ r3 q1
 try simp -implicitDefEqProofs only [go_sem] at w2
 obtain ⟨r6, q4, h⟩ := bnd_some h
 have w5 := e36 a0.attrs r6 q4
 try simp -implicitDefEqProofs only [go_sem] at w5
 cases h
 simp -implicitDefEqProofs only [go_sem, i10, c10, w2, w5]
theorem call71 (args : List AV) (S : St) : evCall T (evFL T) 71 args S = lendC (evFL T 71) S (lendAll S [[0], [0], [0]] args) := evCall0 fn71 rfl rfl rfl args S
theorem callz71 (args : List AV) (S : St) : evCallFz T (evFL T) 71 args S = lendZ (evFL T 71) S [[0]] (lendAll S [[0], [0], [0]] args) := evCallFz0 fn71 rfl rfl rfl args S
attribute [go_sem] call71 callz71
noncomputable def X71_1 (a0 : Int) (a1 : Int) (a2 : Int) (o : Bool) : Ex × Fr × St :=
 (.normal, frOf 15 (upd anyF 6 (.bool o)), [])
theorem e71_1 (a0 : Int) (a1 : Int) (a2 : Int) (o : Bool) (h : m71_1 a0 a1 a2 = some o) : evCL T 0 k71_1 (frOf 15 (upd (upd (upd anyF 0 (.int .i64 a0)) 1 (.int .i64 a1)) 2 (.int .i64 a2))) [] = some (X71_1 a0 a1 a2 o) := by
 unfold m71_1 at h
 try simp -implicitDefEqProofs only [go_sem, X71_1, k71_1]
 cases b1 : (leI a1 a0 : Bool)
 · replace h := br_f b1 h
   cases h
   simp -implicitDefEqProofs only [go_sem, X71_1, k71_1, b1]
 · replace h := br_t b1 h
   cases h
   simp -implicitDefEqProofs only [go_sem, X71_1, k71_1, b1]
theorem e71 (a0 : Int) (a1 : Int) (a2 : Int) (r : Bool) (h : m71 a0 a1 a2 = some r) : evFL T 71 [.int .i64 a0, .int .i64 a1, .int .i64 a2] [] = some (.bool r, []) := by
 unfold m71 at h
 rw [evFL_at fn71 (Nat.le_of_ble_eq_true rfl) rfl (.inr rfl) ⟨rfl, rfl⟩]
 obtain ⟨v4, q2, h⟩ := bnd_some h
 have w3 := e71_1 a0 a1 a2 v4 q2
 simp only [X71_1] at w3
 try simp -implicitDefEqProofs only [go_sem] at w3
 cases h
 simp -implicitDefEqProofs only [go_sem, i71, c71, w3]
theorem call48 (args : List AV) (S : St) : evCall T (evFL T) 48 args S = lendC (evFL T 48) S (lendAll S [[0, 0]] args) := evCall0 fn48 rfl rfl rfl args S
theorem callz48 (args : List AV) (S : St) : evCallFz T (evFL T) 48 args S = lendZ (evFL T 48) S [[0]] (lendAll S [[0, 0]] args) := evCallFz0 fn48 rfl rfl rfl args S
attribute [go_sem] call48 callz48
noncomputable def X48_3 (a0 : Acn) (p5 : Bool) (o : Bool) : Ex × Fr × St :=
 (.normal, frOf 21 (upd (upd anyF 1 (.ptr 0 0 0)) 5 (.bool o)), [some ⟨.box, 2, [[.int .i64 a0.kind, .int .i64 a0.n]]⟩])
theorem e48_3 (a0 : Acn) (p5 : Bool) (o : Bool) (h : m48_3 a0 p5 = some o) : evCL T 0 k48_3 (frOf 21 (upd (upd (upd anyF 1 (.ptr 0 0 0)) 4 (.int .i64 a0.kind)) 5 (.bool p5))) [some ⟨.box, 2, [[.int .i64 a0.kind, .int .i64 a0.n]]⟩] = some (X48_3 a0 p5 o) := by
 unfold m48_3 at h
 try simp -implicitDefEqProofs only [go_sem, X48_3, k48_3]
 cases b6 : (p5 : Bool)
 · replace h := br_f b6 h
   cases h
   simp -implicitDefEqProofs only [go_sem, X48_3, k48_3, b6]
 · replace h := br_t b6 h
   cases h
   simp -implicitDefEqProofs only [go_sem, X48_3, k48_3, b6]
noncomputable def X48_2 (a0 : Acn) (p3 : Bool) (o : Bool) : Ex × Fr × St :=
 (.normal, frOf 21 (upd (upd anyF 1 (.ptr 0 0 0)) 5 (.bool o)), [some ⟨.box, 2, [[.int .i64 a0.kind, .int .i64 a0.n]]⟩])
theorem e48_2 (a0 : Acn) (p3 : Bool) (o : Bool) (h : m48_2 a0 p3 = some o) : evCL T 0 k48_2 (frOf 21 (upd (upd (upd anyF 1 (.ptr 0 0 0)) 4 (.int .i64 a0.kind)) 5 (.bool p3))) [some ⟨.box, 2, [[.int .i64 a0.kind, .int .i64 a0.n]]⟩] = some (X48_2 a0 p3 o) := by
 unfold m48_2 at h
 try simp -implicitDefEqProofs only [go_sem, X48_2, k48_2]
 cases b4 : (p3 : Bool)
 · replace h := br_f b4 h
   obtain ⟨v9, q7, h⟩ := bnd_some h
   have w8 := e48_3 a0 (eqI a0.kind 3) v9 q7
   simp only [X48_3] at w8
   try simp -implicitDefEqProofs only [go_sem] at w8
   cases h
   simp -implicitDefEqProofs only [go_sem, X48_2, k48_2, b4, w8]
 · replace h := br_t b4 h
   cases h
   simp -implicitDefEqProofs only [go_sem, X48_2, k48_2, b4]
noncomputable def X48_1 (a0 : Acn) (p1 : Bool) (o : Bool) : Ex × Fr × St :=
 (.normal, frOf 21 (upd (upd anyF 1 (.ptr 0 0 0)) 5 (.bool o)), [some ⟨.box, 2, [[.int .i64 a0.kind, .int .i64 a0.n]]⟩])
theorem e48_1 (a0 : Acn) (p1 : Bool) (o : Bool) (h : m48_1 a0 p1 = some o) : evCL T 0 k48_1 (frOf 21 (upd (upd (upd anyF 1 (.ptr 0 0 0)) 4 (.int .i64 a0.kind)) 5 (.bool p1))) [some ⟨.box, 2, [[.int .i64 a0.kind, .int .i64 a0.n]]⟩] = some (X48_1 a0 p1 o) := by
 unfold m48_1 at h
 try simp -implicitDefEqProofs only [go_sem, X48_1, k48_1]
 cases b2 : (p1 : Bool)
 · replace h := br_f b2 h
   obtain ⟨v12, q10, h⟩ := bnd_some h
   have w11 := e48_2 a0 (eqI a0.kind 2) v12 q10
   simp only [X48_2] at w11
   try simp -implicitDefEqProofs only [go_sem] at w11
   cases h
   simp -implicitDefEqProofs only [go_sem, X48_1, k48_1, b2, w11]
 · replace h := br_t b2 h
   cases h
   simp -implicitDefEqProofs only [go_sem, X48_1, k48_1, b2]
noncomputable def X48_4 (a0 : Acn) (o : Bool) : Ex × Fr × St :=
 (.normal, frOf 21 (upd anyF 2 (.bool o)), [])
theorem e48_4 (a0 : Acn) (o : Bool) (h : m48_4 a0 = some o) : evCL T 0 k48_4 (frOf 21 (upd anyF 1 (.ptr 0 0 0))) [some ⟨.box, 2, [[.int .i64 a0.kind, .int .i64 a0.n]]⟩] = some (X48_4 a0 o) := by
 unfold m48_4 at h
 try simp -implicitDefEqProofs only [go_sem, X48_4, k48_4]
 cases b20 : (eqI a0.kind 5 : Bool)
 · replace h := br_f b20 h
   cases h
   simp -implicitDefEqProofs only [go_sem, X48_4, k48_4, b20]
 · replace h := br_t b20 h
   obtain ⟨r23, q21, h⟩ := bnd_some h
   have w22 := e71 a0.n 1 65535 r23 q21
   try simp -implicitDefEqProofs only [go_sem] at w22
   cases h
   simp -implicitDefEqProofs only [go_sem, X48_4, k48_4, b20, w22]
theorem e48 (a0 : Acn) (r : Bool) (h : m48 a0 = some r) : evFL T 48 [.agg [.int .i64 a0.kind, .int .i64 a0.n]] [] = some (.bool r, []) := by
 unfold m48 at h
 rw [evFL_at fn48 (Nat.le_of_ble_eq_true rfl) rfl (.inr rfl) ⟨rfl, rfl⟩]
 obtain ⟨v15, q13, h⟩ := bnd_some h
 have w14 := e48_1 a0 (eqI a0.kind 1) v15 q13
 simp only [X48_1] at w14
 try simp -implicitDefEqProofs only [go_sem] at w14
 try simp -implicitDefEqProofs only [go_sem, i48, c48, w14]
 cases b16 : (v15 : Bool)
 · replace h := br_f b16 h
   obtain ⟨v26, q24, h⟩ := bnd_some h
   have w25 := e48_4 a0 v26 q24
   simp only [X48_4] at w25
   try simp -implicitDefEqProofs only [go_sem] at w25
   cases h
   simp -implicitDefEqProofs only [go_sem, i48, c48, w14, b16, w25]
 · replace h := br_t b16 h
   obtain ⟨r19, q17, h⟩ := bnd_some h
   have w18 := e71 a0.n 0 1000000 r19 q17
   try simp -implicitDefEqProofs only [go_sem] at w18
   cases h
   simp -implicitDefEqProofs only [go_sem, i48, c48, w14, b16, w18]
theorem call72 (args : List AV) (S : St) : evCall T (evFL T) 72 args S = lendC (evFL T 72) S (lendAll S [[0]] args) := evCall0 fn72 rfl rfl rfl args S
theorem callz72 (args : List AV) (S : St) : evCallFz T (evFL T) 72 args S = lendZ (evFL T 72) S [[0]] (lendAll S [[0]] args) := evCallFz0 fn72 rfl rfl rfl args S
attribute [go_sem] call72 callz72
theorem e72 (a0 : Int) (r : Bool) (h : m72 a0 = some r) : evFL T 72 [.int .i64 a0] [] = some (.bool r, []) := by
 unfold m72 at h
 rw [evFL_at fn72 (Nat.le_of_ble_eq_true rfl) rfl (.inr rfl) ⟨rfl, rfl⟩]
 obtain ⟨r3, q1, h⟩ := bnd_some h
 have w2 := e71 a0 0 4294967295 r3 q1
 try simp -implicitDefEqProofs only [go_sem] at w2
 cases h
 simp -implicitDefEqProofs only [go_sem, i72, c72, w2]
theorem call73 (args : List AV) (S : St) : evCall T (evFL T) 73 args S = lendC (evFL T 73) S (lendAll S [[0, 0]] args) := evCall0 fn73 rfl rfl rfl args S
theorem callz73 (args : List AV) (S : St) : evCallFz T (evFL T) 73 args S = lendZ (evFL T 73) S [[0]] (lendAll S [[0, 0]] args) := evCallFz0 fn73 rfl rfl rfl args S
attribute [go_sem] call73 callz73
theorem e73 (a0 : Prefix) (r : Int) (h : m73 a0 = some r) : evFL T 73 [.agg [.int .i64 a0.addr, .int .i64 a0.len]] [] = some (.int .i64 r, []) := by
 unfold m73 at h
 rw [evFL_at fn73 (Nat.le_of_ble_eq_true rfl) rfl (.inr rfl) ⟨rfl, rfl⟩]
 obtain ⟨g1, h⟩ := ck_some h
 try simp -implicitDefEqProofs only [go_sem] at g1
 cases h
 simp -implicitDefEqProofs only [go_sem, i73, c73, g1]
theorem call33 (args : List AV) (S : St) : evCall T (evFL T) 33 args S = lendC (evFL T 33) S (lendAll S [[0, 0]] args) := evCall0 fn33 rfl rfl rfl args S
theorem callz33 (args : List AV) (S : St) : evCallFz T (evFL T) 33 args S = lendZ (evFL T 33) S [[0]] (lendAll S [[0, 0]] args) := evCallFz0 fn33 rfl rfl rfl args S
attribute [go_sem] call33 callz33
noncomputable def X33_1 (a0 : Prefix) (o : Bool) : Ex × Fr × St :=
 (.normal, frOf 19 (upd anyF 2 (.bool o)), [])
theorem e33_1 (a0 : Prefix) (o : Bool) (h : m33_1 a0 = some o) : evCL T 0 k33_1 (frOf 19 (upd anyF 1 (.ptr 0 0 0))) [some ⟨.box, 2, [[.int .i64 a0.addr, .int .i64 a0.len]]⟩] = some (X33_1 a0 o) := by
 unfold m33_1 at h
 obtain ⟨r3, q1, h⟩ := bnd_some h
 have w2 := e71 a0.len 0 32 r3 q1
 try simp -implicitDefEqProofs only [go_sem] at w2
 try simp -implicitDefEqProofs only [go_sem, X33_1, k33_1, w2]
 cases b4 : (r3 : Bool)
 · replace h := br_f b4 h
   cases h
   simp -implicitDefEqProofs only [go_sem, X33_1, k33_1, w2, b4]
 · replace h := br_t b4 h
   obtain ⟨r7, q5, h⟩ := bnd_some h
   have w6 := e72 a0.addr r7 q5
   try simp -implicitDefEqProofs only [go_sem] at w6
   try simp -implicitDefEqProofs only [go_sem, X33_1, k33_1, w2, b4, w6]
   cases b8 : (r7 : Bool)
   · replace h := br_f b8 h
     cases h
     simp -implicitDefEqProofs only [go_sem, X33_1, k33_1, w2, b4, w6, b8]
   · replace h := br_t b8 h
     obtain ⟨r11, q9, h⟩ := bnd_some h
     have w10 := e73 a0 r11 q9
     try simp -implicitDefEqProofs only [go_sem] at w10
     obtain ⟨g12, h⟩ := ck_some h
     try simp -implicitDefEqProofs only [go_sem] at g12
     cases h
     simp -implicitDefEqProofs only [go_sem, X33_1, k33_1, w2, b4, w6, b8, w10, g12]
theorem e33 (a0 : Prefix) (r : Bool) (h : m33 a0 = some r) : evFL T 33 [.agg [.int .i64 a0.addr, .int .i64 a0.len]] [] = some (.bool r, []) := by
 unfold m33 at h
 rw [evFL_at fn33 (Nat.le_of_ble_eq_true rfl) rfl (.inr rfl) ⟨rfl, rfl⟩]
 obtain ⟨v15, q13, h⟩ := bnd_some h
 have w14 := e33_1 a0 v15 q13
 simp only [X33_1] at w14
 try simp -implicitDefEqProofs only [go_sem] at w14
 cases h
 simp -implicitDefEqProofs only [go_sem, i33, c33, w14]
theorem call34 (args : List AV) (S : St) : evCall T (evFL T) 34 args S = lendC (evFL T 34) S (lendAll S [[0, 1, 0, 0, 0, 1]] args) := evCall0 fn34 rfl rfl rfl args S
theorem callz34 (args : List AV) (S : St) : evCallFz T (evFL T) 34 args S = lendZ (evFL T 34) S [[0]] (lendAll S [[0, 1, 0, 0, 0, 1]] args) := evCallFz0 fn34 rfl rfl rfl args S
attribute [go_sem] call34 callz34
noncomputable def X34_1 (a0 : Attrs) (p1 : Int) (o : (Unit ⊕ Unit)) : Ex × Fr × St :=
 match o with
 | .inl o => (.exit 0, frOf 74 (upd anyF 1 (.ptr 0 0 0)), [some ⟨.box, 6, [[.int .i64 a0.origin, .ts .imm 1 (a0.path.map encInt), .int .i64 a0.next, .int .i64 a0.med, .int .i64 a0.pref, .ts .imm 1 (a0.comms.map encInt)]]⟩])
 | .inr o => (.ret, frOf 74 (upd anyF 2 (.bool false)), [])
noncomputable def E34_1 (a0 : Attrs) (p1 : Int) (s : Int) : Fr × St := (frOf 74 (upd (upd (upd (upd anyF 1 (.ptr 0 0 0)) 8 (.ts .imm 1 (a0.path.map encInt))) 9 (.int .i64 p1)) 10 (.int .i64 s)), [some ⟨.box, 6, [[.int .i64 a0.origin, .ts .imm 1 (a0.path.map encInt), .int .i64 a0.next, .int .i64 a0.med, .int .i64 a0.pref, .ts .imm 1 (a0.comms.map encInt)]]⟩])
theorem b34_1 (a0 : Attrs) (p1 : Int) (s : Int) (o : Ctl Int (Unit ⊕ Unit)) (h : m34_1b a0 p1 s = some o) : evCL T 0 k34_1b (E34_1 a0 p1 s).1 (E34_1 a0 p1 s).2 = some (ctlX (E34_1 a0 p1) (X34_1 a0 p1) o) := by
 unfold m34_1b at h
 revert h
 generalize s = s12
 intro h
 try simp -implicitDefEqProofs only [go_sem, E34_1, X34_1, k34_1b]
 cases b13 : (ltI s12 p1 : Bool)
 · replace h := br_f b13 h
   cases h
   simp -implicitDefEqProofs only [go_sem, E34_1, X34_1, k34_1b, b13]
 · replace h := br_t b13 h
   obtain ⟨x14, q15, h⟩ := bnd_some h
   obtain ⟨g16, g17, g18⟩ := idx_row encInt q15
   try simp -implicitDefEqProofs only [go_sem] at g17
   try simp -implicitDefEqProofs only [go_sem] at g18
   obtain ⟨r21, q19, h⟩ := bnd_some h
   have w20 := e71 x14 1 65535 r21 q19
   try simp -implicitDefEqProofs only [go_sem] at w20
   try simp -implicitDefEqProofs only [go_sem, E34_1, X34_1, k34_1b, b13, g16, g17, g18, w20]
   cases b22 : (r21 : Bool)
   · replace h := br_f b22 h
     cases h
     simp -implicitDefEqProofs only [go_sem, E34_1, X34_1, k34_1b, b13, g16, g17, g18, w20, b22]
   · replace h := br_t b22 h
     cases h
     simp -implicitDefEqProofs only [go_sem, E34_1, X34_1, k34_1b, b13, g16, g17, g18, w20, b22]
theorem e34_1 (a0 : Attrs) (p1 : Int) (s : Int) (o : (Unit ⊕ Unit)) (h : loopP (m34_1b a0 p1) s = some o) : evCL T 0 (.loop k34_1b) (E34_1 a0 p1 s).1 (E34_1 a0 p1 s).2 = some (X34_1 a0 p1 o) :=
 loop_walk (E := E34_1 a0 p1) (X := X34_1 a0 p1) (by intro b; rcases b with b | b <;> (simp only [X34_1]; nofun)) (b34_1 a0 p1) s o h
noncomputable def X34_4 (s46 : Int) (x48 : Int) (a0 : Attrs) (p25 : Int) (o : Bool) : Ex × Fr × St :=
 (.normal, frOf 74 (upd (upd (upd (upd (upd anyF 1 (.ptr 0 0 0)) 19 (.ts .imm 1 (a0.comms.map encInt))) 20 (.int .i64 p25)) 21 (.int .i64 s46)) 42 (.bool o)), [some ⟨.box, 6, [[.int .i64 a0.origin, .ts .imm 1 (a0.path.map encInt), .int .i64 a0.next, .int .i64 a0.med, .int .i64 a0.pref, .ts .imm 1 (a0.comms.map encInt)]]⟩])
theorem e34_4 (s46 : Int) (x48 : Int) (a0 : Attrs) (p25 : Int) (o : Bool) (h : m34_4 s46 x48 a0 = some o) : evCL T 0 k34_4 (frOf 74 (upd (upd (upd (upd (upd (upd anyF 1 (.ptr 0 0 0)) 5 (.int .i64 s46)) 6 (.int .i64 x48)) 19 (.ts .imm 1 (a0.comms.map encInt))) 20 (.int .i64 p25)) 21 (.int .i64 s46))) [some ⟨.box, 6, [[.int .i64 a0.origin, .ts .imm 1 (a0.path.map encInt), .int .i64 a0.next, .int .i64 a0.med, .int .i64 a0.pref, .ts .imm 1 (a0.comms.map encInt)]]⟩] = some (X34_4 s46 x48 a0 p25 o) := by
 unfold m34_4 at h
 obtain ⟨r55, q53, h⟩ := bnd_some h
 have w54 := e71 x48 0 1000000 r55 q53
 try simp -implicitDefEqProofs only [go_sem] at w54
 try simp -implicitDefEqProofs only [go_sem, X34_4, k34_4, w54]
 cases b56 : (r55 : Bool)
 · replace h := br_f b56 h
   cases h
   simp -implicitDefEqProofs only [go_sem, X34_4, k34_4, w54, b56]
 · replace h := br_t b56 h
   try simp -implicitDefEqProofs only [go_sem, X34_4, k34_4, w54, b56]
   cases b57 : (ltI 0 s46 : Bool)
   · replace h := br_f b57 h
     cases h
     simp -implicitDefEqProofs only [go_sem, X34_4, k34_4, w54, b56, b57]
   · replace h := br_t b57 h
     obtain ⟨x58, q59, h⟩ := bnd_some h
     obtain ⟨g60, g61, g62⟩ := idx_row encInt q59
     try simp -implicitDefEqProofs only [go_sem] at g61
     try simp -implicitDefEqProofs only [go_sem] at g62
     cases h
     simp -implicitDefEqProofs only [go_sem, X34_4, k34_4, w54, b56, b57, g60, g61, g62]
noncomputable def X34_2 (a0 : Attrs) (p25 : Int) (o : (Unit ⊕ Unit)) : Ex × Fr × St :=
 match o with
 | .inl o => (.exit 2, frOf 74 (upd anyF 1 (.ptr 0 0 0)), [some ⟨.box, 6, [[.int .i64 a0.origin, .ts .imm 1 (a0.path.map encInt), .int .i64 a0.next, .int .i64 a0.med, .int .i64 a0.pref, .ts .imm 1 (a0.comms.map encInt)]]⟩])
 | .inr o => (.ret, frOf 74 (upd anyF 2 (.bool false)), [])
noncomputable def E34_2 (a0 : Attrs) (p25 : Int) (s : Int) : Fr × St := (frOf 74 (upd (upd (upd (upd anyF 1 (.ptr 0 0 0)) 19 (.ts .imm 1 (a0.comms.map encInt))) 20 (.int .i64 p25)) 21 (.int .i64 s)), [some ⟨.box, 6, [[.int .i64 a0.origin, .ts .imm 1 (a0.path.map encInt), .int .i64 a0.next, .int .i64 a0.med, .int .i64 a0.pref, .ts .imm 1 (a0.comms.map encInt)]]⟩])
theorem b34_2 (a0 : Attrs) (p25 : Int) (s : Int) (o : Ctl Int (Unit ⊕ Unit)) (h : m34_2b a0 p25 s = some o) : evCL T 0 k34_2b (E34_2 a0 p25 s).1 (E34_2 a0 p25 s).2 = some (ctlX (E34_2 a0 p25) (X34_2 a0 p25) o) := by
 unfold m34_2b at h
 revert h
 generalize s = s46
 intro h
 try simp -implicitDefEqProofs only [go_sem, E34_2, X34_2, k34_2b]
 cases b47 : (ltI s46 p25 : Bool)
 · replace h := br_f b47 h
   cases h
   simp -implicitDefEqProofs only [go_sem, E34_2, X34_2, k34_2b, b47]
 · replace h := br_t b47 h
   obtain ⟨x48, q49, h⟩ := bnd_some h
   obtain ⟨g50, g51, g52⟩ := idx_row encInt q49
   try simp -implicitDefEqProofs only [go_sem] at g51
   try simp -implicitDefEqProofs only [go_sem] at g52
   obtain ⟨v65, q63, h⟩ := bnd_some h
   have w64 := e34_4 s46 x48 a0 p25 v65 q63
   simp only [X34_4] at w64
   try simp -implicitDefEqProofs only [go_sem] at w64
   try simp -implicitDefEqProofs only [go_sem, E34_2, X34_2, k34_2b, b47, g50, g51, g52, w64]
   cases b66 : (v65 : Bool)
   · replace h := br_f b66 h
     cases h
     simp -implicitDefEqProofs only [go_sem, E34_2, X34_2, k34_2b, b47, g50, g51, g52, w64, b66]
   · replace h := br_t b66 h
     cases h
     simp -implicitDefEqProofs only [go_sem, E34_2, X34_2, k34_2b, b47, g50, g51, g52, w64, b66]
theorem e34_2 (a0 : Attrs) (p25 : Int) (s : Int) (o : (Unit ⊕ Unit)) (h : loopP (m34_2b a0 p25) s = some o) : evCL T 0 (.loop k34_2b) (E34_2 a0 p25 s).1 (E34_2 a0 p25 s).2 = some (X34_2 a0 p25 o) :=
 loop_walk (E := E34_2 a0 p25) (X := X34_2 a0 p25) (by intro b; rcases b with b | b <;> (simp only [X34_2]; nofun)) (b34_2 a0 p25) s o h
noncomputable def X34_5 (a0 : Attrs) (o : Bool) : Ex × Fr × St :=
 (.normal, frOf 74 (upd anyF 2 (.bool o)), [])
theorem e34_5 (a0 : Attrs) (o : Bool) (h : m34_5 a0 = some o) : evCL T 0 k34_5 (frOf 74 (upd anyF 1 (.ptr 0 0 0))) [some ⟨.box, 6, [[.int .i64 a0.origin, .ts .imm 1 (a0.path.map encInt), .int .i64 a0.next, .int .i64 a0.med, .int .i64 a0.pref, .ts .imm 1 (a0.comms.map encInt)]]⟩] = some (X34_5 a0 o) := by
 unfold m34_5 at h
 obtain ⟨r71, q69, h⟩ := bnd_some h
 have w70 := e71 a0.origin 0 2 r71 q69
 try simp -implicitDefEqProofs only [go_sem] at w70
 try simp -implicitDefEqProofs only [go_sem, X34_5, k34_5, w70]
 cases b72 : (r71 : Bool)
 · replace h := br_f b72 h
   cases h
   simp -implicitDefEqProofs only [go_sem, X34_5, k34_5, w70, b72]
 · replace h := br_t b72 h
   try simp -implicitDefEqProofs only [go_sem, X34_5, k34_5, w70, b72]
   cases b73 : (leI (↑a0.path.length : Int) 10 : Bool)
   · replace h := br_f b73 h
     cases h
     simp -implicitDefEqProofs only [go_sem, X34_5, k34_5, w70, b72, b73]
   · replace h := br_t b73 h
     obtain ⟨r76, q74, h⟩ := bnd_some h
     have w75 := e72 a0.next r76 q74
     try simp -implicitDefEqProofs only [go_sem] at w75
     try simp -implicitDefEqProofs only [go_sem, X34_5, k34_5, w70, b72, b73, w75]
     cases b77 : (r76 : Bool)
     · replace h := br_f b77 h
       cases h
       simp -implicitDefEqProofs only [go_sem, X34_5, k34_5, w70, b72, b73, w75, b77]
     · replace h := br_t b77 h
       obtain ⟨r80, q78, h⟩ := bnd_some h
       have w79 := e71 a0.med 0 1000000 r80 q78
       try simp -implicitDefEqProofs only [go_sem] at w79
       try simp -implicitDefEqProofs only [go_sem, X34_5, k34_5, w70, b72, b73, w75, b77, w79]
       cases b81 : (r80 : Bool)
       · replace h := br_f b81 h
         cases h
         simp -implicitDefEqProofs only [go_sem, X34_5, k34_5, w70, b72, b73, w75, b77, w79, b81]
       · replace h := br_t b81 h
         obtain ⟨r84, q82, h⟩ := bnd_some h
         have w83 := e71 a0.pref 0 1000000 r84 q82
         try simp -implicitDefEqProofs only [go_sem] at w83
         try simp -implicitDefEqProofs only [go_sem, X34_5, k34_5, w70, b72, b73, w75, b77, w79, b81, w83]
         cases b85 : (r84 : Bool)
         · replace h := br_f b85 h
           cases h
           simp -implicitDefEqProofs only [go_sem, X34_5, k34_5, w70, b72, b73, w75, b77, w79, b81, w83, b85]
         · replace h := br_t b85 h
           cases h
           simp -implicitDefEqProofs only [go_sem, X34_5, k34_5, w70, b72, b73, w75, b77, w79, b81, w83, b85]
theorem e34 (a0 : Attrs) (r : Bool) (h : m34 a0 = some r) : evFL T 34 [.agg [.int .i64 a0.origin, .ts .imm 1 (a0.path.map encInt), .int .i64 a0.next, .int .i64 a0.med, .int .i64 a0.pref, .ts .imm 1 (a0.comms.map encInt)]] [] = some (.bool r, []) := by
 unfold m34 at h
 rw [evFL_at fn34 (Nat.le_of_ble_eq_true rfl) rfl (.inr rfl) ⟨rfl, rfl⟩]
 try simp -implicitDefEqProofs only [go_sem, i34, c34]
 obtain ⟨o, q23, h⟩ := bnd_some h
 rcases o with ⟨⟩ | ⟨⟩
 · replace h := selS_l h
   have w24 := e34_1 a0 (↑a0.path.length : Int) 0 (.inl ()) q23
   simp only [E34_1, X34_1] at w24
   try simp -implicitDefEqProofs only [go_sem] at w24
   try simp -implicitDefEqProofs only [go_sem, i34, c34, w24]
   obtain ⟨o, q67, h⟩ := bnd_some h
   rcases o with ⟨⟩ | ⟨⟩
   · replace h := selS_l h
     have w68 := e34_2 a0 (↑a0.comms.length : Int) 0 (.inl ()) q67
     simp only [E34_2, X34_2] at w68
     try simp -implicitDefEqProofs only [go_sem] at w68
     obtain ⟨v88, q86, h⟩ := bnd_some h
     have w87 := e34_5 a0 v88 q86
     simp only [X34_5] at w87
     try simp -implicitDefEqProofs only [go_sem] at w87
     cases h
     simp -implicitDefEqProofs only [go_sem, i34, c34, w24, w68, w87]
   · replace h := selS_r h
     have w68 := e34_2 a0 (↑a0.comms.length : Int) 0 (.inr ()) q67
     simp only [E34_2, X34_2] at w68
     try simp -implicitDefEqProofs only [go_sem] at w68
     cases h
     simp -implicitDefEqProofs only [go_sem, i34, c34, w24, w68]
 · replace h := selS_r h
   have w24 := e34_1 a0 (↑a0.path.length : Int) 0 (.inr ()) q23
   simp only [E34_1, X34_1] at w24
   try simp -implicitDefEqProofs only [go_sem] at w24
   cases h
   simp -implicitDefEqProofs only [go_sem, i34, c34, w24]
theorem call9 (args : List AV) (S : St) : evCall T (evFL T) 9 args S = lendC (evFL T 9) S (lendAll S [[0, 0, 0, 1, 0, 0, 0, 1]] args) := evCall0 fn9 rfl rfl rfl args S
theorem callz9 (args : List AV) (S : St) : evCallFz T (evFL T) 9 args S = lendZ (evFL T 9) S [[0]] (lendAll S [[0, 0, 0, 1, 0, 0, 0, 1]] args) := evCallFz0 fn9 rfl rfl rfl args S
attribute [go_sem] call9 callz9
noncomputable def X9_1 (a0 : Route) (o : Bool) : Ex × Fr × St :=
 (.normal, frOf 11 (upd anyF 2 (.bool o)), [])
theorem e9_1 (a0 : Route) (o : Bool) (h : m9_1 a0 = some o) : evCL T 0 k9_1 (frOf 11 (upd anyF 1 (.ptr 0 0 0))) [some ⟨.box, 8, [[.int .i64 a0.prefix_.addr, .int .i64 a0.prefix_.len, .int .i64 a0.attrs.origin, .ts .imm 1 (a0.attrs.path.map encInt), .int .i64 a0.attrs.next, .int .i64 a0.attrs.med, .int .i64 a0.attrs.pref, .ts .imm 1 (a0.attrs.comms.map encInt)]]⟩] = some (X9_1 a0 o) := by
 unfold m9_1 at h
 obtain ⟨r3, q1, h⟩ := bnd_some h
 have w2 := e33 a0.prefix_ r3 q1
 try simp -implicitDefEqProofs only [go_sem] at w2
 try simp -implicitDefEqProofs only [go_sem, X9_1, k9_1, w2]
 cases b4 : (r3 : Bool)
 · replace h := br_f b4 h
   cases h
   simp -implicitDefEqProofs only [go_sem, X9_1, k9_1, w2, b4]
 · replace h := br_t b4 h
   obtain ⟨r7, q5, h⟩ := bnd_some h
   have w6 := e34 a0.attrs r7 q5
   try simp -implicitDefEqProofs only [go_sem] at w6
   cases h
   simp -implicitDefEqProofs only [go_sem, X9_1, k9_1, w2, b4, w6]
theorem e9 (a0 : Route) (r : Bool) (h : m9 a0 = some r) : evFL T 9 [.agg [.int .i64 a0.prefix_.addr, .int .i64 a0.prefix_.len, .int .i64 a0.attrs.origin, .ts .imm 1 (a0.attrs.path.map encInt), .int .i64 a0.attrs.next, .int .i64 a0.attrs.med, .int .i64 a0.attrs.pref, .ts .imm 1 (a0.attrs.comms.map encInt)]] [] = some (.bool r, []) := by
 unfold m9 at h
 rw [evFL_at fn9 (Nat.le_of_ble_eq_true rfl) rfl (.inr rfl) ⟨rfl, rfl⟩]
 obtain ⟨v10, q8, h⟩ := bnd_some h
 have w9 := e9_1 a0 v10 q8
 simp only [X9_1] at w9
 try simp -implicitDefEqProofs only [go_sem] at w9
 cases h
 simp -implicitDefEqProofs only [go_sem, i9, c9, w9]
theorem call89 (args : List AV) (S : St) : evCall T (evFL T) 89 args S = lendC (evFL T 89) S (lendAll S [[0, 1, 0, 0, 0, 1]] args) := evCall0 fn89 rfl rfl rfl args S
theorem callz89 (args : List AV) (S : St) : evCallFz T (evFL T) 89 args S = lendZ (evFL T 89) S [[0, 1, 0, 0, 0, 1]] (lendAll S [[0, 1, 0, 0, 0, 1]] args) := evCallFz0 fn89 rfl rfl rfl args S
attribute [go_sem] call89 callz89
theorem e89 (a0 : Attrs) (r : Attrs) (h : m89 a0 = some r) : evFL T 89 [.agg [.int .i64 a0.origin, .ts .imm 1 (a0.path.map encInt), .int .i64 a0.next, .int .i64 a0.med, .int .i64 a0.pref, .ts .imm 1 (a0.comms.map encInt)]] [] = some (.agg [.int .i64 r.origin, .sl 0 0 r.path.length, .int .i64 r.next, .int .i64 r.med, .int .i64 r.pref, .sl 1 0 r.comms.length], [some ⟨.arr, 1, r.path.map encInt⟩, some ⟨.arr, 1, r.comms.map encInt⟩]) := by
 unfold m89 at h
 rw [evFL_at fn89 (Nat.le_of_ble_eq_true rfl) rfl (.inr rfl) ⟨rfl, rfl⟩]
 obtain ⟨g1, h⟩ := ck_some h
 try simp -implicitDefEqProofs only [go_sem] at g1
 obtain ⟨g2, h⟩ := ck_some h
 try simp -implicitDefEqProofs only [go_sem] at g2
 cases h
 simp -implicitDefEqProofs only [go_sem, i89, c89, g1, g2]
theorem call90 (args : List AV) (S : St) : evCall T (evFL T) 90 args S = c3A true true (evFL T 90) (rawAll S [[1], [0]] args) := evCall3_g fn90 rfl (fun h => absurd h.1 (by decide)) args S
attribute [go_sem] call90
noncomputable def X90_3 (a1 : Int) (s11 : Int) (a0 : (List Int)) (o : Bool) : Ex × Fr × St :=
 (.normal, frOf 48 (upd (upd (upd (upd anyF 0 (.sl 1 0 a0.length)) 1 (.int .i64 a1)) 5 (.int .i64 s11)) 18 (.bool o)), [none, some ⟨.arr, 1, a0.map encInt⟩])
theorem e90_3 (a1 : Int) (s11 : Int) (a0 : (List Int)) (o : Bool) (h : m90_3 a1 s11 a0 = some o) : evCL T 1 k90_3 (frOf 48 (upd (upd (upd anyF 0 (.sl 1 0 a0.length)) 1 (.int .i64 a1)) 5 (.int .i64 s11))) [none, some ⟨.arr, 1, a0.map encInt⟩] = some (X90_3 a1 s11 a0 o) := by
 unfold m90_3 at h
 try simp -implicitDefEqProofs only [go_sem, X90_3, k90_3]
 cases b12 : (ltI s11 (↑a0.length : Int) : Bool)
 · replace h := br_f b12 h
   cases h
   simp -implicitDefEqProofs only [go_sem, X90_3, k90_3, b12]
 · replace h := br_t b12 h
   obtain ⟨x13, q14, h⟩ := bnd_some h
   obtain ⟨g15, g16, g17⟩ := idx_row encInt q14
   try simp -implicitDefEqProofs only [go_sem] at g16
   try simp -implicitDefEqProofs only [go_sem] at g17
   cases h
   simp -implicitDefEqProofs only [go_sem, X90_3, k90_3, b12, g15, g16, g17]
noncomputable def X90_1 (a1 : Int) (a0 : (List Int)) (o : Int) : Ex × Fr × St :=
 (.exit 0, frOf 48 (upd (upd (upd anyF 0 (.sl 1 0 a0.length)) 1 (.int .i64 a1)) 5 (.int .i64 o)), [none, some ⟨.arr, 1, a0.map encInt⟩])
noncomputable def E90_1 (a1 : Int) (a0 : (List Int)) (s : Int) : Fr × St := (frOf 48 (upd (upd (upd anyF 0 (.sl 1 0 a0.length)) 1 (.int .i64 a1)) 5 (.int .i64 s)), [none, some ⟨.arr, 1, a0.map encInt⟩])
theorem b90_1 (a1 : Int) (a0 : (List Int)) (s : Int) (o : Ctl Int Int) (h : m90_1b a1 a0 s = some o) : evCL T 1 k90_1b (E90_1 a1 a0 s).1 (E90_1 a1 a0 s).2 = some (ctlX (E90_1 a1 a0) (X90_1 a1 a0) o) := by
 unfold m90_1b at h
 revert h
 generalize s = s11
 intro h
 obtain ⟨v20, q18, h⟩ := bnd_some h
 have w19 := e90_3 a1 s11 a0 v20 q18
 simp only [X90_3] at w19
 try simp -implicitDefEqProofs only [go_sem] at w19
 try simp -implicitDefEqProofs only [go_sem, E90_1, X90_1, k90_1b, w19]
 cases b21 : (v20 : Bool)
 · replace h := br_f b21 h
   cases h
   simp -implicitDefEqProofs only [go_sem, E90_1, X90_1, k90_1b, w19, b21]
 · replace h := br_t b21 h
   cases h
   simp -implicitDefEqProofs only [go_sem, E90_1, X90_1, k90_1b, w19, b21]
theorem e90_1 (a1 : Int) (a0 : (List Int)) (s : Int) (o : Int) (h : loopP (m90_1b a1 a0) s = some o) : evCL T 1 (.loop k90_1b) (E90_1 a1 a0 s).1 (E90_1 a1 a0 s).2 = some (X90_1 a1 a0 o) :=
 loop_walk (E := E90_1 a1 a0) (X := X90_1 a1 a0) (by intro b; (simp only [X90_1]; nofun)) (b90_1 a1 a0) s o h
noncomputable def X90_4 (a1 : Int) (v24 : Int) (a0 : (List Int)) (o : Bool) : Ex × Fr × St :=
 (.normal, frOf 48 (upd (upd (upd (upd anyF 0 (.sl 1 0 a0.length)) 1 (.int .i64 a1)) 5 (.int .i64 v24)) 32 (.bool o)), [none, some ⟨.arr, 1, a0.map encInt⟩])
theorem e90_4 (a1 : Int) (v24 : Int) (a0 : (List Int)) (o : Bool) (h : m90_4 a1 v24 a0 = some o) : evCL T 1 k90_4 (frOf 48 (upd (upd (upd anyF 0 (.sl 1 0 a0.length)) 1 (.int .i64 a1)) 5 (.int .i64 v24))) [none, some ⟨.arr, 1, a0.map encInt⟩] = some (X90_4 a1 v24 a0 o) := by
 unfold m90_4 at h
 try simp -implicitDefEqProofs only [go_sem, X90_4, k90_4]
 cases b25 : (ltI v24 (↑a0.length : Int) : Bool)
 · replace h := br_f b25 h
   cases h
   simp -implicitDefEqProofs only [go_sem, X90_4, k90_4, b25]
 · replace h := br_t b25 h
   obtain ⟨x26, q27, h⟩ := bnd_some h
   obtain ⟨g28, g29, g30⟩ := idx_row encInt q27
   try simp -implicitDefEqProofs only [go_sem] at g29
   try simp -implicitDefEqProofs only [go_sem] at g30
   cases h
   simp -implicitDefEqProofs only [go_sem, X90_4, k90_4, b25, g28, g29, g30]
theorem e90 (a0 : (List Int)) (a1 : Int) (r : List Int) (h : m90 a0 a1 = some r) : evFL T 90 [.sl 0 0 a0.length, .int .i64 a1] [some ⟨.arr, 1, a0.map encInt⟩] = some (.sl 1 0 r.length, [none, some ⟨.arr, 1, r.map encInt⟩]) := by
 unfold m90 at h
 rw [evFL_at fn90 (Nat.le_of_ble_eq_true rfl) rfl (.inl rfl) ⟨rfl, rfl⟩]
 obtain ⟨v24, q22, h⟩ := bnd_some h
 have w23 := e90_1 a1 a0 0 v24 q22
 simp only [E90_1, X90_1] at w23
 try simp -implicitDefEqProofs only [go_sem] at w23
 obtain ⟨v33, q31, h⟩ := bnd_some h
 have w32 := e90_4 a1 v24 a0 v33 q31
 simp only [X90_4] at w32
 try simp -implicitDefEqProofs only [go_sem] at w32
 try simp -implicitDefEqProofs only [go_sem, i90, c90, w23, w32]
 cases b34 : (v33 : Bool)
 · replace h := br_f b34 h
   obtain ⟨g35, h⟩ := ck_some h
   try simp -implicitDefEqProofs only [go_sem] at g35
   have g36 : 0 + (v24.toNat) ≤ a0.length := by (try simp only [List.length_take, List.length_drop, List.length_append, List.length_set, List.length_cons, List.length_nil]); omega
   have g37 : v24.toNat ≤ a0.length := by (try simp only [List.length_take, List.length_drop, List.length_append, List.length_set, List.length_cons, List.length_nil]); omega
   obtain ⟨g38, h⟩ := ck_some h
   try simp -implicitDefEqProofs only [go_sem] at g38
   try simp -implicitDefEqProofs only [go_sem, g36, g37] at g38
   obtain ⟨g39, h⟩ := ck_some h
   try simp -implicitDefEqProofs only [go_sem] at g39
   try simp -implicitDefEqProofs only [go_sem, g36, g37] at g39
   obtain ⟨g40, h⟩ := ck_some h
   try simp -implicitDefEqProofs only [go_sem] at g40
   have g41 : v24.toNat + (a0.length - v24.toNat) ≤ a0.length := by (try simp only [List.length_take, List.length_drop, List.length_append, List.length_set, List.length_cons, List.length_nil]); omega
   obtain ⟨g42, h⟩ := ck_some h
   try simp -implicitDefEqProofs only [go_sem] at g42
   try simp -implicitDefEqProofs only [go_sem, g36, g37, g41] at g42
   cases h
   simp -implicitDefEqProofs only [go_sem, i90, c90, w23, w32, b34, g35, g36, g37, g38, g39, g40, g41, g42]
 · replace h := br_t b34 h
   cases h
   simp -implicitDefEqProofs only [go_sem, i90, c90, w23, w32, b34]
theorem call49 (args : List AV) (S : St) : evCall T (evFL T) 49 args S = lendC (evFL T 49) S (lendAll S [[0, 0], [0, 0, 0, 1, 0, 0, 0, 1]] args) := evCall0 fn49 rfl rfl rfl args S
theorem callz49 (args : List AV) (S : St) : evCallFz T (evFL T) 49 args S = lendZ (evFL T 49) S [[0, 0, 0, 1, 0, 0, 0, 1]] (lendAll S [[0, 0], [0, 0, 0, 1, 0, 0, 0, 1]] args) := evCallFz0 fn49 rfl rfl rfl args S
attribute [go_sem] call49 callz49
noncomputable def X49_7 (x31 : Int) (a1 : Route) (p16 : Int) (s28 : Int) (p36 : Bool) (a0 : Acn) (p5 : Prefix) (r3 : Attrs) (s29 : List Int) (o : (List Int)) : Ex × Fr × St :=
 (.normal, frOf 73 (upd (upd (upd (upd (upd (upd (upd anyF 2 (.ptr 0 0 0)) 4 (.ptr 1 0 0)) 5 (.ptr 4 0 0)) 6 (.sl 7 0 o.length)) 43 (.ts .imm 1 (a1.attrs.comms.map encInt))) 44 (.int .i64 p16)) 45 (.int .i64 s28)), [some ⟨.box, 2, [[.int .i64 a0.kind, .int .i64 a0.n]]⟩, some ⟨.box, 8, [[.int .i64 p5.addr, .int .i64 p5.len, .int .i64 0, .sl 2 0 0, .int .i64 0, .int .i64 0, .int .i64 0, .sl 3 0 0]]⟩, some ⟨.arr, 1, []⟩, some ⟨.arr, 1, []⟩, some ⟨.box, 8, [[.int .i64 a1.prefix_.addr, .int .i64 a1.prefix_.len, .int .i64 r3.origin, .sl 5 0 r3.path.length, .int .i64 r3.next, .int .i64 r3.med, .int .i64 r3.pref, .sl 6 0 r3.comms.length]]⟩, some ⟨.arr, 1, r3.path.map encInt⟩, some ⟨.arr, 1, r3.comms.map encInt⟩, some ⟨.arr, 1, o.map encInt⟩])
theorem e49_7 (x31 : Int) (a1 : Route) (p16 : Int) (s28 : Int) (p36 : Bool) (a0 : Acn) (p5 : Prefix) (r3 : Attrs) (s29 : List Int) (o : (List Int)) (h : m49_7 x31 p36 s29 = some o) : evCL T 0 k49_7 (frOf 73 (upd (upd (upd (upd (upd (upd (upd (upd (upd anyF 2 (.ptr 0 0 0)) 4 (.ptr 1 0 0)) 5 (.ptr 4 0 0)) 6 (.sl 7 0 s29.length)) 8 (.int .i64 x31)) 43 (.ts .imm 1 (a1.attrs.comms.map encInt))) 44 (.int .i64 p16)) 45 (.int .i64 s28)) 52 (.bool p36))) [some ⟨.box, 2, [[.int .i64 a0.kind, .int .i64 a0.n]]⟩, some ⟨.box, 8, [[.int .i64 p5.addr, .int .i64 p5.len, .int .i64 0, .sl 2 0 0, .int .i64 0, .int .i64 0, .int .i64 0, .sl 3 0 0]]⟩, some ⟨.arr, 1, []⟩, some ⟨.arr, 1, []⟩, some ⟨.box, 8, [[.int .i64 a1.prefix_.addr, .int .i64 a1.prefix_.len, .int .i64 r3.origin, .sl 5 0 r3.path.length, .int .i64 r3.next, .int .i64 r3.med, .int .i64 r3.pref, .sl 6 0 r3.comms.length]]⟩, some ⟨.arr, 1, r3.path.map encInt⟩, some ⟨.arr, 1, r3.comms.map encInt⟩, some ⟨.arr, 1, s29.map encInt⟩] = some (X49_7 x31 a1 p16 s28 p36 a0 p5 r3 s29 o) := by
 unfold m49_7 at h
 try simp -implicitDefEqProofs only [go_sem, X49_7, k49_7]
 cases b37 : (p36 : Bool)
 · replace h := br_f b37 h
   cases h
   simp -implicitDefEqProofs only [go_sem, X49_7, k49_7, b37]
 · replace h := br_t b37 h
   obtain ⟨g38, h⟩ := ck_some h
   try simp -implicitDefEqProofs only [go_sem] at g38
   cases h
   simp -implicitDefEqProofs only [go_sem, X49_7, k49_7, b37, g38]
noncomputable def X49_5 (a1 : Route) (p16 : Int) (a0 : Acn) (p5 : Prefix) (r3 : Attrs) (o : (List Int)) : Ex × Fr × St :=
 (.exit 1, frOf 73 (upd (upd (upd anyF 4 (.ptr 0 0 0)) 5 (.ptr 3 0 0)) 6 (.sl 6 0 o.length)), [some ⟨.box, 8, [[.int .i64 p5.addr, .int .i64 p5.len, .int .i64 0, .sl 1 0 0, .int .i64 0, .int .i64 0, .int .i64 0, .sl 2 0 0]]⟩, some ⟨.arr, 1, []⟩, some ⟨.arr, 1, []⟩, some ⟨.box, 8, [[.int .i64 a1.prefix_.addr, .int .i64 a1.prefix_.len, .int .i64 r3.origin, .sl 4 0 r3.path.length, .int .i64 r3.next, .int .i64 r3.med, .int .i64 r3.pref, .sl 5 0 r3.comms.length]]⟩, some ⟨.arr, 1, r3.path.map encInt⟩, some ⟨.arr, 1, r3.comms.map encInt⟩, some ⟨.arr, 1, o.map encInt⟩])
noncomputable def E49_5 (a1 : Route) (p16 : Int) (a0 : Acn) (p5 : Prefix) (r3 : Attrs) (s : (Int × List Int)) : Fr × St := (frOf 73 (upd (upd (upd (upd (upd (upd (upd anyF 2 (.ptr 0 0 0)) 4 (.ptr 1 0 0)) 5 (.ptr 4 0 0)) 6 (.sl 7 0 s.2.length)) 43 (.ts .imm 1 (a1.attrs.comms.map encInt))) 44 (.int .i64 p16)) 45 (.int .i64 s.1)), [some ⟨.box, 2, [[.int .i64 a0.kind, .int .i64 a0.n]]⟩, some ⟨.box, 8, [[.int .i64 p5.addr, .int .i64 p5.len, .int .i64 0, .sl 2 0 0, .int .i64 0, .int .i64 0, .int .i64 0, .sl 3 0 0]]⟩, some ⟨.arr, 1, []⟩, some ⟨.arr, 1, []⟩, some ⟨.box, 8, [[.int .i64 a1.prefix_.addr, .int .i64 a1.prefix_.len, .int .i64 r3.origin, .sl 5 0 r3.path.length, .int .i64 r3.next, .int .i64 r3.med, .int .i64 r3.pref, .sl 6 0 r3.comms.length]]⟩, some ⟨.arr, 1, r3.path.map encInt⟩, some ⟨.arr, 1, r3.comms.map encInt⟩, some ⟨.arr, 1, s.2.map encInt⟩])
theorem b49_5 (a1 : Route) (p16 : Int) (a0 : Acn) (p5 : Prefix) (r3 : Attrs) (s : (Int × List Int)) (o : Ctl (Int × List Int) (List Int)) (h : m49_5b a1 p16 a0 s = some o) : evCL T 0 k49_5b (E49_5 a1 p16 a0 p5 r3 s).1 (E49_5 a1 p16 a0 p5 r3 s).2 = some (ctlX (E49_5 a1 p16 a0 p5 r3) (X49_5 a1 p16 a0 p5 r3) o) := by
 unfold m49_5b at h
 obtain ⟨s28, s29⟩ := s
 replace h := sel2_some h
 try simp -implicitDefEqProofs only [go_sem, E49_5, X49_5, k49_5b]
 cases b30 : (ltI s28 p16 : Bool)
 · replace h := br_f b30 h
   cases h
   simp -implicitDefEqProofs only [go_sem, E49_5, X49_5, k49_5b, b30]
 · replace h := br_t b30 h
   obtain ⟨x31, q32, h⟩ := bnd_some h
   obtain ⟨g33, g34, g35⟩ := idx_row encInt q32
   try simp -implicitDefEqProofs only [go_sem] at g34
   try simp -implicitDefEqProofs only [go_sem] at g35
   obtain ⟨v41, q39, h⟩ := bnd_some h
   have w40 := e49_7 x31 a1 p16 s28 (!(eqI x31 a0.n)) a0 p5 r3 s29 v41 q39
   simp only [X49_7] at w40
   try simp -implicitDefEqProofs only [go_sem] at w40
   cases h
   simp -implicitDefEqProofs only [go_sem, E49_5, X49_5, k49_5b, b30, g33, g34, g35, w40]
theorem e49_5 (a1 : Route) (p16 : Int) (a0 : Acn) (p5 : Prefix) (r3 : Attrs) (s : (Int × List Int)) (o : (List Int)) (h : loopP (m49_5b a1 p16 a0) s = some o) : evCL T 0 (.loop k49_5b) (E49_5 a1 p16 a0 p5 r3 s).1 (E49_5 a1 p16 a0 p5 r3 s).2 = some (X49_5 a1 p16 a0 p5 r3 o) :=
 loop_walk (E := E49_5 a1 p16 a0 p5 r3) (X := X49_5 a1 p16 a0 p5 r3) (by intro b; (simp only [X49_5]; nofun)) (b49_5 a1 p16 a0 p5 r3) s o h
noncomputable def X49_8 (p45 : Bool) (a0 : Acn) (a1 : Route) (p5 : Prefix) (r3 : Attrs) (o : (List Int)) : Ex × Fr × St :=
 (.normal, frOf 73 (upd (upd anyF 4 (.ptr 0 0 0)) 5 (.ptr 3 0 0)), [some ⟨.box, 8, [[.int .i64 p5.addr, .int .i64 p5.len, .int .i64 0, .sl 1 0 0, .int .i64 0, .int .i64 0, .int .i64 0, .sl 2 0 0]]⟩, some ⟨.arr, 1, []⟩, some ⟨.arr, 1, []⟩, some ⟨.box, 8, [[.int .i64 a1.prefix_.addr, .int .i64 a1.prefix_.len, .int .i64 r3.origin, .sl 4 0 o.length, .int .i64 r3.next, .int .i64 r3.med, .int .i64 r3.pref, .sl 5 0 r3.comms.length]]⟩, some ⟨.arr, 1, o.map encInt⟩, some ⟨.arr, 1, r3.comms.map encInt⟩])
theorem e49_8 (p45 : Bool) (a0 : Acn) (a1 : Route) (p5 : Prefix) (r3 : Attrs) (o : (List Int)) (h : m49_8 p45 a0 a1 r3 = some o) : evCL T 0 k49_8 (frOf 73 (upd (upd (upd (upd (upd anyF 2 (.ptr 0 0 0)) 3 (.ptr 1 0 0)) 4 (.ptr 2 0 0)) 5 (.ptr 5 0 0)) 61 (.bool p45))) [some ⟨.box, 2, [[.int .i64 a0.kind, .int .i64 a0.n]]⟩, some ⟨.box, 8, [[.int .i64 a1.prefix_.addr, .int .i64 a1.prefix_.len, .int .i64 a1.attrs.origin, .ts .imm 1 (a1.attrs.path.map encInt), .int .i64 a1.attrs.next, .int .i64 a1.attrs.med, .int .i64 a1.attrs.pref, .ts .imm 1 (a1.attrs.comms.map encInt)]]⟩, some ⟨.box, 8, [[.int .i64 p5.addr, .int .i64 p5.len, .int .i64 0, .sl 3 0 0, .int .i64 0, .int .i64 0, .int .i64 0, .sl 4 0 0]]⟩, some ⟨.arr, 1, []⟩, some ⟨.arr, 1, []⟩, some ⟨.box, 8, [[.int .i64 a1.prefix_.addr, .int .i64 a1.prefix_.len, .int .i64 r3.origin, .sl 6 0 r3.path.length, .int .i64 r3.next, .int .i64 r3.med, .int .i64 r3.pref, .sl 7 0 r3.comms.length]]⟩, some ⟨.arr, 1, r3.path.map encInt⟩, some ⟨.arr, 1, r3.comms.map encInt⟩] = some (X49_8 p45 a0 a1 p5 r3 o) := by
 unfold m49_8 at h
 try simp -implicitDefEqProofs only [go_sem, X49_8, k49_8]
 cases b46 : (p45 : Bool)
 · replace h := br_f b46 h
   cases h
   simp -implicitDefEqProofs only [go_sem, X49_8, k49_8, b46]
 · replace h := br_t b46 h
   obtain ⟨g47, h⟩ := ck_some h
   try simp -implicitDefEqProofs only [go_sem] at g47
   cases h
   simp -implicitDefEqProofs only [go_sem, X49_8, k49_8, b46, g47]
noncomputable def X49_4 (a0 : Acn) (p14 : Bool) (a1 : Route) (p5 : Prefix) (r3 : Attrs) (o : (List Int × List Int)) : Ex × Fr × St :=
 (.normal, frOf 73 (upd (upd anyF 4 (.ptr 0 0 0)) 5 (.ptr 3 0 0)), [some ⟨.box, 8, [[.int .i64 p5.addr, .int .i64 p5.len, .int .i64 0, .sl 1 0 0, .int .i64 0, .int .i64 0, .int .i64 0, .sl 2 0 0]]⟩, some ⟨.arr, 1, []⟩, some ⟨.arr, 1, []⟩, some ⟨.box, 8, [[.int .i64 a1.prefix_.addr, .int .i64 a1.prefix_.len, .int .i64 r3.origin, .sl 4 0 o.1.length, .int .i64 r3.next, .int .i64 r3.med, .int .i64 r3.pref, .sl 5 0 o.2.length]]⟩, some ⟨.arr, 1, o.1.map encInt⟩, some ⟨.arr, 1, o.2.map encInt⟩])
theorem e49_4 (a0 : Acn) (p14 : Bool) (a1 : Route) (p5 : Prefix) (r3 : Attrs) (o : (List Int × List Int)) (h : m49_4 a0 p14 a1 r3 = some o) : evCL T 0 k49_4 (frOf 73 (upd (upd (upd (upd (upd (upd anyF 2 (.ptr 0 0 0)) 3 (.ptr 1 0 0)) 4 (.ptr 2 0 0)) 5 (.ptr 5 0 0)) 16 (.int .i64 a0.kind)) 39 (.bool p14))) [some ⟨.box, 2, [[.int .i64 a0.kind, .int .i64 a0.n]]⟩, some ⟨.box, 8, [[.int .i64 a1.prefix_.addr, .int .i64 a1.prefix_.len, .int .i64 a1.attrs.origin, .ts .imm 1 (a1.attrs.path.map encInt), .int .i64 a1.attrs.next, .int .i64 a1.attrs.med, .int .i64 a1.attrs.pref, .ts .imm 1 (a1.attrs.comms.map encInt)]]⟩, some ⟨.box, 8, [[.int .i64 p5.addr, .int .i64 p5.len, .int .i64 0, .sl 3 0 0, .int .i64 0, .int .i64 0, .int .i64 0, .sl 4 0 0]]⟩, some ⟨.arr, 1, []⟩, some ⟨.arr, 1, []⟩, some ⟨.box, 8, [[.int .i64 a1.prefix_.addr, .int .i64 a1.prefix_.len, .int .i64 r3.origin, .sl 6 0 r3.path.length, .int .i64 r3.next, .int .i64 r3.med, .int .i64 r3.pref, .sl 7 0 r3.comms.length]]⟩, some ⟨.arr, 1, r3.path.map encInt⟩, some ⟨.arr, 1, r3.comms.map encInt⟩] = some (X49_4 a0 p14 a1 p5 r3 o) := by
 unfold m49_4 at h
 try simp -implicitDefEqProofs only [go_sem, X49_4, k49_4]
 cases b15 : (p14 : Bool)
 · replace h := br_f b15 h
   obtain ⟨v50, q48, h⟩ := bnd_some h
   have w49 := e49_8 (eqI a0.kind 5) a0 a1 p5 r3 v50 q48
   simp only [X49_8] at w49
   try simp -implicitDefEqProofs only [go_sem] at w49
   cases h
   simp -implicitDefEqProofs only [go_sem, X49_4, k49_4, b15, w49]
 · replace h := br_t b15 h
   obtain ⟨v44, q42, h⟩ := bnd_some h
   have w43 := e49_5 a1 (↑a1.attrs.comms.length : Int) a0 p5 r3 (0, []) v44 q42
   simp only [E49_5, X49_5] at w43
   try simp -implicitDefEqProofs only [go_sem] at w43
   cases h
   simp -implicitDefEqProofs only [go_sem, X49_4, k49_4, b15, w43]
noncomputable def X49_3 (a0 : Acn) (p9 : Bool) (a1 : Route) (p5 : Prefix) (r3 : Attrs) (o : (List Int × List Int)) : Ex × Fr × St :=
 (.normal, frOf 73 (upd (upd anyF 4 (.ptr 0 0 0)) 5 (.ptr 3 0 0)), [some ⟨.box, 8, [[.int .i64 p5.addr, .int .i64 p5.len, .int .i64 0, .sl 1 0 0, .int .i64 0, .int .i64 0, .int .i64 0, .sl 2 0 0]]⟩, some ⟨.arr, 1, []⟩, some ⟨.arr, 1, []⟩, some ⟨.box, 8, [[.int .i64 a1.prefix_.addr, .int .i64 a1.prefix_.len, .int .i64 r3.origin, .sl 4 0 o.1.length, .int .i64 r3.next, .int .i64 r3.med, .int .i64 r3.pref, .sl 5 0 o.2.length]]⟩, some ⟨.arr, 1, o.1.map encInt⟩, some ⟨.arr, 1, o.2.map encInt⟩])
theorem e49_3 (a0 : Acn) (p9 : Bool) (a1 : Route) (p5 : Prefix) (r3 : Attrs) (o : (List Int × List Int)) (h : m49_3 a0 p9 a1 r3 = some o) : evCL T 0 k49_3 (frOf 73 (upd (upd (upd (upd (upd (upd anyF 2 (.ptr 0 0 0)) 3 (.ptr 1 0 0)) 4 (.ptr 2 0 0)) 5 (.ptr 5 0 0)) 16 (.int .i64 a0.kind)) 29 (.bool p9))) [some ⟨.box, 2, [[.int .i64 a0.kind, .int .i64 a0.n]]⟩, some ⟨.box, 8, [[.int .i64 a1.prefix_.addr, .int .i64 a1.prefix_.len, .int .i64 a1.attrs.origin, .ts .imm 1 (a1.attrs.path.map encInt), .int .i64 a1.attrs.next, .int .i64 a1.attrs.med, .int .i64 a1.attrs.pref, .ts .imm 1 (a1.attrs.comms.map encInt)]]⟩, some ⟨.box, 8, [[.int .i64 p5.addr, .int .i64 p5.len, .int .i64 0, .sl 3 0 0, .int .i64 0, .int .i64 0, .int .i64 0, .sl 4 0 0]]⟩, some ⟨.arr, 1, []⟩, some ⟨.arr, 1, []⟩, some ⟨.box, 8, [[.int .i64 a1.prefix_.addr, .int .i64 a1.prefix_.len, .int .i64 r3.origin, .sl 6 0 r3.path.length, .int .i64 r3.next, .int .i64 r3.med, .int .i64 r3.pref, .sl 7 0 r3.comms.length]]⟩, some ⟨.arr, 1, r3.path.map encInt⟩, some ⟨.arr, 1, r3.comms.map encInt⟩] = some (X49_3 a0 p9 a1 p5 r3 o) := by
 unfold m49_3 at h
 try simp -implicitDefEqProofs only [go_sem, X49_3, k49_3]
 cases b10 : (p9 : Bool)
 · replace h := br_f b10 h
   obtain ⟨⟨v53, v54⟩, q51, h⟩ := bnd_some h
   replace h := sel2_some h
   have w52 := e49_4 a0 (eqI a0.kind 4) a1 p5 r3 (v53, v54) q51
   simp only [X49_4] at w52
   try simp -implicitDefEqProofs only [go_sem] at w52
   cases h
   simp -implicitDefEqProofs only [go_sem, X49_3, k49_3, b10, w52]
 · replace h := br_t b10 h
   obtain ⟨r13, q11, h⟩ := bnd_some h
   have w12 := e90 r3.comms a0.n r13 q11
   try simp -implicitDefEqProofs only [go_sem] at w12
   cases h
   simp -implicitDefEqProofs only [go_sem, X49_3, k49_3, b10, w12]
noncomputable def X49_2 (a0 : Acn) (p7 : Bool) (a1 : Route) (p5 : Prefix) (r3 : Attrs) (o : (Int × List Int × List Int)) : Ex × Fr × St :=
 (.normal, frOf 73 (upd (upd anyF 4 (.ptr 0 0 0)) 5 (.ptr 3 0 0)), [some ⟨.box, 8, [[.int .i64 p5.addr, .int .i64 p5.len, .int .i64 0, .sl 1 0 0, .int .i64 0, .int .i64 0, .int .i64 0, .sl 2 0 0]]⟩, some ⟨.arr, 1, []⟩, some ⟨.arr, 1, []⟩, some ⟨.box, 8, [[.int .i64 a1.prefix_.addr, .int .i64 a1.prefix_.len, .int .i64 r3.origin, .sl 4 0 o.2.1.length, .int .i64 r3.next, .int .i64 o.1, .int .i64 r3.pref, .sl 5 0 o.2.2.length]]⟩, some ⟨.arr, 1, o.2.1.map encInt⟩, some ⟨.arr, 1, o.2.2.map encInt⟩])
theorem e49_2 (a0 : Acn) (p7 : Bool) (a1 : Route) (p5 : Prefix) (r3 : Attrs) (o : (Int × List Int × List Int)) (h : m49_2 a0 p7 a1 r3 = some o) : evCL T 0 k49_2 (frOf 73 (upd (upd (upd (upd (upd (upd anyF 2 (.ptr 0 0 0)) 3 (.ptr 1 0 0)) 4 (.ptr 2 0 0)) 5 (.ptr 5 0 0)) 16 (.int .i64 a0.kind)) 23 (.bool p7))) [some ⟨.box, 2, [[.int .i64 a0.kind, .int .i64 a0.n]]⟩, some ⟨.box, 8, [[.int .i64 a1.prefix_.addr, .int .i64 a1.prefix_.len, .int .i64 a1.attrs.origin, .ts .imm 1 (a1.attrs.path.map encInt), .int .i64 a1.attrs.next, .int .i64 a1.attrs.med, .int .i64 a1.attrs.pref, .ts .imm 1 (a1.attrs.comms.map encInt)]]⟩, some ⟨.box, 8, [[.int .i64 p5.addr, .int .i64 p5.len, .int .i64 0, .sl 3 0 0, .int .i64 0, .int .i64 0, .int .i64 0, .sl 4 0 0]]⟩, some ⟨.arr, 1, []⟩, some ⟨.arr, 1, []⟩, some ⟨.box, 8, [[.int .i64 a1.prefix_.addr, .int .i64 a1.prefix_.len, .int .i64 r3.origin, .sl 6 0 r3.path.length, .int .i64 r3.next, .int .i64 r3.med, .int .i64 r3.pref, .sl 7 0 r3.comms.length]]⟩, some ⟨.arr, 1, r3.path.map encInt⟩, some ⟨.arr, 1, r3.comms.map encInt⟩] = some (X49_2 a0 p7 a1 p5 r3 o) := by
 unfold m49_2 at h
 try simp -implicitDefEqProofs only [go_sem, X49_2, k49_2]
 cases b8 : (p7 : Bool)
 · replace h := br_f b8 h
   obtain ⟨⟨v57, v58⟩, q55, h⟩ := bnd_some h
   replace h := sel2_some h
   have w56 := e49_3 a0 (eqI a0.kind 3) a1 p5 r3 (v57, v58) q55
   simp only [X49_3] at w56
   try simp -implicitDefEqProofs only [go_sem] at w56
   cases h
   simp -implicitDefEqProofs only [go_sem, X49_2, k49_2, b8, w56]
 · replace h := br_t b8 h
   cases h
   simp -implicitDefEqProofs only [go_sem, X49_2, k49_2, b8]
noncomputable def X49_1 (a0 : Acn) (p4 : Bool) (a1 : Route) (p5 : Prefix) (r3 : Attrs) (o : (Int × Int × List Int × List Int)) : Ex × Fr × St :=
 (.normal, frOf 73 (upd (upd anyF 4 (.ptr 0 0 0)) 5 (.ptr 3 0 0)), [some ⟨.box, 8, [[.int .i64 p5.addr, .int .i64 p5.len, .int .i64 0, .sl 1 0 0, .int .i64 0, .int .i64 0, .int .i64 0, .sl 2 0 0]]⟩, some ⟨.arr, 1, []⟩, some ⟨.arr, 1, []⟩, some ⟨.box, 8, [[.int .i64 a1.prefix_.addr, .int .i64 a1.prefix_.len, .int .i64 r3.origin, .sl 4 0 o.2.2.1.length, .int .i64 r3.next, .int .i64 o.1, .int .i64 o.2.1, .sl 5 0 o.2.2.2.length]]⟩, some ⟨.arr, 1, o.2.2.1.map encInt⟩, some ⟨.arr, 1, o.2.2.2.map encInt⟩])
theorem e49_1 (a0 : Acn) (p4 : Bool) (a1 : Route) (p5 : Prefix) (r3 : Attrs) (o : (Int × Int × List Int × List Int)) (h : m49_1 a0 p4 a1 r3 = some o) : evCL T 0 k49_1 (frOf 73 (upd (upd (upd (upd (upd (upd anyF 2 (.ptr 0 0 0)) 3 (.ptr 1 0 0)) 4 (.ptr 2 0 0)) 5 (.ptr 5 0 0)) 16 (.int .i64 a0.kind)) 17 (.bool p4))) [some ⟨.box, 2, [[.int .i64 a0.kind, .int .i64 a0.n]]⟩, some ⟨.box, 8, [[.int .i64 a1.prefix_.addr, .int .i64 a1.prefix_.len, .int .i64 a1.attrs.origin, .ts .imm 1 (a1.attrs.path.map encInt), .int .i64 a1.attrs.next, .int .i64 a1.attrs.med, .int .i64 a1.attrs.pref, .ts .imm 1 (a1.attrs.comms.map encInt)]]⟩, some ⟨.box, 8, [[.int .i64 p5.addr, .int .i64 p5.len, .int .i64 0, .sl 3 0 0, .int .i64 0, .int .i64 0, .int .i64 0, .sl 4 0 0]]⟩, some ⟨.arr, 1, []⟩, some ⟨.arr, 1, []⟩, some ⟨.box, 8, [[.int .i64 a1.prefix_.addr, .int .i64 a1.prefix_.len, .int .i64 r3.origin, .sl 6 0 r3.path.length, .int .i64 r3.next, .int .i64 r3.med, .int .i64 r3.pref, .sl 7 0 r3.comms.length]]⟩, some ⟨.arr, 1, r3.path.map encInt⟩, some ⟨.arr, 1, r3.comms.map encInt⟩] = some (X49_1 a0 p4 a1 p5 r3 o) := by
 unfold m49_1 at h
 try simp -implicitDefEqProofs only [go_sem, X49_1, k49_1]
 cases b6 : (p4 : Bool)
 · replace h := br_f b6 h
   obtain ⟨⟨v61, v62, v63⟩, q59, h⟩ := bnd_some h
   replace h := sel3_some h
   have w60 := e49_2 a0 (eqI a0.kind 2) a1 p5 r3 (v61, v62, v63) q59
   simp only [X49_2] at w60
   try simp -implicitDefEqProofs only [go_sem] at w60
   cases h
   simp -implicitDefEqProofs only [go_sem, X49_1, k49_1, b6, w60]
 · replace h := br_t b6 h
   cases h
   simp -implicitDefEqProofs only [go_sem, X49_1, k49_1, b6]
theorem e49 (a0 : Acn) (a1 : Route) (r : Route) (h : m49 a0 a1 = some r) : evFL T 49 [.agg [.int .i64 a0.kind, .int .i64 a0.n], .agg [.int .i64 a1.prefix_.addr, .int .i64 a1.prefix_.len, .int .i64 a1.attrs.origin, .ts .imm 1 (a1.attrs.path.map encInt), .int .i64 a1.attrs.next, .int .i64 a1.attrs.med, .int .i64 a1.attrs.pref, .ts .imm 1 (a1.attrs.comms.map encInt)]] [] = some (.agg [.int .i64 r.prefix_.addr, .int .i64 r.prefix_.len, .int .i64 r.attrs.origin, .sl 0 0 r.attrs.path.length, .int .i64 r.attrs.next, .int .i64 r.attrs.med, .int .i64 r.attrs.pref, .sl 1 0 r.attrs.comms.length], [some ⟨.arr, 1, r.attrs.path.map encInt⟩, some ⟨.arr, 1, r.attrs.comms.map encInt⟩]) := by
 unfold m49 at h
 rw [evFL_at fn49 (Nat.le_of_ble_eq_true rfl) rfl (.inr rfl) ⟨rfl, rfl⟩]
 obtain ⟨r3, q1, h⟩ := bnd_some h
 have w2 := e89 a1.attrs r3 q1
 try simp -implicitDefEqProofs only [go_sem] at w2
 obtain ⟨⟨v66, v67, v68, v69⟩, q64, h⟩ := bnd_some h
 replace h := sel4_some h
 have w65 := e49_1 a0 (eqI a0.kind 1) a1 (⟨0, 0⟩ : Prefix) r3 (v66, v67, v68, v69) q64
 simp only [X49_1] at w65
 try simp -implicitDefEqProofs only [go_sem] at w65
 cases h
 simp -implicitDefEqProofs only [go_sem, i49, c49, w2, w65]
theorem call18 (args : List AV) (S : St) : evCall T (evFL T) 18 args S = lendC (evFL T 18) S (lendAll S [[0, 0], [0, 0, 0, 1, 0, 0, 0, 1]] args) := evCall0 fn18 rfl rfl rfl args S
theorem callz18 (args : List AV) (S : St) : evCallFz T (evFL T) 18 args S = lendZ (evFL T 18) S [[0, 0, 0, 1, 0, 0, 0, 1], [0]] (lendAll S [[0, 0], [0, 0, 0, 1, 0, 0, 0, 1]] args) := evCallFz0 fn18 rfl rfl rfl args S
attribute [go_sem] call18 callz18
noncomputable def X18_1 (a0 : Acn) (a1 : Route) (p1 : Prefix) (o : Bool) : Ex × Fr × St :=
 (.normal, frOf 24 (upd (upd (upd (upd anyF 2 (.ptr 0 0 0)) 3 (.ptr 1 0 0)) 4 (.ptr 2 0 0)) 14 (.bool o)), [some ⟨.box, 2, [[.int .i64 a0.kind, .int .i64 a0.n]]⟩, some ⟨.box, 8, [[.int .i64 a1.prefix_.addr, .int .i64 a1.prefix_.len, .int .i64 a1.attrs.origin, .ts .imm 1 (a1.attrs.path.map encInt), .int .i64 a1.attrs.next, .int .i64 a1.attrs.med, .int .i64 a1.attrs.pref, .ts .imm 1 (a1.attrs.comms.map encInt)]]⟩, some ⟨.box, 8, [[.int .i64 p1.addr, .int .i64 p1.len, .int .i64 0, .sl 3 0 0, .int .i64 0, .int .i64 0, .int .i64 0, .sl 4 0 0]]⟩, some ⟨.arr, 1, []⟩, some ⟨.arr, 1, []⟩])
theorem e18_1 (a0 : Acn) (a1 : Route) (p1 : Prefix) (o : Bool) (h : m18_1 a0 a1 = some o) : evCL T 0 k18_1 (frOf 24 (upd (upd (upd anyF 2 (.ptr 0 0 0)) 3 (.ptr 1 0 0)) 4 (.ptr 2 0 0))) [some ⟨.box, 2, [[.int .i64 a0.kind, .int .i64 a0.n]]⟩, some ⟨.box, 8, [[.int .i64 a1.prefix_.addr, .int .i64 a1.prefix_.len, .int .i64 a1.attrs.origin, .ts .imm 1 (a1.attrs.path.map encInt), .int .i64 a1.attrs.next, .int .i64 a1.attrs.med, .int .i64 a1.attrs.pref, .ts .imm 1 (a1.attrs.comms.map encInt)]]⟩, some ⟨.box, 8, [[.int .i64 p1.addr, .int .i64 p1.len, .int .i64 0, .sl 3 0 0, .int .i64 0, .int .i64 0, .int .i64 0, .sl 4 0 0]]⟩, some ⟨.arr, 1, []⟩, some ⟨.arr, 1, []⟩] = some (X18_1 a0 a1 p1 o) := by
 unfold m18_1 at h
 obtain ⟨r4, q2, h⟩ := bnd_some h
 have w3 := e48 a0 r4 q2
 try simp -implicitDefEqProofs only [go_sem] at w3
 try simp -implicitDefEqProofs only [go_sem, X18_1, k18_1, w3]
 cases b5 : (r4 : Bool)
 · replace h := br_f b5 h
   cases h
   simp -implicitDefEqProofs only [go_sem, X18_1, k18_1, w3, b5]
 · replace h := br_t b5 h
   obtain ⟨r8, q6, h⟩ := bnd_some h
   have w7 := e9 a1 r8 q6
   try simp -implicitDefEqProofs only [go_sem] at w7
   cases h
   simp -implicitDefEqProofs only [go_sem, X18_1, k18_1, w3, b5, w7]
theorem e18 (a0 : Acn) (a1 : Route) (r : (Route × Bool)) (h : m18 a0 a1 = some r) : evFL T 18 [.agg [.int .i64 a0.kind, .int .i64 a0.n], .agg [.int .i64 a1.prefix_.addr, .int .i64 a1.prefix_.len, .int .i64 a1.attrs.origin, .ts .imm 1 (a1.attrs.path.map encInt), .int .i64 a1.attrs.next, .int .i64 a1.attrs.med, .int .i64 a1.attrs.pref, .ts .imm 1 (a1.attrs.comms.map encInt)]] [] = some (.tup [.agg [.int .i64 r.1.prefix_.addr, .int .i64 r.1.prefix_.len, .int .i64 r.1.attrs.origin, .sl 0 0 r.1.attrs.path.length, .int .i64 r.1.attrs.next, .int .i64 r.1.attrs.med, .int .i64 r.1.attrs.pref, .sl 1 0 r.1.attrs.comms.length], .bool r.2], [some ⟨.arr, 1, r.1.attrs.path.map encInt⟩, some ⟨.arr, 1, r.1.attrs.comms.map encInt⟩]) := by
 unfold m18 at h
 rw [evFL_at fn18 (Nat.le_of_ble_eq_true rfl) rfl (.inr rfl) ⟨rfl, rfl⟩]
 obtain ⟨v11, q9, h⟩ := bnd_some h
 have w10 := e18_1 a0 a1 (⟨0, 0⟩ : Prefix) v11 q9
 simp only [X18_1] at w10
 try simp -implicitDefEqProofs only [go_sem] at w10
 try simp -implicitDefEqProofs only [go_sem, i18, c18, w10]
 cases b12 : (v11 : Bool)
 · replace h := br_f b12 h
   obtain ⟨r15, q13, h⟩ := bnd_some h
   have w14 := e49 a0 a1 r15 q13
   try simp -implicitDefEqProofs only [go_sem] at w14
   obtain ⟨r18, q16, h⟩ := bnd_some h
   have w17 := e9 r15 r18 q16
   try simp -implicitDefEqProofs only [go_sem] at w17
   try simp -implicitDefEqProofs only [go_sem, i18, c18, w10, b12, w14, w17]
   cases b19 : (r18 : Bool)
   · replace h := br_f b19 h
     cases h
     simp -implicitDefEqProofs only [go_sem, i18, c18, w10, b12, w14, w17, b19]
   · replace h := br_t b19 h
     cases h
     simp -implicitDefEqProofs only [go_sem, i18, c18, w10, b12, w14, w17, b19]
 · replace h := br_t b12 h
   cases h
   simp -implicitDefEqProofs only [go_sem, i18, c18, w10, b12]
theorem call75 (args : List AV) (S : St) : evCall T (evFL T) 75 args S = lendC (evFL T 75) S (lendAll S [[0], [0], [0]] args) := evCall0 fn75 rfl rfl rfl args S
theorem callz75 (args : List AV) (S : St) : evCallFz T (evFL T) 75 args S = lendZ (evFL T 75) S [[0]] (lendAll S [[0], [0], [0]] args) := evCallFz0 fn75 rfl rfl rfl args S
attribute [go_sem] call75 callz75
noncomputable def X75_1 (a0 : Int) (a1 : Int) (a2 : Int) (o : Bool) : Ex × Fr × St :=
 (.normal, frOf 15 (upd anyF 6 (.bool o)), [])
theorem e75_1 (a0 : Int) (a1 : Int) (a2 : Int) (o : Bool) (h : m75_1 a0 a1 a2 = some o) : evCL T 0 k75_1 (frOf 15 (upd (upd (upd anyF 0 (.int .i64 a0)) 1 (.int .i64 a1)) 2 (.int .i64 a2))) [] = some (X75_1 a0 a1 a2 o) := by
 unfold m75_1 at h
 try simp -implicitDefEqProofs only [go_sem, X75_1, k75_1]
 cases b1 : (leI a1 a0 : Bool)
 · replace h := br_f b1 h
   cases h
   simp -implicitDefEqProofs only [go_sem, X75_1, k75_1, b1]
 · replace h := br_t b1 h
   cases h
   simp -implicitDefEqProofs only [go_sem, X75_1, k75_1, b1]
theorem e75 (a0 : Int) (a1 : Int) (a2 : Int) (r : Bool) (h : m75 a0 a1 a2 = some r) : evFL T 75 [.int .i64 a0, .int .i64 a1, .int .i64 a2] [] = some (.bool r, []) := by
 unfold m75 at h
 rw [evFL_at fn75 (Nat.le_of_ble_eq_true rfl) rfl (.inr rfl) ⟨rfl, rfl⟩]
 obtain ⟨v4, q2, h⟩ := bnd_some h
 have w3 := e75_1 a0 a1 a2 v4 q2
 simp only [X75_1] at w3
 try simp -implicitDefEqProofs only [go_sem] at w3
 cases h
 simp -implicitDefEqProofs only [go_sem, i75, c75, w3]
theorem call79 (args : List AV) (S : St) : evCall T (evFL T) 79 args S = lendC (evFL T 79) S (lendAll S [[0]] args) := evCall0 fn79 rfl rfl rfl args S
theorem callz79 (args : List AV) (S : St) : evCallFz T (evFL T) 79 args S = lendZ (evFL T 79) S [[0]] (lendAll S [[0]] args) := evCallFz0 fn79 rfl rfl rfl args S
attribute [go_sem] call79 callz79
theorem e79 (a0 : Int) (r : Bool) (h : m79 a0 = some r) : evFL T 79 [.int .i64 a0] [] = some (.bool r, []) := by
 unfold m79 at h
 rw [evFL_at fn79 (Nat.le_of_ble_eq_true rfl) rfl (.inr rfl) ⟨rfl, rfl⟩]
 obtain ⟨r3, q1, h⟩ := bnd_some h
 have w2 := e75 a0 0 1000000 r3 q1
 try simp -implicitDefEqProofs only [go_sem] at w2
 cases h
 simp -implicitDefEqProofs only [go_sem, i79, c79, w2]
theorem call91 (args : List AV) (S : St) : evCall T (evFL T) 91 args S = lendC (evFL T 91) S (lendAll S [[0]] args) := evCall0 fn91 rfl rfl rfl args S
theorem callz91 (args : List AV) (S : St) : evCallFz T (evFL T) 91 args S = lendZ (evFL T 91) S [[0]] (lendAll S [[0]] args) := evCallFz0 fn91 rfl rfl rfl args S
attribute [go_sem] call91 callz91
theorem e91 (a0 : Int) (r : Bool) (h : m91 a0 = some r) : evFL T 91 [.int .i64 a0] [] = some (.bool r, []) := by
 unfold m91 at h
 rw [evFL_at fn91 (Nat.le_of_ble_eq_true rfl) rfl (.inr rfl) ⟨rfl, rfl⟩]
 obtain ⟨r3, q1, h⟩ := bnd_some h
 have w2 := e75 a0 1 65535 r3 q1
 try simp -implicitDefEqProofs only [go_sem] at w2
 cases h
 simp -implicitDefEqProofs only [go_sem, i91, c91, w2]
theorem call50 (args : List AV) (S : St) : evCall T (evFL T) 50 args S = lendC (evFL T 50) S (lendAll S [[0, 0]] args) := evCall0 fn50 rfl rfl rfl args S
theorem callz50 (args : List AV) (S : St) : evCallFz T (evFL T) 50 args S = lendZ (evFL T 50) S [[0]] (lendAll S [[0, 0]] args) := evCallFz0 fn50 rfl rfl rfl args S
attribute [go_sem] call50 callz50
noncomputable def X50_3 (a0 : Acn) (p5 : Bool) (o : Bool) : Ex × Fr × St :=
 (.normal, frOf 18 (upd (upd (upd anyF 1 (.ptr 0 0 0)) 4 (.int .i64 a0.kind)) 5 (.bool o)), [some ⟨.box, 2, [[.int .i64 a0.kind, .int .i64 a0.n]]⟩])
theorem e50_3 (a0 : Acn) (p5 : Bool) (o : Bool) (h : m50_3 a0 p5 = some o) : evCL T 0 k50_3 (frOf 18 (upd (upd (upd anyF 1 (.ptr 0 0 0)) 4 (.int .i64 a0.kind)) 5 (.bool p5))) [some ⟨.box, 2, [[.int .i64 a0.kind, .int .i64 a0.n]]⟩] = some (X50_3 a0 p5 o) := by
 unfold m50_3 at h
 try simp -implicitDefEqProofs only [go_sem, X50_3, k50_3]
 cases b6 : (p5 : Bool)
 · replace h := br_f b6 h
   cases h
   simp -implicitDefEqProofs only [go_sem, X50_3, k50_3, b6]
 · replace h := br_t b6 h
   cases h
   simp -implicitDefEqProofs only [go_sem, X50_3, k50_3, b6]
noncomputable def X50_2 (a0 : Acn) (p3 : Bool) (o : Bool) : Ex × Fr × St :=
 (.normal, frOf 18 (upd (upd (upd anyF 1 (.ptr 0 0 0)) 4 (.int .i64 a0.kind)) 5 (.bool o)), [some ⟨.box, 2, [[.int .i64 a0.kind, .int .i64 a0.n]]⟩])
theorem e50_2 (a0 : Acn) (p3 : Bool) (o : Bool) (h : m50_2 a0 p3 = some o) : evCL T 0 k50_2 (frOf 18 (upd (upd (upd anyF 1 (.ptr 0 0 0)) 4 (.int .i64 a0.kind)) 5 (.bool p3))) [some ⟨.box, 2, [[.int .i64 a0.kind, .int .i64 a0.n]]⟩] = some (X50_2 a0 p3 o) := by
 unfold m50_2 at h
 try simp -implicitDefEqProofs only [go_sem, X50_2, k50_2]
 cases b4 : (p3 : Bool)
 · replace h := br_f b4 h
   obtain ⟨v9, q7, h⟩ := bnd_some h
   have w8 := e50_3 a0 (eqI a0.kind 3) v9 q7
   simp only [X50_3] at w8
   try simp -implicitDefEqProofs only [go_sem] at w8
   cases h
   simp -implicitDefEqProofs only [go_sem, X50_2, k50_2, b4, w8]
 · replace h := br_t b4 h
   cases h
   simp -implicitDefEqProofs only [go_sem, X50_2, k50_2, b4]
noncomputable def X50_1 (a0 : Acn) (p1 : Bool) (o : Bool) : Ex × Fr × St :=
 (.normal, frOf 18 (upd (upd (upd anyF 1 (.ptr 0 0 0)) 4 (.int .i64 a0.kind)) 5 (.bool o)), [some ⟨.box, 2, [[.int .i64 a0.kind, .int .i64 a0.n]]⟩])
theorem e50_1 (a0 : Acn) (p1 : Bool) (o : Bool) (h : m50_1 a0 p1 = some o) : evCL T 0 k50_1 (frOf 18 (upd (upd (upd anyF 1 (.ptr 0 0 0)) 4 (.int .i64 a0.kind)) 5 (.bool p1))) [some ⟨.box, 2, [[.int .i64 a0.kind, .int .i64 a0.n]]⟩] = some (X50_1 a0 p1 o) := by
 unfold m50_1 at h
 try simp -implicitDefEqProofs only [go_sem, X50_1, k50_1]
 cases b2 : (p1 : Bool)
 · replace h := br_f b2 h
   obtain ⟨v12, q10, h⟩ := bnd_some h
   have w11 := e50_2 a0 (eqI a0.kind 2) v12 q10
   simp only [X50_2] at w11
   try simp -implicitDefEqProofs only [go_sem] at w11
   cases h
   simp -implicitDefEqProofs only [go_sem, X50_1, k50_1, b2, w11]
 · replace h := br_t b2 h
   cases h
   simp -implicitDefEqProofs only [go_sem, X50_1, k50_1, b2]
theorem e50 (a0 : Acn) (r : Bool) (h : m50 a0 = some r) : evFL T 50 [.agg [.int .i64 a0.kind, .int .i64 a0.n]] [] = some (.bool r, []) := by
 unfold m50 at h
 rw [evFL_at fn50 (Nat.le_of_ble_eq_true rfl) rfl (.inr rfl) ⟨rfl, rfl⟩]
 obtain ⟨v15, q13, h⟩ := bnd_some h
 have w14 := e50_1 a0 (eqI a0.kind 1) v15 q13
 simp only [X50_1] at w14
 try simp -implicitDefEqProofs only [go_sem] at w14
 try simp -implicitDefEqProofs only [go_sem, i50, c50, w14]
 cases b16 : (v15 : Bool)
 · replace h := br_f b16 h
   try simp -implicitDefEqProofs only [go_sem, i50, c50, w14, b16]
   cases b20 : (eqI a0.kind 5 : Bool)
   · replace h := br_f b20 h
     cases h
     simp -implicitDefEqProofs only [go_sem, i50, c50, w14, b16, b20]
   · replace h := br_t b20 h
     obtain ⟨r23, q21, h⟩ := bnd_some h
     have w22 := e91 a0.n r23 q21
     try simp -implicitDefEqProofs only [go_sem] at w22
     cases h
     simp -implicitDefEqProofs only [go_sem, i50, c50, w14, b16, b20, w22]
 · replace h := br_t b16 h
   obtain ⟨r19, q17, h⟩ := bnd_some h
   have w18 := e79 a0.n r19 q17
   try simp -implicitDefEqProofs only [go_sem] at w18
   cases h
   simp -implicitDefEqProofs only [go_sem, i50, c50, w14, b16, w18]
theorem call76 (args : List AV) (S : St) : evCall T (evFL T) 76 args S = lendC (evFL T 76) S (lendAll S [[0]] args) := evCall0 fn76 rfl rfl rfl args S
theorem callz76 (args : List AV) (S : St) : evCallFz T (evFL T) 76 args S = lendZ (evFL T 76) S [[0]] (lendAll S [[0]] args) := evCallFz0 fn76 rfl rfl rfl args S
attribute [go_sem] call76 callz76
theorem e76 (a0 : Int) (r : Bool) (h : m76 a0 = some r) : evFL T 76 [.int .i64 a0] [] = some (.bool r, []) := by
 unfold m76 at h
 rw [evFL_at fn76 (Nat.le_of_ble_eq_true rfl) rfl (.inr rfl) ⟨rfl, rfl⟩]
 obtain ⟨r3, q1, h⟩ := bnd_some h
 have w2 := e75 a0 0 4294967295 r3 q1
 try simp -implicitDefEqProofs only [go_sem] at w2
 cases h
 simp -implicitDefEqProofs only [go_sem, i76, c76, w2]
theorem call77 (args : List AV) (S : St) : evCall T (evFL T) 77 args S = lendC (evFL T 77) S (lendAll S [[0]] args) := evCall0 fn77 rfl rfl rfl args S
theorem callz77 (args : List AV) (S : St) : evCallFz T (evFL T) 77 args S = lendZ (evFL T 77) S [[0]] (lendAll S [[0]] args) := evCallFz0 fn77 rfl rfl rfl args S
attribute [go_sem] call77 callz77
theorem e77 (a0 : Int) (r : Int) (h : m77 a0 = some r) : evFL T 77 [.int .i64 a0] [] = some (.int .i64 r, []) := by
 unfold m77 at h
 rw [evFL_at fn77 (Nat.le_of_ble_eq_true rfl) rfl (.inr rfl) ⟨rfl, rfl⟩]
 obtain ⟨g1, h⟩ := ck_some h
 try simp -implicitDefEqProofs only [go_sem] at g1
 cases h
 simp -implicitDefEqProofs only [go_sem, i77, c77, g1]
theorem call37 (args : List AV) (S : St) : evCall T (evFL T) 37 args S = lendC (evFL T 37) S (lendAll S [[0, 0]] args) := evCall0 fn37 rfl rfl rfl args S
theorem callz37 (args : List AV) (S : St) : evCallFz T (evFL T) 37 args S = lendZ (evFL T 37) S [[0]] (lendAll S [[0, 0]] args) := evCallFz0 fn37 rfl rfl rfl args S
attribute [go_sem] call37 callz37
noncomputable def X37_1 (a0 : Prefix) (o : Bool) : Ex × Fr × St :=
 (.normal, frOf 20 (upd anyF 2 (.bool o)), [])
theorem e37_1 (a0 : Prefix) (o : Bool) (h : m37_1 a0 = some o) : evCL T 0 k37_1 (frOf 20 (upd anyF 1 (.ptr 0 0 0))) [some ⟨.box, 2, [[.int .i64 a0.addr, .int .i64 a0.len]]⟩] = some (X37_1 a0 o) := by
 unfold m37_1 at h
 obtain ⟨r3, q1, h⟩ := bnd_some h
 have w2 := e75 a0.len 0 32 r3 q1
 try simp -implicitDefEqProofs only [go_sem] at w2
 try simp -implicitDefEqProofs only [go_sem, X37_1, k37_1, w2]
 cases b4 : (r3 : Bool)
 · replace h := br_f b4 h
   cases h
   simp -implicitDefEqProofs only [go_sem, X37_1, k37_1, w2, b4]
 · replace h := br_t b4 h
   obtain ⟨r7, q5, h⟩ := bnd_some h
   have w6 := e76 a0.addr r7 q5
   try simp -implicitDefEqProofs only [go_sem] at w6
   try simp -implicitDefEqProofs only [go_sem, X37_1, k37_1, w2, b4, w6]
   cases b8 : (r7 : Bool)
   · replace h := br_f b8 h
     cases h
     simp -implicitDefEqProofs only [go_sem, X37_1, k37_1, w2, b4, w6, b8]
   · replace h := br_t b8 h
     obtain ⟨r11, q9, h⟩ := bnd_some h
     have w10 := e77 a0.len r11 q9
     try simp -implicitDefEqProofs only [go_sem] at w10
     obtain ⟨g12, h⟩ := ck_some h
     try simp -implicitDefEqProofs only [go_sem] at g12
     cases h
     simp -implicitDefEqProofs only [go_sem, X37_1, k37_1, w2, b4, w6, b8, w10, g12]
theorem e37 (a0 : Prefix) (r : Bool) (h : m37 a0 = some r) : evFL T 37 [.agg [.int .i64 a0.addr, .int .i64 a0.len]] [] = some (.bool r, []) := by
 unfold m37 at h
 rw [evFL_at fn37 (Nat.le_of_ble_eq_true rfl) rfl (.inr rfl) ⟨rfl, rfl⟩]
 obtain ⟨v15, q13, h⟩ := bnd_some h
 have w14 := e37_1 a0 v15 q13
 simp only [X37_1] at w14
 try simp -implicitDefEqProofs only [go_sem] at w14
 cases h
 simp -implicitDefEqProofs only [go_sem, i37, c37, w14]
theorem call133 (args : List AV) (S : St) : evCall T (evFL T) 133 args S = lendC (evFL T 133) S (lendAll S [[1], [0]] args) := evCall0 fn133 rfl rfl rfl args S
theorem callz133 (args : List AV) (S : St) : evCallFz T (evFL T) 133 args S = lendZ (evFL T 133) S [[0]] (lendAll S [[1], [0]] args) := evCallFz0 fn133 rfl rfl rfl args S
attribute [go_sem] call133 callz133
noncomputable def X133_1 (a1_f : Nat) (a1_c : List AV) (a0 : (List Int)) (p1 : Int) (a1 : (Int → Option Bool)) (o : (Unit ⊕ Int)) : Ex × Fr × St :=
 match o with
 | .inl o => (.exit 0, frOf 19 (anyF), [])
 | .inr o => (.ret, frOf 19 (upd anyF 4 (.int .i64 o)), [])
noncomputable def E133_1 (a1_f : Nat) (a1_c : List AV) (a0 : (List Int)) (p1 : Int) (a1 : (Int → Option Bool)) (s : Int) : Fr × St := (frOf 19 (upd (upd (upd (upd anyF 0 (.ts .imm 1 (a0.map encInt))) 1 (.fn a1_f a1_c)) 7 (.int .i64 p1)) 8 (.int .i64 s)), [])
theorem b133_1 (a0 : (List Int)) (p1 : Int) (a1 : (Int → Option Bool)) (a1_f : Nat) (a1_c : List AV) (a1_h : ((∀ S, mapO (lendPtr S) a1_c = some a1_c) ∧ (∀ n0 src R tm t c, tdL n0 src R tm t c a1_c = some a1_c)) ∧ ∀ y0 r, a1 y0 = some r → (∀ S, evCall T (evFL T) a1_f ([.int .i64 y0] ++ a1_c) S = some (.bool r, S)) ∧ (∀ S, evCallFz T (evFL T) a1_f ([.int .i64 y0] ++ a1_c) S = some (.bool r, S))) (s : Int) (o : Ctl Int (Unit ⊕ Int)) (h : m133_1b a0 p1 a1 s = some o) : evCL T 0 k133_1b (E133_1 a1_f a1_c a0 p1 a1 s).1 (E133_1 a1_f a1_c a0 p1 a1 s).2 = some (ctlX (E133_1 a1_f a1_c a0 p1 a1) (X133_1 a1_f a1_c a0 p1 a1) o) := by
 unfold m133_1b at h
 revert h
 generalize s = s12
 intro h
 try simp -implicitDefEqProofs only [go_sem, E133_1, X133_1, k133_1b, a1_h.1]
 cases b13 : (ltI s12 p1 : Bool)
 · replace h := br_f b13 h
   cases h
   simp -implicitDefEqProofs only [go_sem, E133_1, X133_1, k133_1b, a1_h.1, b13]
 · replace h := br_t b13 h
   obtain ⟨x14, q15, h⟩ := bnd_some h
   obtain ⟨g16, g17, g18⟩ := idx_row encInt q15
   try simp -implicitDefEqProofs only [go_sem] at g17
   try simp -implicitDefEqProofs only [go_sem] at g18
   obtain ⟨r19, q20, h⟩ := bnd_some h
   have w21 := a1_h.2 x14 r19 q20
   try simp -implicitDefEqProofs only [go_sem] at w21
   try simp -implicitDefEqProofs only [go_sem, E133_1, X133_1, k133_1b, a1_h.1, b13, g16, g17, g18, w21.1, w21.2]
   cases b22 : (r19 : Bool)
   · replace h := br_f b22 h
     cases h
     simp -implicitDefEqProofs only [go_sem, E133_1, X133_1, k133_1b, a1_h.1, b13, g16, g17, g18, w21.1, w21.2, b22]
   · replace h := br_t b22 h
     cases h
     simp -implicitDefEqProofs only [go_sem, E133_1, X133_1, k133_1b, a1_h.1, b13, g16, g17, g18, w21.1, w21.2, b22]
theorem e133_1 (a0 : (List Int)) (p1 : Int) (a1 : (Int → Option Bool)) (a1_f : Nat) (a1_c : List AV) (a1_h : ((∀ S, mapO (lendPtr S) a1_c = some a1_c) ∧ (∀ n0 src R tm t c, tdL n0 src R tm t c a1_c = some a1_c)) ∧ ∀ y0 r, a1 y0 = some r → (∀ S, evCall T (evFL T) a1_f ([.int .i64 y0] ++ a1_c) S = some (.bool r, S)) ∧ (∀ S, evCallFz T (evFL T) a1_f ([.int .i64 y0] ++ a1_c) S = some (.bool r, S))) (s : Int) (o : (Unit ⊕ Int)) (h : loopP (m133_1b a0 p1 a1) s = some o) : evCL T 0 (.loop k133_1b) (E133_1 a1_f a1_c a0 p1 a1 s).1 (E133_1 a1_f a1_c a0 p1 a1 s).2 = some (X133_1 a1_f a1_c a0 p1 a1 o) :=
 loop_walk (E := E133_1 a1_f a1_c a0 p1 a1) (X := X133_1 a1_f a1_c a0 p1 a1) (by intro b; rcases b with b | b <;> (simp only [X133_1]; nofun)) (b133_1 a0 p1 a1 a1_f a1_c a1_h) s o h
theorem e133 (a0 : (List Int)) (a1 : (Int → Option Bool)) (a1_f : Nat) (a1_c : List AV) (a1_h : ((∀ S, mapO (lendPtr S) a1_c = some a1_c) ∧ (∀ n0 src R tm t c, tdL n0 src R tm t c a1_c = some a1_c)) ∧ ∀ y0 r, a1 y0 = some r → (∀ S, evCall T (evFL T) a1_f ([.int .i64 y0] ++ a1_c) S = some (.bool r, S)) ∧ (∀ S, evCallFz T (evFL T) a1_f ([.int .i64 y0] ++ a1_c) S = some (.bool r, S))) (r : Int) (h : m133 a0 a1 = some r) : evFL T 133 [.ts .imm 1 (a0.map encInt), .fn a1_f a1_c] [] = some (.int .i64 r, []) := by
 unfold m133 at h
 rw [evFL_at fn133 (Nat.le_of_ble_eq_true rfl) rfl (.inr rfl) ⟨rfl, rfl⟩]
 try simp -implicitDefEqProofs only [go_sem, i133, c133, a1_h.1]
 obtain ⟨o, q23, h⟩ := bnd_some h
 rcases o with ⟨⟩ | v25
 · replace h := selS_l h
   have w24 := e133_1 a0 (↑a0.length : Int) a1 a1_f a1_c a1_h 0 (.inl ()) q23
   simp only [E133_1, X133_1] at w24
   try simp -implicitDefEqProofs only [go_sem] at w24
   cases h
   simp -implicitDefEqProofs only [go_sem, i133, c133, a1_h.1, w24]
 · replace h := selS_r h
   have w24 := e133_1 a0 (↑a0.length : Int) a1 a1_f a1_c a1_h 0 (.inr v25) q23
   simp only [E133_1, X133_1] at w24
   try simp -implicitDefEqProofs only [go_sem] at w24
   cases h
   simp -implicitDefEqProofs only [go_sem, i133, c133, a1_h.1, w24]
theorem call120 (args : List AV) (S : St) : evCall T (evFL T) 120 args S = lendC (evFL T 120) S (lendAll S [[1], [0]] args) := evCall0 fn120 rfl rfl rfl args S
theorem callz120 (args : List AV) (S : St) : evCallFz T (evFL T) 120 args S = lendZ (evFL T 120) S [[0]] (lendAll S [[1], [0]] args) := evCallFz0 fn120 rfl rfl rfl args S
attribute [go_sem] call120 callz120
theorem e120 (a0 : (List Int)) (a1 : (Int → Option Bool)) (a1_f : Nat) (a1_c : List AV) (a1_h : ((∀ S, mapO (lendPtr S) a1_c = some a1_c) ∧ (∀ n0 src R tm t c, tdL n0 src R tm t c a1_c = some a1_c)) ∧ ∀ y0 r, a1 y0 = some r → (∀ S, evCall T (evFL T) a1_f ([.int .i64 y0] ++ a1_c) S = some (.bool r, S)) ∧ (∀ S, evCallFz T (evFL T) a1_f ([.int .i64 y0] ++ a1_c) S = some (.bool r, S))) (r : Bool) (h : m120 a0 a1 = some r) : evFL T 120 [.ts .imm 1 (a0.map encInt), .fn a1_f a1_c] [] = some (.bool r, []) := by
 unfold m120 at h
 rw [evFL_at fn120 (Nat.le_of_ble_eq_true rfl) rfl (.inr rfl) ⟨rfl, rfl⟩]
 obtain ⟨r3, q1, h⟩ := bnd_some h
 have w2 := e133 a0 a1 a1_f a1_c a1_h r3 q1
 try simp -implicitDefEqProofs only [go_sem] at w2
 cases h
 simp -implicitDefEqProofs only [go_sem, i120, c120, a1_h.1, w2]
theorem call121 (args : List AV) (S : St) : evCall T (evFL T) 121 args S = lendC (evFL T 121) S (lendAll S [[0]] args) := evCall0 fn121 rfl rfl rfl args S
theorem callz121 (args : List AV) (S : St) : evCallFz T (evFL T) 121 args S = lendZ (evFL T 121) S [[0]] (lendAll S [[0]] args) := evCallFz0 fn121 rfl rfl rfl args S
attribute [go_sem] call121 callz121
theorem e121 (a0 : Int) (r : Bool) (h : m121 a0 = some r) : evFL T 121 [.int .i64 a0] [] = some (.bool r, []) := by
 unfold m121 at h
 rw [evFL_at fn121 (Nat.le_of_ble_eq_true rfl) rfl (.inr rfl) ⟨rfl, rfl⟩]
 obtain ⟨r3, q1, h⟩ := bnd_some h
 have w2 := e91 a0 r3 q1
 try simp -implicitDefEqProofs only [go_sem] at w2
 cases h
 simp -implicitDefEqProofs only [go_sem, i121, c121, w2]
theorem call78 (args : List AV) (S : St) : evCall T (evFL T) 78 args S = lendC (evFL T 78) S (lendAll S [[1]] args) := evCall0 fn78 rfl rfl rfl args S
theorem callz78 (args : List AV) (S : St) : evCallFz T (evFL T) 78 args S = lendZ (evFL T 78) S [[0]] (lendAll S [[1]] args) := evCallFz0 fn78 rfl rfl rfl args S
attribute [go_sem] call78 callz78
noncomputable def X78_1 (a0 : (List Int)) (o : Bool) : Ex × Fr × St :=
 (.normal, frOf 11 (upd anyF 2 (.bool o)), [])
theorem e78_1 (a0 : (List Int)) (o : Bool) (h : m78_1 a0 = some o) : evCL T 0 k78_1 (frOf 11 (upd anyF 0 (.ts .imm 1 (a0.map encInt)))) [] = some (X78_1 a0 o) := by
 unfold m78_1 at h
 try simp -implicitDefEqProofs only [go_sem, X78_1, k78_1]
 cases b1 : (leI (↑a0.length : Int) 10 : Bool)
 · replace h := br_f b1 h
   cases h
   simp -implicitDefEqProofs only [go_sem, X78_1, k78_1, b1]
 · replace h := br_t b1 h
   obtain ⟨r4, q2, h⟩ := bnd_some h
   have w3 := e120 a0 (fun y0 => m121 y0) 121 [] ⟨⟨fun S => by simp -implicitDefEqProofs only [go_sem], fun _ _ _ _ _ _ => by simp -implicitDefEqProofs only [go_sem]⟩, fun y0 r h => ⟨fun S => by simp -implicitDefEqProofs only [go_sem, e121 y0 r h], fun S => by simp -implicitDefEqProofs only [go_sem, e121 y0 r h]⟩⟩ r4 q2
   try simp -implicitDefEqProofs only [go_sem] at w3
   cases h
   simp -implicitDefEqProofs only [go_sem, X78_1, k78_1, b1, w3]
theorem e78 (a0 : (List Int)) (r : Bool) (h : m78 a0 = some r) : evFL T 78 [.ts .imm 1 (a0.map encInt)] [] = some (.bool r, []) := by
 unfold m78 at h
 rw [evFL_at fn78 (Nat.le_of_ble_eq_true rfl) rfl (.inr rfl) ⟨rfl, rfl⟩]
 obtain ⟨v7, q5, h⟩ := bnd_some h
 have w6 := e78_1 a0 v7 q5
 simp only [X78_1] at w6
 try simp -implicitDefEqProofs only [go_sem] at w6
 cases h
 simp -implicitDefEqProofs only [go_sem, i78, c78, w6]
theorem call80 (args : List AV) (S : St) : evCall T (evFL T) 80 args S = lendC (evFL T 80) S (lendAll S [[1]] args) := evCall0 fn80 rfl rfl rfl args S
theorem callz80 (args : List AV) (S : St) : evCallFz T (evFL T) 80 args S = lendZ (evFL T 80) S [[0]] (lendAll S [[1]] args) := evCallFz0 fn80 rfl rfl rfl args S
attribute [go_sem] call80 callz80
noncomputable def X80_3 (a0 : (List Int)) (s22 : Int) (x24 : Int) (p1 : Int) (o : Bool) : Ex × Fr × St :=
 (.normal, frOf 32 (upd (upd (upd (upd (upd anyF 0 (.ts .imm 1 (a0.map encInt))) 5 (.ts .imm 1 (a0.map encInt))) 6 (.int .i64 p1)) 7 (.int .i64 s22)) 27 (.bool o)), [])
theorem e80_3 (a0 : (List Int)) (s22 : Int) (x24 : Int) (p1 : Int) (o : Bool) (h : m80_3 a0 s22 x24 = some o) : evCL T 0 k80_3 (frOf 32 (upd (upd (upd (upd (upd (upd anyF 0 (.ts .imm 1 (a0.map encInt))) 3 (.int .i64 s22)) 4 (.int .i64 x24)) 5 (.ts .imm 1 (a0.map encInt))) 6 (.int .i64 p1)) 7 (.int .i64 s22))) [] = some (X80_3 a0 s22 x24 p1 o) := by
 unfold m80_3 at h
 obtain ⟨r31, q29, h⟩ := bnd_some h
 have w30 := e79 x24 r31 q29
 try simp -implicitDefEqProofs only [go_sem] at w30
 try simp -implicitDefEqProofs only [go_sem, X80_3, k80_3, w30]
 cases b32 : (r31 : Bool)
 · replace h := br_f b32 h
   cases h
   simp -implicitDefEqProofs only [go_sem, X80_3, k80_3, w30, b32]
 · replace h := br_t b32 h
   try simp -implicitDefEqProofs only [go_sem, X80_3, k80_3, w30, b32]
   cases b33 : (ltI 0 s22 : Bool)
   · replace h := br_f b33 h
     cases h
     simp -implicitDefEqProofs only [go_sem, X80_3, k80_3, w30, b32, b33]
   · replace h := br_t b33 h
     obtain ⟨x34, q35, h⟩ := bnd_some h
     obtain ⟨g36, g37, g38⟩ := idx_row encInt q35
     try simp -implicitDefEqProofs only [go_sem] at g37
     try simp -implicitDefEqProofs only [go_sem] at g38
     cases h
     simp -implicitDefEqProofs only [go_sem, X80_3, k80_3, w30, b32, b33, g36, g37, g38]
noncomputable def X80_1 (a0 : (List Int)) (p1 : Int) (o : (Unit ⊕ Unit)) : Ex × Fr × St :=
 match o with
 | .inl o => (.exit 0, frOf 32 (upd anyF 0 (.ts .imm 1 (a0.map encInt))), [])
 | .inr o => (.ret, frOf 32 (upd anyF 2 (.bool false)), [])
noncomputable def E80_1 (a0 : (List Int)) (p1 : Int) (s : Int) : Fr × St := (frOf 32 (upd (upd (upd (upd anyF 0 (.ts .imm 1 (a0.map encInt))) 5 (.ts .imm 1 (a0.map encInt))) 6 (.int .i64 p1)) 7 (.int .i64 s)), [])
theorem b80_1 (a0 : (List Int)) (p1 : Int) (s : Int) (o : Ctl Int (Unit ⊕ Unit)) (h : m80_1b a0 p1 s = some o) : evCL T 0 k80_1b (E80_1 a0 p1 s).1 (E80_1 a0 p1 s).2 = some (ctlX (E80_1 a0 p1) (X80_1 a0 p1) o) := by
 unfold m80_1b at h
 revert h
 generalize s = s22
 intro h
 try simp -implicitDefEqProofs only [go_sem, E80_1, X80_1, k80_1b]
 cases b23 : (ltI s22 p1 : Bool)
 · replace h := br_f b23 h
   cases h
   simp -implicitDefEqProofs only [go_sem, E80_1, X80_1, k80_1b, b23]
 · replace h := br_t b23 h
   obtain ⟨x24, q25, h⟩ := bnd_some h
   obtain ⟨g26, g27, g28⟩ := idx_row encInt q25
   try simp -implicitDefEqProofs only [go_sem] at g27
   try simp -implicitDefEqProofs only [go_sem] at g28
   obtain ⟨v41, q39, h⟩ := bnd_some h
   have w40 := e80_3 a0 s22 x24 p1 v41 q39
   simp only [X80_3] at w40
   try simp -implicitDefEqProofs only [go_sem] at w40
   try simp -implicitDefEqProofs only [go_sem, E80_1, X80_1, k80_1b, b23, g26, g27, g28, w40]
   cases b42 : (v41 : Bool)
   · replace h := br_f b42 h
     cases h
     simp -implicitDefEqProofs only [go_sem, E80_1, X80_1, k80_1b, b23, g26, g27, g28, w40, b42]
   · replace h := br_t b42 h
     cases h
     simp -implicitDefEqProofs only [go_sem, E80_1, X80_1, k80_1b, b23, g26, g27, g28, w40, b42]
theorem e80_1 (a0 : (List Int)) (p1 : Int) (s : Int) (o : (Unit ⊕ Unit)) (h : loopP (m80_1b a0 p1) s = some o) : evCL T 0 (.loop k80_1b) (E80_1 a0 p1 s).1 (E80_1 a0 p1 s).2 = some (X80_1 a0 p1 o) :=
 loop_walk (E := E80_1 a0 p1) (X := X80_1 a0 p1) (by intro b; rcases b with b | b <;> (simp only [X80_1]; nofun)) (b80_1 a0 p1) s o h
theorem e80 (a0 : (List Int)) (r : Bool) (h : m80 a0 = some r) : evFL T 80 [.ts .imm 1 (a0.map encInt)] [] = some (.bool r, []) := by
 unfold m80 at h
 rw [evFL_at fn80 (Nat.le_of_ble_eq_true rfl) rfl (.inr rfl) ⟨rfl, rfl⟩]
 try simp -implicitDefEqProofs only [go_sem, i80, c80]
 obtain ⟨o, q43, h⟩ := bnd_some h
 rcases o with ⟨⟩ | ⟨⟩
 · replace h := selS_l h
   have w44 := e80_1 a0 (↑a0.length : Int) 0 (.inl ()) q43
   simp only [E80_1, X80_1] at w44
   try simp -implicitDefEqProofs only [go_sem] at w44
   cases h
   simp -implicitDefEqProofs only [go_sem, i80, c80, w44]
 · replace h := selS_r h
   have w44 := e80_1 a0 (↑a0.length : Int) 0 (.inr ()) q43
   simp only [E80_1, X80_1] at w44
   try simp -implicitDefEqProofs only [go_sem] at w44
   cases h
   simp -implicitDefEqProofs only [go_sem, i80, c80, w44]
theorem call38 (args : List AV) (S : St) : evCall T (evFL T) 38 args S = lendC (evFL T 38) S (lendAll S [[0, 1, 0, 0, 0, 1]] args) := evCall0 fn38 rfl rfl rfl args S
theorem callz38 (args : List AV) (S : St) : evCallFz T (evFL T) 38 args S = lendZ (evFL T 38) S [[0]] (lendAll S [[0, 1, 0, 0, 0, 1]] args) := evCallFz0 fn38 rfl rfl rfl args S
attribute [go_sem] call38 callz38
noncomputable def X38_1 (a0 : Attrs) (o : Bool) : Ex × Fr × St :=
 (.normal, frOf 31 (upd anyF 2 (.bool o)), [])
theorem e38_1 (a0 : Attrs) (o : Bool) (h : m38_1 a0 = some o) : evCL T 0 k38_1 (frOf 31 (upd anyF 1 (.ptr 0 0 0))) [some ⟨.box, 6, [[.int .i64 a0.origin, .ts .imm 1 (a0.path.map encInt), .int .i64 a0.next, .int .i64 a0.med, .int .i64 a0.pref, .ts .imm 1 (a0.comms.map encInt)]]⟩] = some (X38_1 a0 o) := by
 unfold m38_1 at h
 obtain ⟨r3, q1, h⟩ := bnd_some h
 have w2 := e75 a0.origin 0 2 r3 q1
 try simp -implicitDefEqProofs only [go_sem] at w2
 try simp -implicitDefEqProofs only [go_sem, X38_1, k38_1, w2]
 cases b4 : (r3 : Bool)
 · replace h := br_f b4 h
   cases h
   simp -implicitDefEqProofs only [go_sem, X38_1, k38_1, w2, b4]
 · replace h := br_t b4 h
   obtain ⟨r7, q5, h⟩ := bnd_some h
   have w6 := e78 a0.path r7 q5
   try simp -implicitDefEqProofs only [go_sem] at w6
   try simp -implicitDefEqProofs only [go_sem, X38_1, k38_1, w2, b4, w6]
   cases b8 : (r7 : Bool)
   · replace h := br_f b8 h
     cases h
     simp -implicitDefEqProofs only [go_sem, X38_1, k38_1, w2, b4, w6, b8]
   · replace h := br_t b8 h
     obtain ⟨r11, q9, h⟩ := bnd_some h
     have w10 := e76 a0.next r11 q9
     try simp -implicitDefEqProofs only [go_sem] at w10
     try simp -implicitDefEqProofs only [go_sem, X38_1, k38_1, w2, b4, w6, b8, w10]
     cases b12 : (r11 : Bool)
     · replace h := br_f b12 h
       cases h
       simp -implicitDefEqProofs only [go_sem, X38_1, k38_1, w2, b4, w6, b8, w10, b12]
     · replace h := br_t b12 h
       obtain ⟨r15, q13, h⟩ := bnd_some h
       have w14 := e79 a0.med r15 q13
       try simp -implicitDefEqProofs only [go_sem] at w14
       try simp -implicitDefEqProofs only [go_sem, X38_1, k38_1, w2, b4, w6, b8, w10, b12, w14]
       cases b16 : (r15 : Bool)
       · replace h := br_f b16 h
         cases h
         simp -implicitDefEqProofs only [go_sem, X38_1, k38_1, w2, b4, w6, b8, w10, b12, w14, b16]
       · replace h := br_t b16 h
         obtain ⟨r19, q17, h⟩ := bnd_some h
         have w18 := e79 a0.pref r19 q17
         try simp -implicitDefEqProofs only [go_sem] at w18
         try simp -implicitDefEqProofs only [go_sem, X38_1, k38_1, w2, b4, w6, b8, w10, b12, w14, b16, w18]
         cases b20 : (r19 : Bool)
         · replace h := br_f b20 h
           cases h
           simp -implicitDefEqProofs only [go_sem, X38_1, k38_1, w2, b4, w6, b8, w10, b12, w14, b16, w18, b20]
         · replace h := br_t b20 h
           obtain ⟨r23, q21, h⟩ := bnd_some h
           have w22 := e80 a0.comms r23 q21
           try simp -implicitDefEqProofs only [go_sem] at w22
           cases h
           simp -implicitDefEqProofs only [go_sem, X38_1, k38_1, w2, b4, w6, b8, w10, b12, w14, b16, w18, b20, w22]
theorem e38 (a0 : Attrs) (r : Bool) (h : m38 a0 = some r) : evFL T 38 [.agg [.int .i64 a0.origin, .ts .imm 1 (a0.path.map encInt), .int .i64 a0.next, .int .i64 a0.med, .int .i64 a0.pref, .ts .imm 1 (a0.comms.map encInt)]] [] = some (.bool r, []) := by
 unfold m38 at h
 rw [evFL_at fn38 (Nat.le_of_ble_eq_true rfl) rfl (.inr rfl) ⟨rfl, rfl⟩]
 obtain ⟨v26, q24, h⟩ := bnd_some h
 have w25 := e38_1 a0 v26 q24
 simp only [X38_1] at w25
 try simp -implicitDefEqProofs only [go_sem] at w25
 cases h
 simp -implicitDefEqProofs only [go_sem, i38, c38, w25]
theorem call11 (args : List AV) (S : St) : evCall T (evFL T) 11 args S = lendC (evFL T 11) S (lendAll S [[0, 0, 0, 1, 0, 0, 0, 1]] args) := evCall0 fn11 rfl rfl rfl args S
theorem callz11 (args : List AV) (S : St) : evCallFz T (evFL T) 11 args S = lendZ (evFL T 11) S [[0]] (lendAll S [[0, 0, 0, 1, 0, 0, 0, 1]] args) := evCallFz0 fn11 rfl rfl rfl args S
attribute [go_sem] call11 callz11
noncomputable def X11_1 (a0 : Route) (o : Bool) : Ex × Fr × St :=
 (.normal, frOf 11 (upd anyF 2 (.bool o)), [])
theorem e11_1 (a0 : Route) (o : Bool) (h : m11_1 a0 = some o) : evCL T 0 k11_1 (frOf 11 (upd anyF 1 (.ptr 0 0 0))) [some ⟨.box, 8, [[.int .i64 a0.prefix_.addr, .int .i64 a0.prefix_.len, .int .i64 a0.attrs.origin, .ts .imm 1 (a0.attrs.path.map encInt), .int .i64 a0.attrs.next, .int .i64 a0.attrs.med, .int .i64 a0.attrs.pref, .ts .imm 1 (a0.attrs.comms.map encInt)]]⟩] = some (X11_1 a0 o) := by
 unfold m11_1 at h
 obtain ⟨r3, q1, h⟩ := bnd_some h
 have w2 := e37 a0.prefix_ r3 q1
 try simp -implicitDefEqProofs only [go_sem] at w2
 try simp -implicitDefEqProofs only [go_sem, X11_1, k11_1, w2]
 cases b4 : (r3 : Bool)
 · replace h := br_f b4 h
   cases h
   simp -implicitDefEqProofs only [go_sem, X11_1, k11_1, w2, b4]
 · replace h := br_t b4 h
   obtain ⟨r7, q5, h⟩ := bnd_some h
   have w6 := e38 a0.attrs r7 q5
   try simp -implicitDefEqProofs only [go_sem] at w6
   cases h
   simp -implicitDefEqProofs only [go_sem, X11_1, k11_1, w2, b4, w6]
theorem e11 (a0 : Route) (r : Bool) (h : m11 a0 = some r) : evFL T 11 [.agg [.int .i64 a0.prefix_.addr, .int .i64 a0.prefix_.len, .int .i64 a0.attrs.origin, .ts .imm 1 (a0.attrs.path.map encInt), .int .i64 a0.attrs.next, .int .i64 a0.attrs.med, .int .i64 a0.attrs.pref, .ts .imm 1 (a0.attrs.comms.map encInt)]] [] = some (.bool r, []) := by
 unfold m11 at h
 rw [evFL_at fn11 (Nat.le_of_ble_eq_true rfl) rfl (.inr rfl) ⟨rfl, rfl⟩]
 obtain ⟨v10, q8, h⟩ := bnd_some h
 have w9 := e11_1 a0 v10 q8
 simp only [X11_1] at w9
 try simp -implicitDefEqProofs only [go_sem] at w9
 cases h
 simp -implicitDefEqProofs only [go_sem, i11, c11, w9]
theorem call146 (args : List AV) (S : St) : evCall T (evFL T) 146 args S = lendC (evFL T 146) S (lendAll S [[1]] args) := evCall0 fn146 rfl rfl rfl args S
theorem callz146 (args : List AV) (S : St) : evCallFz T (evFL T) 146 args S = lendZ (evFL T 146) S [[1]] (lendAll S [[1]] args) := evCallFz0 fn146 rfl rfl rfl args S
attribute [go_sem] call146 callz146
theorem e146 (a0 : (List Int)) (r : (List Int)) (h : m146 a0 = some r) : evFL T 146 [.ts .imm 1 (a0.map encInt)] [] = some (.sl 0 0 r.length, [some ⟨.arr, 1, r.map encInt⟩]) := by
 unfold m146 at h
 rw [evFL_at fn146 (Nat.le_of_ble_eq_true rfl) rfl (.inr rfl) ⟨rfl, rfl⟩]
 cases a0 with
 | nil =>
     obtain ⟨g1, h⟩ := ck_some h
     try simp -implicitDefEqProofs only [go_sem] at g1
     cases h
     simp -implicitDefEqProofs only [go_sem, i146, c146, g1]
 | cons y ys =>
     obtain ⟨g1, h⟩ := ck_some h
     try simp -implicitDefEqProofs only [go_sem] at g1
     cases h
     simp -implicitDefEqProofs only [go_sem, i146, c146, g1]
theorem call128 (args : List AV) (S : St) : evCall T (evFL T) 128 args S = lendC (evFL T 128) S (lendAll S [[0, 1, 0, 0, 0, 1]] args) := evCall0 fn128 rfl rfl rfl args S
theorem callz128 (args : List AV) (S : St) : evCallFz T (evFL T) 128 args S = lendZ (evFL T 128) S [[0, 1, 0, 0, 0, 1]] (lendAll S [[0, 1, 0, 0, 0, 1]] args) := evCallFz0 fn128 rfl rfl rfl args S
attribute [go_sem] call128 callz128
theorem e128 (a0 : Attrs) (r : Attrs) (h : m128 a0 = some r) : evFL T 128 [.agg [.int .i64 a0.origin, .ts .imm 1 (a0.path.map encInt), .int .i64 a0.next, .int .i64 a0.med, .int .i64 a0.pref, .ts .imm 1 (a0.comms.map encInt)]] [] = some (.agg [.int .i64 r.origin, .sl 0 0 r.path.length, .int .i64 r.next, .int .i64 r.med, .int .i64 r.pref, .sl 1 0 r.comms.length], [some ⟨.arr, 1, r.path.map encInt⟩, some ⟨.arr, 1, r.comms.map encInt⟩]) := by
 unfold m128 at h
 rw [evFL_at fn128 (Nat.le_of_ble_eq_true rfl) rfl (.inr rfl) ⟨rfl, rfl⟩]
 obtain ⟨r3, q1, h⟩ := bnd_some h
 have w2 := e146 a0.path r3 q1
 try simp -implicitDefEqProofs only [go_sem] at w2
 obtain ⟨r6, q4, h⟩ := bnd_some h
 have w5 := e146 a0.comms r6 q4
 try simp -implicitDefEqProofs only [go_sem] at w5
 cases h
 simp -implicitDefEqProofs only [go_sem, i128, c128, w2, w5]
theorem call92 (args : List AV) (S : St) : evCall T (evFL T) 92 args S = lendC (evFL T 92) S (lendAll S [[0, 0, 0, 1, 0, 0, 0, 1]] args) := evCall0 fn92 rfl rfl rfl args S
theorem callz92 (args : List AV) (S : St) : evCallFz T (evFL T) 92 args S = lendZ (evFL T 92) S [[0, 0, 0, 1, 0, 0, 0, 1]] (lendAll S [[0, 0, 0, 1, 0, 0, 0, 1]] args) := evCallFz0 fn92 rfl rfl rfl args S
attribute [go_sem] call92 callz92
theorem e92 (a0 : Route) (r : Route) (h : m92 a0 = some r) : evFL T 92 [.agg [.int .i64 a0.prefix_.addr, .int .i64 a0.prefix_.len, .int .i64 a0.attrs.origin, .ts .imm 1 (a0.attrs.path.map encInt), .int .i64 a0.attrs.next, .int .i64 a0.attrs.med, .int .i64 a0.attrs.pref, .ts .imm 1 (a0.attrs.comms.map encInt)]] [] = some (.agg [.int .i64 r.prefix_.addr, .int .i64 r.prefix_.len, .int .i64 r.attrs.origin, .sl 0 0 r.attrs.path.length, .int .i64 r.attrs.next, .int .i64 r.attrs.med, .int .i64 r.attrs.pref, .sl 1 0 r.attrs.comms.length], [some ⟨.arr, 1, r.attrs.path.map encInt⟩, some ⟨.arr, 1, r.attrs.comms.map encInt⟩]) := by
 unfold m92 at h
 rw [evFL_at fn92 (Nat.le_of_ble_eq_true rfl) rfl (.inr rfl) ⟨rfl, rfl⟩]
 obtain ⟨r3, q1, h⟩ := bnd_some h
 have w2 := e128 a0.attrs r3 q1
 try simp -implicitDefEqProofs only [go_sem] at w2
 cases h
 simp -implicitDefEqProofs only [go_sem, i92, c92, w2]
theorem call147 (args : List AV) (S : St) : evCall T (evFL T) 147 args S = lendC (evFL T 147) S (lendAll S [[0]] args) := evCall0 fn147 rfl rfl rfl args S
theorem callz147 (args : List AV) (S : St) : evCallFz T (evFL T) 147 args S = lendZ (evFL T 147) S [[0]] (lendAll S [[0]] args) := evCallFz0 fn147 rfl rfl rfl args S
attribute [go_sem] call147 callz147
theorem e147 (a0 : Int) (r : Bool) (h : m147 a0 = some r) : evFL T 147 [.int .i64 a0] [] = some (.bool r, []) := by
 unfold m147 at h
 rw [evFL_at fn147 (Nat.le_of_ble_eq_true rfl) rfl (.inr rfl) ⟨rfl, rfl⟩]
 cases h
 simp -implicitDefEqProofs only [go_sem, i147, c147]
theorem call129 (args : List AV) (S : St) : evCall T (evFL T) 129 args S = lendC (evFL T 129) S (lendAll S [[0], [0]] args) := evCall0 fn129 rfl rfl rfl args S
theorem callz129 (args : List AV) (S : St) : evCallFz T (evFL T) 129 args S = lendZ (evFL T 129) S [[0]] (lendAll S [[0], [0]] args) := evCallFz0 fn129 rfl rfl rfl args S
attribute [go_sem] call129 callz129
noncomputable def X129_1 (a0 : Int) (a1 : Int) (o : Bool) : Ex × Fr × St :=
 (.normal, frOf 17 (upd anyF 4 (.bool o)), [])
theorem e129_1 (a0 : Int) (a1 : Int) (o : Bool) (h : m129_1 a0 a1 = some o) : evCL T 0 k129_1 (frOf 17 (upd (upd anyF 0 (.int .i64 a0)) 1 (.int .i64 a1))) [] = some (X129_1 a0 a1 o) := by
 unfold m129_1 at h
 obtain ⟨r3, q1, h⟩ := bnd_some h
 have w2 := e147 a0 r3 q1
 try simp -implicitDefEqProofs only [go_sem] at w2
 try simp -implicitDefEqProofs only [go_sem, X129_1, k129_1, w2]
 cases b4 : (r3 : Bool)
 · replace h := br_f b4 h
   cases h
   simp -implicitDefEqProofs only [go_sem, X129_1, k129_1, w2, b4]
 · replace h := br_t b4 h
   obtain ⟨r7, q5, h⟩ := bnd_some h
   have w6 := e147 a1 r7 q5
   try simp -implicitDefEqProofs only [go_sem] at w6
   try simp -implicitDefEqProofs only [go_sem, X129_1, k129_1, w2, b4, w6]
   cases b8 : (r7 : Bool)
   · replace h := br_f b8 h
     cases h
     simp -implicitDefEqProofs only [go_sem, X129_1, k129_1, w2, b4, w6, b8]
   · replace h := br_t b8 h
     cases h
     simp -implicitDefEqProofs only [go_sem, X129_1, k129_1, w2, b4, w6, b8]
theorem e129 (a0 : Int) (a1 : Int) (r : Bool) (h : m129 a0 a1 = some r) : evFL T 129 [.int .i64 a0, .int .i64 a1] [] = some (.bool r, []) := by
 unfold m129 at h
 rw [evFL_at fn129 (Nat.le_of_ble_eq_true rfl) rfl (.inr rfl) ⟨rfl, rfl⟩]
 obtain ⟨v11, q9, h⟩ := bnd_some h
 have w10 := e129_1 a0 a1 v11 q9
 simp only [X129_1] at w10
 try simp -implicitDefEqProofs only [go_sem] at w10
 cases h
 simp -implicitDefEqProofs only [go_sem, i129, c129, w10]
theorem call130 (args : List AV) (S : St) : evCall T (evFL T) 130 args S = lendC (evFL T 130) S (lendAll S [[0]] args) := evCall0 fn130 rfl rfl rfl args S
theorem callz130 (args : List AV) (S : St) : evCallFz T (evFL T) 130 args S = lendZ (evFL T 130) S [[0]] (lendAll S [[0]] args) := evCallFz0 fn130 rfl rfl rfl args S
attribute [go_sem] call130 callz130
theorem e130 (a0 : Int) (r : Bool) (h : m130 a0 = some r) : evFL T 130 [.int .i64 a0] [] = some (.bool r, []) := by
 unfold m130 at h
 rw [evFL_at fn130 (Nat.le_of_ble_eq_true rfl) rfl (.inr rfl) ⟨rfl, rfl⟩]
 cases h
 simp -implicitDefEqProofs only [go_sem, i130, c130]
theorem call93 (args : List AV) (S : St) : evCall T (evFL T) 93 args S = lendC (evFL T 93) S (lendAll S [[1], [0]] args) := evCall0 fn93 rfl rfl rfl args S
theorem callz93 (args : List AV) (S : St) : evCallFz T (evFL T) 93 args S = lendZ (evFL T 93) S [[0], [0]] (lendAll S [[1], [0]] args) := evCallFz0 fn93 rfl rfl rfl args S
attribute [go_sem] call93 callz93
noncomputable def X93_3 (a0 : (List Int)) (a1 : Int) (p1 : Int) (s18 : Int) (s19 : Int) (p29 : Int) (r28 : Bool) (o : (Int × Int)) : Ex × Fr × St :=
 (.normal, frOf 54 (upd (upd (upd (upd (upd anyF 0 (.ts .imm 1 (a0.map encInt))) 1 (.int .i64 a1)) 6 (.int .i64 p1)) 7 (.int .i64 o.1)) 8 (.int .i64 o.2)), [])
theorem e93_3 (a0 : (List Int)) (a1 : Int) (p1 : Int) (s18 : Int) (s19 : Int) (p29 : Int) (r28 : Bool) (o : (Int × Int)) (h : m93_3 s18 s19 p29 r28 = some o) : evCL T 0 k93_3 (frOf 54 (upd (upd (upd (upd (upd (upd (upd anyF 0 (.ts .imm 1 (a0.map encInt))) 1 (.int .i64 a1)) 6 (.int .i64 p1)) 7 (.int .i64 s18)) 8 (.int .i64 s19)) 9 (.int .i64 p29)) 27 (.bool r28))) [] = some (X93_3 a0 a1 p1 s18 s19 p29 r28 o) := by
 unfold m93_3 at h
 try simp -implicitDefEqProofs only [go_sem, X93_3, k93_3]
 cases b30 : (r28 : Bool)
 · replace h := br_f b30 h
   cases h
   simp -implicitDefEqProofs only [go_sem, X93_3, k93_3, b30]
 · replace h := br_t b30 h
   cases h
   simp -implicitDefEqProofs only [go_sem, X93_3, k93_3, b30]
noncomputable def X93_1 (a0 : (List Int)) (a1 : Int) (p1 : Int) (o : Int) : Ex × Fr × St :=
 (.exit 0, frOf 54 (upd (upd (upd (upd anyF 0 (.ts .imm 1 (a0.map encInt))) 1 (.int .i64 a1)) 6 (.int .i64 p1)) 7 (.int .i64 o)), [])
noncomputable def E93_1 (a0 : (List Int)) (a1 : Int) (p1 : Int) (s : (Int × Int)) : Fr × St := (frOf 54 (upd (upd (upd (upd (upd anyF 0 (.ts .imm 1 (a0.map encInt))) 1 (.int .i64 a1)) 6 (.int .i64 p1)) 7 (.int .i64 s.1)) 8 (.int .i64 s.2)), [])
theorem b93_1 (a0 : (List Int)) (a1 : Int) (p1 : Int) (s : (Int × Int)) (o : Ctl (Int × Int) Int) (h : m93_1b a0 a1 s = some o) : evCL T 0 k93_1b (E93_1 a0 a1 p1 s).1 (E93_1 a0 a1 p1 s).2 = some (ctlX (E93_1 a0 a1 p1) (X93_1 a0 a1 p1) o) := by
 unfold m93_1b at h
 obtain ⟨s18, s19⟩ := s
 replace h := sel2_some h
 try simp -implicitDefEqProofs only [go_sem, E93_1, X93_1, k93_1b]
 cases b20 : (ltI s18 s19 : Bool)
 · replace h := br_f b20 h
   cases h
   simp -implicitDefEqProofs only [go_sem, E93_1, X93_1, k93_1b, b20]
 · replace h := br_t b20 h
   obtain ⟨x21, q22, h⟩ := bnd_some h
   obtain ⟨g23, g24, g25⟩ := idx_row encInt q22
   try simp -implicitDefEqProofs only [go_sem] at g24
   try simp -implicitDefEqProofs only [go_sem] at g25
   obtain ⟨r28, q26, h⟩ := bnd_some h
   have w27 := e129 x21 a1 r28 q26
   try simp -implicitDefEqProofs only [go_sem] at w27
   obtain ⟨⟨v33, v34⟩, q31, h⟩ := bnd_some h
   replace h := sel2_some h
   have w32 := e93_3 a0 a1 p1 s18 s19 (wcv .i64 (wshr .u64 (wcv .u64 (wadd .i64 s18 s19)) 1)) r28 (v33, v34) q31
   simp only [X93_3] at w32
   try simp -implicitDefEqProofs only [go_sem] at w32
   cases h
   simp -implicitDefEqProofs only [go_sem, E93_1, X93_1, k93_1b, b20, g23, g24, g25, w27, w32]
theorem e93_1 (a0 : (List Int)) (a1 : Int) (p1 : Int) (s : (Int × Int)) (o : Int) (h : loopP (m93_1b a0 a1) s = some o) : evCL T 0 (.loop k93_1b) (E93_1 a0 a1 p1 s).1 (E93_1 a0 a1 p1 s).2 = some (X93_1 a0 a1 p1 o) :=
 loop_walk (E := E93_1 a0 a1 p1) (X := X93_1 a0 a1 p1) (by intro b; (simp only [X93_1]; nofun)) (b93_1 a0 a1 p1) s o h
noncomputable def X93_4 (a0 : (List Int)) (a1 : Int) (p38 : Int) (v37 : Int) (o : Bool) : Ex × Fr × St :=
 (.normal, frOf 54 (upd (upd anyF 4 (.int .i64 v37)) 5 (.bool o)), [])
theorem e93_4 (a0 : (List Int)) (a1 : Int) (p38 : Int) (v37 : Int) (o : Bool) (h : m93_4 a0 a1 p38 v37 = some o) : evCL T 0 k93_4 (frOf 54 (upd (upd (upd (upd anyF 0 (.ts .imm 1 (a0.map encInt))) 1 (.int .i64 a1)) 6 (.int .i64 p38)) 7 (.int .i64 v37))) [] = some (X93_4 a0 a1 p38 v37 o) := by
 unfold m93_4 at h
 try simp -implicitDefEqProofs only [go_sem, X93_4, k93_4]
 cases b39 : (ltI v37 p38 : Bool)
 · replace h := br_f b39 h
   cases h
   simp -implicitDefEqProofs only [go_sem, X93_4, k93_4, b39]
 · replace h := br_t b39 h
   obtain ⟨x40, q41, h⟩ := bnd_some h
   obtain ⟨g42, g43, g44⟩ := idx_row encInt q41
   try simp -implicitDefEqProofs only [go_sem] at g43
   try simp -implicitDefEqProofs only [go_sem] at g44
   try simp -implicitDefEqProofs only [go_sem, X93_4, k93_4, b39, g42, g43, g44]
   cases b45 : (eqI x40 a1 : Bool)
   · replace h := br_f b45 h
     obtain ⟨r48, q46, h⟩ := bnd_some h
     have w47 := e130 x40 r48 q46
     try simp -implicitDefEqProofs only [go_sem] at w47
     try simp -implicitDefEqProofs only [go_sem, X93_4, k93_4, b39, g42, g43, g44, b45, w47]
     cases b49 : (r48 : Bool)
     · replace h := br_f b49 h
       cases h
       simp -implicitDefEqProofs only [go_sem, X93_4, k93_4, b39, g42, g43, g44, b45, w47, b49]
     · replace h := br_t b49 h
       obtain ⟨r52, q50, h⟩ := bnd_some h
       have w51 := e130 a1 r52 q50
       try simp -implicitDefEqProofs only [go_sem] at w51
       cases h
       simp -implicitDefEqProofs only [go_sem, X93_4, k93_4, b39, g42, g43, g44, b45, w47, b49, w51]
   · replace h := br_t b45 h
     cases h
     simp -implicitDefEqProofs only [go_sem, X93_4, k93_4, b39, g42, g43, g44, b45]
theorem e93 (a0 : (List Int)) (a1 : Int) (r : (Int × Bool)) (h : m93 a0 a1 = some r) : evFL T 93 [.ts .imm 1 (a0.map encInt), .int .i64 a1] [] = some (.tup [.int .i64 r.1, .bool r.2], []) := by
 unfold m93 at h
 rw [evFL_at fn93 (Nat.le_of_ble_eq_true rfl) rfl (.inr rfl) ⟨rfl, rfl⟩]
 obtain ⟨v37, q35, h⟩ := bnd_some h
 have w36 := e93_1 a0 a1 (↑a0.length : Int) (0, (↑a0.length : Int)) v37 q35
 simp only [E93_1, X93_1] at w36
 try simp -implicitDefEqProofs only [go_sem] at w36
 obtain ⟨v55, q53, h⟩ := bnd_some h
 have w54 := e93_4 a0 a1 (↑a0.length : Int) v37 v55 q53
 simp only [X93_4] at w54
 try simp -implicitDefEqProofs only [go_sem] at w54
 cases h
 simp -implicitDefEqProofs only [go_sem, i93, c93, w36, w54]
theorem call94 (args : List AV) (S : St) : evCall T (evFL T) 94 args S = evIns T 24 args S := evCallI fn94 rfl args S
attribute [go_sem] call94
theorem call95 (args : List AV) (S : St) : evCall T (evFL T) 95 args S = c3A true true (evFL T 95) (rawAll S [[1], [0]] args) := evCall3_g fn95 rfl (fun h => absurd h.1 (by decide)) args S
attribute [go_sem] call95
noncomputable def X95_3 (a1_f : Nat) (a1_c : List AV) (s26 : Int) (s27 : Int) (x30 : Int) (p38 : Bool) (s28 : List Int) (a1 : (Int → Option Bool)) (o : (Int × List Int)) : Ex × Fr × St :=
 (.normal, frOf 42 (upd (upd (upd (upd anyF 0 (.sl 1 0 o.2.length)) 1 (.fn a1_f a1_c)) 5 (.int .i64 o.1)) 6 (.int .i64 s27)), [none, some ⟨.arr, 1, o.2.map encInt⟩])
theorem e95_3 (s26 : Int) (s27 : Int) (x30 : Int) (p38 : Bool) (s28 : List Int) (a1 : (Int → Option Bool)) (a1_f : Nat) (a1_c : List AV) (a1_h : ((∀ S, mapO (lendPtr S) a1_c = some a1_c) ∧ (∀ n0 src R tm t c, tdL n0 src R tm t c a1_c = some a1_c)) ∧ ∀ y0 r, a1 y0 = some r → (∀ S, evCall T (evFL T) a1_f ([.int .i64 y0] ++ a1_c) S = some (.bool r, S)) ∧ (∀ S, evCallFz T (evFL T) a1_f ([.int .i64 y0] ++ a1_c) S = some (.bool r, S))) (o : (Int × List Int)) (h : m95_3 s26 x30 p38 s28 = some o) : evCL T 1 k95_3 (frOf 42 (upd (upd (upd (upd (upd (upd anyF 0 (.sl 1 0 s28.length)) 1 (.fn a1_f a1_c)) 5 (.int .i64 s26)) 6 (.int .i64 s27)) 7 (.int .i64 x30)) 29 (.bool p38))) [none, some ⟨.arr, 1, s28.map encInt⟩] = some (X95_3 a1_f a1_c s26 s27 x30 p38 s28 a1 o) := by
 unfold m95_3 at h
 try simp -implicitDefEqProofs only [go_sem, X95_3, k95_3, a1_h.1]
 cases b39 : (p38 : Bool)
 · replace h := br_f b39 h
   cases h
   simp -implicitDefEqProofs only [go_sem, X95_3, k95_3, a1_h.1, b39]
 · replace h := br_t b39 h
   obtain ⟨x40, q41, h⟩ := bnd_some h
   obtain ⟨g42, g43, g44⟩ := idx_row encInt q41
   try simp -implicitDefEqProofs only [go_sem] at g43
   try simp -implicitDefEqProofs only [go_sem] at g44
   cases h
   simp -implicitDefEqProofs only [go_sem, X95_3, k95_3, a1_h.1, b39, g42, g43, g44]
noncomputable def X95_1 (a1_f : Nat) (a1_c : List AV) (a1 : (Int → Option Bool)) (o : (Int × List Int)) : Ex × Fr × St :=
 (.exit 0, frOf 42 (upd (upd anyF 0 (.sl 1 0 o.2.length)) 5 (.int .i64 o.1)), [none, some ⟨.arr, 1, o.2.map encInt⟩])
noncomputable def E95_1 (a1_f : Nat) (a1_c : List AV) (a1 : (Int → Option Bool)) (s : (Int × Int × List Int)) : Fr × St := (frOf 42 (upd (upd (upd (upd anyF 0 (.sl 1 0 s.2.2.length)) 1 (.fn a1_f a1_c)) 5 (.int .i64 s.1)) 6 (.int .i64 s.2.1)), [none, some ⟨.arr, 1, s.2.2.map encInt⟩])
theorem b95_1 (a1 : (Int → Option Bool)) (a1_f : Nat) (a1_c : List AV) (a1_h : ((∀ S, mapO (lendPtr S) a1_c = some a1_c) ∧ (∀ n0 src R tm t c, tdL n0 src R tm t c a1_c = some a1_c)) ∧ ∀ y0 r, a1 y0 = some r → (∀ S, evCall T (evFL T) a1_f ([.int .i64 y0] ++ a1_c) S = some (.bool r, S)) ∧ (∀ S, evCallFz T (evFL T) a1_f ([.int .i64 y0] ++ a1_c) S = some (.bool r, S))) (s : (Int × Int × List Int)) (o : Ctl (Int × Int × List Int) (Int × List Int)) (h : m95_1b a1 s = some o) : evCL T 1 k95_1b (E95_1 a1_f a1_c a1 s).1 (E95_1 a1_f a1_c a1 s).2 = some (ctlX (E95_1 a1_f a1_c a1) (X95_1 a1_f a1_c a1) o) := by
 unfold m95_1b at h
 obtain ⟨s26, s27, s28⟩ := s
 replace h := sel3_some h
 try simp -implicitDefEqProofs only [go_sem, E95_1, X95_1, k95_1b, a1_h.1]
 cases b29 : (ltI s27 (↑s28.length : Int) : Bool)
 · replace h := br_f b29 h
   cases h
   simp -implicitDefEqProofs only [go_sem, E95_1, X95_1, k95_1b, a1_h.1, b29]
 · replace h := br_t b29 h
   obtain ⟨x30, q31, h⟩ := bnd_some h
   obtain ⟨g32, g33, g34⟩ := idx_row encInt q31
   try simp -implicitDefEqProofs only [go_sem] at g33
   try simp -implicitDefEqProofs only [go_sem] at g34
   obtain ⟨r35, q36, h⟩ := bnd_some h
   have w37 := a1_h.2 x30 r35 q36
   try simp -implicitDefEqProofs only [go_sem] at w37
   obtain ⟨⟨v47, v48⟩, q45, h⟩ := bnd_some h
   replace h := sel2_some h
   have w46 := e95_3 s26 s27 x30 (!r35) s28 a1 a1_f a1_c a1_h (v47, v48) q45
   simp only [X95_3] at w46
   try simp -implicitDefEqProofs only [go_sem] at w46
   cases h
   simp -implicitDefEqProofs only [go_sem, E95_1, X95_1, k95_1b, a1_h.1, b29, g32, g33, g34, w37.1, w37.2, w46]
theorem e95_1 (a1 : (Int → Option Bool)) (a1_f : Nat) (a1_c : List AV) (a1_h : ((∀ S, mapO (lendPtr S) a1_c = some a1_c) ∧ (∀ n0 src R tm t c, tdL n0 src R tm t c a1_c = some a1_c)) ∧ ∀ y0 r, a1 y0 = some r → (∀ S, evCall T (evFL T) a1_f ([.int .i64 y0] ++ a1_c) S = some (.bool r, S)) ∧ (∀ S, evCallFz T (evFL T) a1_f ([.int .i64 y0] ++ a1_c) S = some (.bool r, S))) (s : (Int × Int × List Int)) (o : (Int × List Int)) (h : loopP (m95_1b a1) s = some o) : evCL T 1 (.loop k95_1b) (E95_1 a1_f a1_c a1 s).1 (E95_1 a1_f a1_c a1 s).2 = some (X95_1 a1_f a1_c a1 o) :=
 loop_walk (E := E95_1 a1_f a1_c a1) (X := X95_1 a1_f a1_c a1) (by intro b; (simp only [X95_1]; nofun)) (b95_1 a1 a1_f a1_c a1_h) s o h
theorem e95 (a0 : (List Int)) (a1 : (Int → Option Bool)) (a1_f : Nat) (a1_c : List AV) (a1_h : ((∀ S, mapO (lendPtr S) a1_c = some a1_c) ∧ (∀ n0 src R tm t c, tdL n0 src R tm t c a1_c = some a1_c)) ∧ ∀ y0 r, a1 y0 = some r → (∀ S, evCall T (evFL T) a1_f ([.int .i64 y0] ++ a1_c) S = some (.bool r, S)) ∧ (∀ S, evCallFz T (evFL T) a1_f ([.int .i64 y0] ++ a1_c) S = some (.bool r, S))) (r : List Int) (h : m95 a0 a1 = some r) : evFL T 95 [.sl 0 0 a0.length, .fn a1_f a1_c] [some ⟨.arr, 1, a0.map encInt⟩] = some (.sl 1 0 r.length, [none, some ⟨.arr, 1, r.map encInt⟩]) := by
 unfold m95 at h
 rw [evFL_at fn95 (Nat.le_of_ble_eq_true rfl) rfl (.inl rfl) ⟨rfl, rfl⟩]
 obtain ⟨r3, q1, h⟩ := bnd_some h
 have w2 := e133 a0 a1 a1_f a1_c a1_h r3 q1
 try simp -implicitDefEqProofs only [go_sem] at w2
 try simp -implicitDefEqProofs only [go_sem, i95, c95, a1_h.1, w2]
 cases b4 : (eqI r3 (-1) : Bool)
 · replace h := br_f b4 h
   obtain ⟨⟨v51, v52⟩, q49, h⟩ := bnd_some h
   replace h := sel2_some h
   have w50 := e95_1 a1 a1_f a1_c a1_h (r3, wadd .i64 r3 1, a0) (v51, v52) q49
   simp only [E95_1, X95_1] at w50
   try simp -implicitDefEqProofs only [go_sem] at w50
   obtain ⟨g53, h⟩ := ck_some h
   try simp -implicitDefEqProofs only [go_sem] at g53
   have g54 : v51.toNat + (v52.length - v51.toNat) ≤ v52.length := by (try simp only [List.length_take, List.length_drop, List.length_append, List.length_set, List.length_cons, List.length_nil]); omega
   have g55 : v51.toNat + (v52.length - v51.toNat) = v52.length := by (try simp only [List.length_take, List.length_drop, List.length_append, List.length_set, List.length_cons, List.length_nil]); omega
   have g56 : v51.toNat ≤ v52.length := by (try simp only [List.length_take, List.length_drop, List.length_append, List.length_set, List.length_cons, List.length_nil]); omega
   obtain ⟨g57, h⟩ := ck_some h
   try simp -implicitDefEqProofs only [go_sem] at g57
   have g58 : 0 + (v51.toNat) ≤ (v52.take v51.toNat).length := by (try simp only [List.length_take, List.length_drop, List.length_append, List.length_set, List.length_cons, List.length_nil]); omega
   have g59 : v51.toNat ≤ (((v52.take v51.toNat).drop 0).take v52.length).length := by (try simp only [List.length_take, List.length_drop, List.length_append, List.length_set, List.length_cons, List.length_nil]); omega
   cases h
   simp -implicitDefEqProofs only [go_sem, i95, c95, a1_h.1, w2, b4, w50, g53, g54, g55, g56, g57, g58, g59]
 · replace h := br_t b4 h
   cases h
   simp -implicitDefEqProofs only [go_sem, i95, c95, a1_h.1, w2, b4]
theorem call96 (args : List AV) (S : St) : evCall T (evFL T) 96 args S = lendC (evFL T 96) S (lendAll S [[0], [0]] args) := evCall0 fn96 rfl rfl rfl args S
theorem callz96 (args : List AV) (S : St) : evCallFz T (evFL T) 96 args S = lendZ (evFL T 96) S [[0]] (lendAll S [[0], [0]] args) := evCallFz0 fn96 rfl rfl rfl args S
attribute [go_sem] call96 callz96
theorem e96 (a0 : Int) (a1 : Acn) (r : Bool) (h : m96 a0 a1 = some r) : evFL T 96 [.int .i64 a0, .tp .imm 2 [[.int .i64 a1.kind, .int .i64 a1.n]] 0 0] [] = some (.bool r, []) := by
 unfold m96 at h
 rw [evFL_at fn96 (Nat.le_of_ble_eq_true rfl) rfl (.inr rfl) ⟨rfl, rfl⟩]
 cases h
 simp -implicitDefEqProofs only [go_sem, i96, c96]
theorem call51 (args : List AV) (S : St) : evCall T (evFL T) 51 args S = lendC (evFL T 51) S (lendAll S [[0, 0], [0, 0, 0, 1, 0, 0, 0, 1]] args) := evCall0 fn51 rfl rfl rfl args S
theorem callz51 (args : List AV) (S : St) : evCallFz T (evFL T) 51 args S = lendZ (evFL T 51) S [[0, 0, 0, 1, 0, 0, 0, 1], [0]] (lendAll S [[0, 0], [0, 0, 0, 1, 0, 0, 0, 1]] args) := evCallFz0 fn51 rfl rfl rfl args S
attribute [go_sem] call51 callz51
noncomputable def X51_4 (r13 : Int) (p15 : Bool) (a0 : Acn) (p5 : Prefix) (r3 : Route) (o : (List Int)) : Ex × Fr × St :=
 (.normal, frOf 71 (upd (upd anyF 4 (.ptr 0 0 0)) 6 (.ptr 3 0 0)), [some ⟨.box, 8, [[.int .i64 p5.addr, .int .i64 p5.len, .int .i64 0, .sl 1 0 0, .int .i64 0, .int .i64 0, .int .i64 0, .sl 2 0 0]]⟩, some ⟨.arr, 1, []⟩, some ⟨.arr, 1, []⟩, some ⟨.box, 8, [[.int .i64 r3.prefix_.addr, .int .i64 r3.prefix_.len, .int .i64 r3.attrs.origin, .sl 4 0 r3.attrs.path.length, .int .i64 r3.attrs.next, .int .i64 r3.attrs.med, .int .i64 r3.attrs.pref, .sl 5 0 o.length]]⟩, some ⟨.arr, 1, r3.attrs.path.map encInt⟩, some ⟨.arr, 1, o.map encInt⟩])
theorem e51_4 (r13 : Int) (p15 : Bool) (a0 : Acn) (p5 : Prefix) (r3 : Route) (o : (List Int)) (h : m51_4 r13 p15 a0 r3 = some o) : evCL T 0 k51_4 (frOf 71 (upd (upd (upd (upd (upd anyF 2 (.ptr 0 0 0)) 4 (.ptr 1 0 0)) 6 (.ptr 4 0 0)) 7 (.int .i64 r13)) 37 (.bool p15))) [some ⟨.box, 2, [[.int .i64 a0.kind, .int .i64 a0.n]]⟩, some ⟨.box, 8, [[.int .i64 p5.addr, .int .i64 p5.len, .int .i64 0, .sl 2 0 0, .int .i64 0, .int .i64 0, .int .i64 0, .sl 3 0 0]]⟩, some ⟨.arr, 1, []⟩, some ⟨.arr, 1, []⟩, some ⟨.box, 8, [[.int .i64 r3.prefix_.addr, .int .i64 r3.prefix_.len, .int .i64 r3.attrs.origin, .sl 5 0 r3.attrs.path.length, .int .i64 r3.attrs.next, .int .i64 r3.attrs.med, .int .i64 r3.attrs.pref, .sl 6 0 r3.attrs.comms.length]]⟩, some ⟨.arr, 1, r3.attrs.path.map encInt⟩, some ⟨.arr, 1, r3.attrs.comms.map encInt⟩] = some (X51_4 r13 p15 a0 p5 r3 o) := by
 unfold m51_4 at h
 try simp -implicitDefEqProofs only [go_sem, X51_4, k51_4]
 cases b16 : (p15 : Bool)
 · replace h := br_f b16 h
   cases h
   simp -implicitDefEqProofs only [go_sem, X51_4, k51_4, b16]
 · replace h := br_t b16 h
   obtain ⟨g17, h⟩ := ck_some h
   try simp -implicitDefEqProofs only [go_sem] at g17
   have g18 : (r3.attrs.comms.take r13.toNat).length + 1 + (r3.attrs.comms.length - r13.toNat) = r3.attrs.comms.length + 1 := by (try simp only [List.length_take, List.length_drop, List.length_append, List.length_set, List.length_cons, List.length_nil]); omega
   cases h
   simp -implicitDefEqProofs only [go_sem, X51_4, k51_4, b16, g17, g18]
noncomputable def X51_6 (p27 : Bool) (a0 : Acn) (p5 : Prefix) (r3 : Route) (o : (List Int)) : Ex × Fr × St :=
 (.normal, frOf 71 (upd (upd anyF 4 (.ptr 0 0 0)) 6 (.ptr 3 0 0)), [some ⟨.box, 8, [[.int .i64 p5.addr, .int .i64 p5.len, .int .i64 0, .sl 1 0 0, .int .i64 0, .int .i64 0, .int .i64 0, .sl 2 0 0]]⟩, some ⟨.arr, 1, []⟩, some ⟨.arr, 1, []⟩, some ⟨.box, 8, [[.int .i64 r3.prefix_.addr, .int .i64 r3.prefix_.len, .int .i64 r3.attrs.origin, .sl 4 0 o.length, .int .i64 r3.attrs.next, .int .i64 r3.attrs.med, .int .i64 r3.attrs.pref, .sl 5 0 r3.attrs.comms.length]]⟩, some ⟨.arr, 1, o.map encInt⟩, some ⟨.arr, 1, r3.attrs.comms.map encInt⟩])
theorem e51_6 (p27 : Bool) (a0 : Acn) (p5 : Prefix) (r3 : Route) (o : (List Int)) (h : m51_6 p27 a0 r3 = some o) : evCL T 0 k51_6 (frOf 71 (upd (upd (upd (upd anyF 2 (.ptr 0 0 0)) 4 (.ptr 1 0 0)) 6 (.ptr 4 0 0)) 57 (.bool p27))) [some ⟨.box, 2, [[.int .i64 a0.kind, .int .i64 a0.n]]⟩, some ⟨.box, 8, [[.int .i64 p5.addr, .int .i64 p5.len, .int .i64 0, .sl 2 0 0, .int .i64 0, .int .i64 0, .int .i64 0, .sl 3 0 0]]⟩, some ⟨.arr, 1, []⟩, some ⟨.arr, 1, []⟩, some ⟨.box, 8, [[.int .i64 r3.prefix_.addr, .int .i64 r3.prefix_.len, .int .i64 r3.attrs.origin, .sl 5 0 r3.attrs.path.length, .int .i64 r3.attrs.next, .int .i64 r3.attrs.med, .int .i64 r3.attrs.pref, .sl 6 0 r3.attrs.comms.length]]⟩, some ⟨.arr, 1, r3.attrs.path.map encInt⟩, some ⟨.arr, 1, r3.attrs.comms.map encInt⟩] = some (X51_6 p27 a0 p5 r3 o) := by
 unfold m51_6 at h
 try simp -implicitDefEqProofs only [go_sem, X51_6, k51_6]
 cases b28 : (p27 : Bool)
 · replace h := br_f b28 h
   cases h
   simp -implicitDefEqProofs only [go_sem, X51_6, k51_6, b28]
 · replace h := br_t b28 h
   obtain ⟨g29, h⟩ := ck_some h
   try simp -implicitDefEqProofs only [go_sem] at g29
   have g30 : (r3.attrs.path.take 0).length + 1 + (r3.attrs.path.length - 0) = r3.attrs.path.length + 1 := by (try simp only [List.length_take, List.length_drop, List.length_append, List.length_set, List.length_cons, List.length_nil]); omega
   cases h
   simp -implicitDefEqProofs only [go_sem, X51_6, k51_6, b28, g29, g30]
noncomputable def X51_5 (a0 : Acn) (p22 : Bool) (p5 : Prefix) (r3 : Route) (o : (List Int × List Int)) : Ex × Fr × St :=
 (.normal, frOf 71 (upd (upd anyF 4 (.ptr 0 0 0)) 6 (.ptr 3 0 0)), [some ⟨.box, 8, [[.int .i64 p5.addr, .int .i64 p5.len, .int .i64 0, .sl 1 0 0, .int .i64 0, .int .i64 0, .int .i64 0, .sl 2 0 0]]⟩, some ⟨.arr, 1, []⟩, some ⟨.arr, 1, []⟩, some ⟨.box, 8, [[.int .i64 r3.prefix_.addr, .int .i64 r3.prefix_.len, .int .i64 r3.attrs.origin, .sl 4 0 o.1.length, .int .i64 r3.attrs.next, .int .i64 r3.attrs.med, .int .i64 r3.attrs.pref, .sl 5 0 o.2.length]]⟩, some ⟨.arr, 1, o.1.map encInt⟩, some ⟨.arr, 1, o.2.map encInt⟩])
theorem e51_5 (a0 : Acn) (p22 : Bool) (p5 : Prefix) (r3 : Route) (o : (List Int × List Int)) (h : m51_5 a0 p22 r3 = some o) : evCL T 0 k51_5 (frOf 71 (upd (upd (upd (upd (upd anyF 2 (.ptr 0 0 0)) 4 (.ptr 1 0 0)) 6 (.ptr 4 0 0)) 12 (.int .i64 a0.kind)) 48 (.bool p22))) [some ⟨.box, 2, [[.int .i64 a0.kind, .int .i64 a0.n]]⟩, some ⟨.box, 8, [[.int .i64 p5.addr, .int .i64 p5.len, .int .i64 0, .sl 2 0 0, .int .i64 0, .int .i64 0, .int .i64 0, .sl 3 0 0]]⟩, some ⟨.arr, 1, []⟩, some ⟨.arr, 1, []⟩, some ⟨.box, 8, [[.int .i64 r3.prefix_.addr, .int .i64 r3.prefix_.len, .int .i64 r3.attrs.origin, .sl 5 0 r3.attrs.path.length, .int .i64 r3.attrs.next, .int .i64 r3.attrs.med, .int .i64 r3.attrs.pref, .sl 6 0 r3.attrs.comms.length]]⟩, some ⟨.arr, 1, r3.attrs.path.map encInt⟩, some ⟨.arr, 1, r3.attrs.comms.map encInt⟩] = some (X51_5 a0 p22 p5 r3 o) := by
 unfold m51_5 at h
 try simp -implicitDefEqProofs only [go_sem, X51_5, k51_5]
 cases b23 : (p22 : Bool)
 · replace h := br_f b23 h
   obtain ⟨v33, q31, h⟩ := bnd_some h
   have w32 := e51_6 (eqI a0.kind 5) a0 p5 r3 v33 q31
   simp only [X51_6] at w32
   try simp -implicitDefEqProofs only [go_sem] at w32
   cases h
   simp -implicitDefEqProofs only [go_sem, X51_5, k51_5, b23, w32]
 · replace h := br_t b23 h
   obtain ⟨r26, q24, h⟩ := bnd_some h
   have w25 := e95 r3.attrs.comms (fun y0 => m96 y0 a0) 96 [.tp .imm 2 [[.int .i64 a0.kind, .int .i64 a0.n]] 0 0] ⟨⟨fun S => by simp -implicitDefEqProofs only [go_sem], fun _ _ _ _ _ _ => by simp -implicitDefEqProofs only [go_sem]⟩, fun y0 r h => ⟨fun S => by simp -implicitDefEqProofs only [go_sem, e96 y0 a0 r h], fun S => by simp -implicitDefEqProofs only [go_sem, e96 y0 a0 r h]⟩⟩ r26 q24
   try simp -implicitDefEqProofs only [go_sem] at w25
   cases h
   simp -implicitDefEqProofs only [go_sem, X51_5, k51_5, b23, w25]
noncomputable def X51_3 (a0 : Acn) (p9 : Bool) (p5 : Prefix) (r3 : Route) (o : (List Int × List Int)) : Ex × Fr × St :=
 (.normal, frOf 71 (upd (upd anyF 4 (.ptr 0 0 0)) 6 (.ptr 3 0 0)), [some ⟨.box, 8, [[.int .i64 p5.addr, .int .i64 p5.len, .int .i64 0, .sl 1 0 0, .int .i64 0, .int .i64 0, .int .i64 0, .sl 2 0 0]]⟩, some ⟨.arr, 1, []⟩, some ⟨.arr, 1, []⟩, some ⟨.box, 8, [[.int .i64 r3.prefix_.addr, .int .i64 r3.prefix_.len, .int .i64 r3.attrs.origin, .sl 4 0 o.1.length, .int .i64 r3.attrs.next, .int .i64 r3.attrs.med, .int .i64 r3.attrs.pref, .sl 5 0 o.2.length]]⟩, some ⟨.arr, 1, o.1.map encInt⟩, some ⟨.arr, 1, o.2.map encInt⟩])
theorem e51_3 (a0 : Acn) (p9 : Bool) (p5 : Prefix) (r3 : Route) (o : (List Int × List Int)) (h : m51_3 a0 p9 r3 = some o) : evCL T 0 k51_3 (frOf 71 (upd (upd (upd (upd (upd anyF 2 (.ptr 0 0 0)) 4 (.ptr 1 0 0)) 6 (.ptr 4 0 0)) 12 (.int .i64 a0.kind)) 25 (.bool p9))) [some ⟨.box, 2, [[.int .i64 a0.kind, .int .i64 a0.n]]⟩, some ⟨.box, 8, [[.int .i64 p5.addr, .int .i64 p5.len, .int .i64 0, .sl 2 0 0, .int .i64 0, .int .i64 0, .int .i64 0, .sl 3 0 0]]⟩, some ⟨.arr, 1, []⟩, some ⟨.arr, 1, []⟩, some ⟨.box, 8, [[.int .i64 r3.prefix_.addr, .int .i64 r3.prefix_.len, .int .i64 r3.attrs.origin, .sl 5 0 r3.attrs.path.length, .int .i64 r3.attrs.next, .int .i64 r3.attrs.med, .int .i64 r3.attrs.pref, .sl 6 0 r3.attrs.comms.length]]⟩, some ⟨.arr, 1, r3.attrs.path.map encInt⟩, some ⟨.arr, 1, r3.attrs.comms.map encInt⟩] = some (X51_3 a0 p9 p5 r3 o) := by
 unfold m51_3 at h
 try simp -implicitDefEqProofs only [go_sem, X51_3, k51_3]
 cases b10 : (p9 : Bool)
 · replace h := br_f b10 h
   obtain ⟨⟨v36, v37⟩, q34, h⟩ := bnd_some h
   replace h := sel2_some h
   have w35 := e51_5 a0 (eqI a0.kind 4) p5 r3 (v36, v37) q34
   simp only [X51_5] at w35
   try simp -implicitDefEqProofs only [go_sem] at w35
   cases h
   simp -implicitDefEqProofs only [go_sem, X51_3, k51_3, b10, w35]
 · replace h := br_t b10 h
   obtain ⟨⟨r13, r14⟩, q11, h⟩ := bnd_some h
   replace h := sel2_some h
   have w12 := e93 r3.attrs.comms a0.n (r13, r14) q11
   try simp -implicitDefEqProofs only [go_sem] at w12
   obtain ⟨v21, q19, h⟩ := bnd_some h
   have w20 := e51_4 r13 (!r14) a0 p5 r3 v21 q19
   simp only [X51_4] at w20
   try simp -implicitDefEqProofs only [go_sem] at w20
   cases h
   simp -implicitDefEqProofs only [go_sem, X51_3, k51_3, b10, w12, w20]
noncomputable def X51_2 (a0 : Acn) (p7 : Bool) (p5 : Prefix) (r3 : Route) (o : (Int × List Int × List Int)) : Ex × Fr × St :=
 (.normal, frOf 71 (upd (upd anyF 4 (.ptr 0 0 0)) 6 (.ptr 3 0 0)), [some ⟨.box, 8, [[.int .i64 p5.addr, .int .i64 p5.len, .int .i64 0, .sl 1 0 0, .int .i64 0, .int .i64 0, .int .i64 0, .sl 2 0 0]]⟩, some ⟨.arr, 1, []⟩, some ⟨.arr, 1, []⟩, some ⟨.box, 8, [[.int .i64 r3.prefix_.addr, .int .i64 r3.prefix_.len, .int .i64 r3.attrs.origin, .sl 4 0 o.2.1.length, .int .i64 r3.attrs.next, .int .i64 o.1, .int .i64 r3.attrs.pref, .sl 5 0 o.2.2.length]]⟩, some ⟨.arr, 1, o.2.1.map encInt⟩, some ⟨.arr, 1, o.2.2.map encInt⟩])
theorem e51_2 (a0 : Acn) (p7 : Bool) (p5 : Prefix) (r3 : Route) (o : (Int × List Int × List Int)) (h : m51_2 a0 p7 r3 = some o) : evCL T 0 k51_2 (frOf 71 (upd (upd (upd (upd (upd anyF 2 (.ptr 0 0 0)) 4 (.ptr 1 0 0)) 6 (.ptr 4 0 0)) 12 (.int .i64 a0.kind)) 19 (.bool p7))) [some ⟨.box, 2, [[.int .i64 a0.kind, .int .i64 a0.n]]⟩, some ⟨.box, 8, [[.int .i64 p5.addr, .int .i64 p5.len, .int .i64 0, .sl 2 0 0, .int .i64 0, .int .i64 0, .int .i64 0, .sl 3 0 0]]⟩, some ⟨.arr, 1, []⟩, some ⟨.arr, 1, []⟩, some ⟨.box, 8, [[.int .i64 r3.prefix_.addr, .int .i64 r3.prefix_.len, .int .i64 r3.attrs.origin, .sl 5 0 r3.attrs.path.length, .int .i64 r3.attrs.next, .int .i64 r3.attrs.med, .int .i64 r3.attrs.pref, .sl 6 0 r3.attrs.comms.length]]⟩, some ⟨.arr, 1, r3.attrs.path.map encInt⟩, some ⟨.arr, 1, r3.attrs.comms.map encInt⟩] = some (X51_2 a0 p7 p5 r3 o) := by
 unfold m51_2 at h
 try simp -implicitDefEqProofs only [go_sem, X51_2, k51_2]
 cases b8 : (p7 : Bool)
 · replace h := br_f b8 h
   obtain ⟨⟨v40, v41⟩, q38, h⟩ := bnd_some h
   replace h := sel2_some h
   have w39 := e51_3 a0 (eqI a0.kind 3) p5 r3 (v40, v41) q38
   simp only [X51_3] at w39
   try simp -implicitDefEqProofs only [go_sem] at w39
   cases h
   simp -implicitDefEqProofs only [go_sem, X51_2, k51_2, b8, w39]
 · replace h := br_t b8 h
   cases h
   simp -implicitDefEqProofs only [go_sem, X51_2, k51_2, b8]
noncomputable def X51_1 (a0 : Acn) (p4 : Bool) (p5 : Prefix) (r3 : Route) (o : (Int × Int × List Int × List Int)) : Ex × Fr × St :=
 (.normal, frOf 71 (upd (upd anyF 4 (.ptr 0 0 0)) 6 (.ptr 3 0 0)), [some ⟨.box, 8, [[.int .i64 p5.addr, .int .i64 p5.len, .int .i64 0, .sl 1 0 0, .int .i64 0, .int .i64 0, .int .i64 0, .sl 2 0 0]]⟩, some ⟨.arr, 1, []⟩, some ⟨.arr, 1, []⟩, some ⟨.box, 8, [[.int .i64 r3.prefix_.addr, .int .i64 r3.prefix_.len, .int .i64 r3.attrs.origin, .sl 4 0 o.2.2.1.length, .int .i64 r3.attrs.next, .int .i64 o.1, .int .i64 o.2.1, .sl 5 0 o.2.2.2.length]]⟩, some ⟨.arr, 1, o.2.2.1.map encInt⟩, some ⟨.arr, 1, o.2.2.2.map encInt⟩])
theorem e51_1 (a0 : Acn) (p4 : Bool) (p5 : Prefix) (r3 : Route) (o : (Int × Int × List Int × List Int)) (h : m51_1 a0 p4 r3 = some o) : evCL T 0 k51_1 (frOf 71 (upd (upd (upd (upd (upd anyF 2 (.ptr 0 0 0)) 4 (.ptr 1 0 0)) 6 (.ptr 4 0 0)) 12 (.int .i64 a0.kind)) 13 (.bool p4))) [some ⟨.box, 2, [[.int .i64 a0.kind, .int .i64 a0.n]]⟩, some ⟨.box, 8, [[.int .i64 p5.addr, .int .i64 p5.len, .int .i64 0, .sl 2 0 0, .int .i64 0, .int .i64 0, .int .i64 0, .sl 3 0 0]]⟩, some ⟨.arr, 1, []⟩, some ⟨.arr, 1, []⟩, some ⟨.box, 8, [[.int .i64 r3.prefix_.addr, .int .i64 r3.prefix_.len, .int .i64 r3.attrs.origin, .sl 5 0 r3.attrs.path.length, .int .i64 r3.attrs.next, .int .i64 r3.attrs.med, .int .i64 r3.attrs.pref, .sl 6 0 r3.attrs.comms.length]]⟩, some ⟨.arr, 1, r3.attrs.path.map encInt⟩, some ⟨.arr, 1, r3.attrs.comms.map encInt⟩] = some (X51_1 a0 p4 p5 r3 o) := by
 unfold m51_1 at h
 try simp -implicitDefEqProofs only [go_sem, X51_1, k51_1]
 cases b6 : (p4 : Bool)
 · replace h := br_f b6 h
   obtain ⟨⟨v44, v45, v46⟩, q42, h⟩ := bnd_some h
   replace h := sel3_some h
   have w43 := e51_2 a0 (eqI a0.kind 2) p5 r3 (v44, v45, v46) q42
   simp only [X51_2] at w43
   try simp -implicitDefEqProofs only [go_sem] at w43
   cases h
   simp -implicitDefEqProofs only [go_sem, X51_1, k51_1, b6, w43]
 · replace h := br_t b6 h
   cases h
   simp -implicitDefEqProofs only [go_sem, X51_1, k51_1, b6]
theorem e51 (a0 : Acn) (a1 : Route) (r : (Route × Bool)) (h : m51 a0 a1 = some r) : evFL T 51 [.agg [.int .i64 a0.kind, .int .i64 a0.n], .agg [.int .i64 a1.prefix_.addr, .int .i64 a1.prefix_.len, .int .i64 a1.attrs.origin, .ts .imm 1 (a1.attrs.path.map encInt), .int .i64 a1.attrs.next, .int .i64 a1.attrs.med, .int .i64 a1.attrs.pref, .ts .imm 1 (a1.attrs.comms.map encInt)]] [] = some (.tup [.agg [.int .i64 r.1.prefix_.addr, .int .i64 r.1.prefix_.len, .int .i64 r.1.attrs.origin, .sl 0 0 r.1.attrs.path.length, .int .i64 r.1.attrs.next, .int .i64 r.1.attrs.med, .int .i64 r.1.attrs.pref, .sl 1 0 r.1.attrs.comms.length], .bool r.2], [some ⟨.arr, 1, r.1.attrs.path.map encInt⟩, some ⟨.arr, 1, r.1.attrs.comms.map encInt⟩]) := by
 unfold m51 at h
 rw [evFL_at fn51 (Nat.le_of_ble_eq_true rfl) rfl (.inr rfl) ⟨rfl, rfl⟩]
 obtain ⟨r3, q1, h⟩ := bnd_some h
 have w2 := e92 a1 r3 q1
 try simp -implicitDefEqProofs only [go_sem] at w2
 obtain ⟨⟨v49, v50, v51, v52⟩, q47, h⟩ := bnd_some h
 replace h := sel4_some h
 have w48 := e51_1 a0 (eqI a0.kind 1) (⟨0, 0⟩ : Prefix) r3 (v49, v50, v51, v52) q47
 simp only [X51_1] at w48
 try simp -implicitDefEqProofs only [go_sem] at w48
 obtain ⟨r55, q53, h⟩ := bnd_some h
 have w54 := e11 (⟨r3.prefix_, (⟨r3.attrs.origin, v51, r3.attrs.next, v49, v50, v52⟩ : Attrs)⟩ : Route) r55 q53
 try simp -implicitDefEqProofs only [go_sem] at w54
 cases h
 simp -implicitDefEqProofs only [go_sem, i51, c51, w2, w48, w54]
theorem call20 (args : List AV) (S : St) : evCall T (evFL T) 20 args S = lendC (evFL T 20) S (lendAll S [[0, 0], [0, 0, 0, 1, 0, 0, 0, 1]] args) := evCall0 fn20 rfl rfl rfl args S
theorem callz20 (args : List AV) (S : St) : evCallFz T (evFL T) 20 args S = lendZ (evFL T 20) S [[0, 0, 0, 1, 0, 0, 0, 1], [0]] (lendAll S [[0, 0], [0, 0, 0, 1, 0, 0, 0, 1]] args) := evCallFz0 fn20 rfl rfl rfl args S
attribute [go_sem] call20 callz20
noncomputable def X20_1 (a0 : Acn) (a1 : Route) (p1 : Prefix) (o : Bool) : Ex × Fr × St :=
 (.normal, frOf 27 (upd (upd (upd (upd anyF 2 (.ptr 0 0 0)) 3 (.ptr 1 0 0)) 4 (.ptr 2 0 0)) 15 (.bool o)), [some ⟨.box, 2, [[.int .i64 a0.kind, .int .i64 a0.n]]⟩, some ⟨.box, 8, [[.int .i64 a1.prefix_.addr, .int .i64 a1.prefix_.len, .int .i64 a1.attrs.origin, .ts .imm 1 (a1.attrs.path.map encInt), .int .i64 a1.attrs.next, .int .i64 a1.attrs.med, .int .i64 a1.attrs.pref, .ts .imm 1 (a1.attrs.comms.map encInt)]]⟩, some ⟨.box, 8, [[.int .i64 p1.addr, .int .i64 p1.len, .int .i64 0, .sl 3 0 0, .int .i64 0, .int .i64 0, .int .i64 0, .sl 4 0 0]]⟩, some ⟨.arr, 1, []⟩, some ⟨.arr, 1, []⟩])
theorem e20_1 (a0 : Acn) (a1 : Route) (p1 : Prefix) (o : Bool) (h : m20_1 a0 a1 = some o) : evCL T 0 k20_1 (frOf 27 (upd (upd (upd anyF 2 (.ptr 0 0 0)) 3 (.ptr 1 0 0)) 4 (.ptr 2 0 0))) [some ⟨.box, 2, [[.int .i64 a0.kind, .int .i64 a0.n]]⟩, some ⟨.box, 8, [[.int .i64 a1.prefix_.addr, .int .i64 a1.prefix_.len, .int .i64 a1.attrs.origin, .ts .imm 1 (a1.attrs.path.map encInt), .int .i64 a1.attrs.next, .int .i64 a1.attrs.med, .int .i64 a1.attrs.pref, .ts .imm 1 (a1.attrs.comms.map encInt)]]⟩, some ⟨.box, 8, [[.int .i64 p1.addr, .int .i64 p1.len, .int .i64 0, .sl 3 0 0, .int .i64 0, .int .i64 0, .int .i64 0, .sl 4 0 0]]⟩, some ⟨.arr, 1, []⟩, some ⟨.arr, 1, []⟩] = some (X20_1 a0 a1 p1 o) := by
 unfold m20_1 at h
 obtain ⟨r4, q2, h⟩ := bnd_some h
 have w3 := e50 a0 r4 q2
 try simp -implicitDefEqProofs only [go_sem] at w3
 try simp -implicitDefEqProofs only [go_sem, X20_1, k20_1, w3]
 cases b5 : (r4 : Bool)
 · replace h := br_f b5 h
   cases h
   simp -implicitDefEqProofs only [go_sem, X20_1, k20_1, w3, b5]
 · replace h := br_t b5 h
   obtain ⟨r8, q6, h⟩ := bnd_some h
   have w7 := e11 a1 r8 q6
   try simp -implicitDefEqProofs only [go_sem] at w7
   cases h
   simp -implicitDefEqProofs only [go_sem, X20_1, k20_1, w3, b5, w7]
theorem e20 (a0 : Acn) (a1 : Route) (r : (Route × Bool)) (h : m20 a0 a1 = some r) : evFL T 20 [.agg [.int .i64 a0.kind, .int .i64 a0.n], .agg [.int .i64 a1.prefix_.addr, .int .i64 a1.prefix_.len, .int .i64 a1.attrs.origin, .ts .imm 1 (a1.attrs.path.map encInt), .int .i64 a1.attrs.next, .int .i64 a1.attrs.med, .int .i64 a1.attrs.pref, .ts .imm 1 (a1.attrs.comms.map encInt)]] [] = some (.tup [.agg [.int .i64 r.1.prefix_.addr, .int .i64 r.1.prefix_.len, .int .i64 r.1.attrs.origin, .sl 0 0 r.1.attrs.path.length, .int .i64 r.1.attrs.next, .int .i64 r.1.attrs.med, .int .i64 r.1.attrs.pref, .sl 1 0 r.1.attrs.comms.length], .bool r.2], [some ⟨.arr, 1, r.1.attrs.path.map encInt⟩, some ⟨.arr, 1, r.1.attrs.comms.map encInt⟩]) := by
 unfold m20 at h
 rw [evFL_at fn20 (Nat.le_of_ble_eq_true rfl) rfl (.inr rfl) ⟨rfl, rfl⟩]
 obtain ⟨v11, q9, h⟩ := bnd_some h
 have w10 := e20_1 a0 a1 (⟨0, 0⟩ : Prefix) v11 q9
 simp only [X20_1] at w10
 try simp -implicitDefEqProofs only [go_sem] at w10
 try simp -implicitDefEqProofs only [go_sem, i20, c20, w10]
 cases b12 : (v11 : Bool)
 · replace h := br_f b12 h
   obtain ⟨⟨r15, r16⟩, q13, h⟩ := bnd_some h
   replace h := sel2_some h
   have w14 := e51 a0 a1 (r15, r16) q13
   try simp -implicitDefEqProofs only [go_sem] at w14
   try simp -implicitDefEqProofs only [go_sem, i20, c20, w10, b12, w14]
   cases b17 : (r16 : Bool)
   · replace h := br_f b17 h
     cases h
     simp -implicitDefEqProofs only [go_sem, i20, c20, w10, b12, w14, b17]
   · replace h := br_t b17 h
     cases h
     simp -implicitDefEqProofs only [go_sem, i20, c20, w10, b12, w14, b17]
 · replace h := br_t b12 h
   cases h
   simp -implicitDefEqProofs only [go_sem, i20, c20, w10, b12]
theorem call39 (args : List AV) (S : St) : evCall T (evFL T) 39 args S = lendC (evFL T 39) S (lendAll S [[0, 0], [0, 0]] args) := evCall0 fn39 rfl rfl rfl args S
theorem callz39 (args : List AV) (S : St) : evCallFz T (evFL T) 39 args S = lendZ (evFL T 39) S [[0]] (lendAll S [[0, 0], [0, 0]] args) := evCallFz0 fn39 rfl rfl rfl args S
attribute [go_sem] call39 callz39
theorem e39 (a0 : Prefix) (a1 : Prefix) (r : Bool) (h : m39 a0 a1 = some r) : evFL T 39 [.agg [.int .i64 a0.addr, .int .i64 a0.len], .agg [.int .i64 a1.addr, .int .i64 a1.len]] [] = some (.bool r, []) := by
 unfold m39 at h
 rw [evFL_at fn39 (Nat.le_of_ble_eq_true rfl) rfl (.inr rfl) ⟨rfl, rfl⟩]
 try simp -implicitDefEqProofs only [go_sem, i39, c39]
 cases b1 : (eqI a0.addr a1.addr : Bool)
 · replace h := br_f b1 h
   cases h
   simp -implicitDefEqProofs only [go_sem, i39, c39, b1]
 · replace h := br_t b1 h
   try simp -implicitDefEqProofs only [go_sem, i39, c39, b1]
   cases b2 : (eqI a0.len a1.len : Bool)
   · replace h := br_f b2 h
     cases h
     simp -implicitDefEqProofs only [go_sem, i39, c39, b1, b2]
   · replace h := br_t b2 h
     cases h
     simp -implicitDefEqProofs only [go_sem, i39, c39, b1, b2]
theorem call81 (args : List AV) (S : St) : evCall T (evFL T) 81 args S = lendC (evFL T 81) S (lendAll S [[1], [1]] args) := evCall0 fn81 rfl rfl rfl args S
theorem callz81 (args : List AV) (S : St) : evCallFz T (evFL T) 81 args S = lendZ (evFL T 81) S [[0]] (lendAll S [[1], [1]] args) := evCallFz0 fn81 rfl rfl rfl args S
attribute [go_sem] call81 callz81
noncomputable def X81_1 (a0 : (List Int)) (a1 : (List Int)) (o : (Unit ⊕ Unit)) : Ex × Fr × St :=
 match o with
 | .inl o => (.exit 0, frOf 26 (anyF), [])
 | .inr o => (.ret, frOf 26 (upd anyF 4 (.bool false)), [])
noncomputable def E81_1 (a0 : (List Int)) (a1 : (List Int)) (s : Int) : Fr × St := (frOf 26 (upd (upd (upd anyF 0 (.ts .imm 1 (a0.map encInt))) 1 (.ts .imm 1 (a1.map encInt))) 5 (.int .i64 s)), [])
theorem b81_1 (a0 : (List Int)) (a1 : (List Int)) (s : Int) (o : Ctl Int (Unit ⊕ Unit)) (h : m81_1b a0 a1 s = some o) : evCL T 0 k81_1b (E81_1 a0 a1 s).1 (E81_1 a0 a1 s).2 = some (ctlX (E81_1 a0 a1) (X81_1 a0 a1) o) := by
 unfold m81_1b at h
 revert h
 generalize s = s14
 intro h
 try simp -implicitDefEqProofs only [go_sem, E81_1, X81_1, k81_1b]
 cases b15 : (ltI s14 (↑a0.length : Int) : Bool)
 · replace h := br_f b15 h
   cases h
   simp -implicitDefEqProofs only [go_sem, E81_1, X81_1, k81_1b, b15]
 · replace h := br_t b15 h
   obtain ⟨x16, q17, h⟩ := bnd_some h
   obtain ⟨g18, g19, g20⟩ := idx_row encInt q17
   try simp -implicitDefEqProofs only [go_sem] at g19
   try simp -implicitDefEqProofs only [go_sem] at g20
   obtain ⟨x21, q22, h⟩ := bnd_some h
   obtain ⟨g23, g24, g25⟩ := idx_row encInt q22
   try simp -implicitDefEqProofs only [go_sem] at g24
   try simp -implicitDefEqProofs only [go_sem] at g25
   try simp -implicitDefEqProofs only [go_sem, E81_1, X81_1, k81_1b, b15, g18, g19, g20, g23, g24, g25]
   cases b26 : (eqI x16 x21 : Bool)
   · replace h := br_f b26 h
     cases h
     simp -implicitDefEqProofs only [go_sem, E81_1, X81_1, k81_1b, b15, g18, g19, g20, g23, g24, g25, b26]
   · replace h := br_t b26 h
     cases h
     simp -implicitDefEqProofs only [go_sem, E81_1, X81_1, k81_1b, b15, g18, g19, g20, g23, g24, g25, b26]
theorem e81_1 (a0 : (List Int)) (a1 : (List Int)) (s : Int) (o : (Unit ⊕ Unit)) (h : loopP (m81_1b a0 a1) s = some o) : evCL T 0 (.loop k81_1b) (E81_1 a0 a1 s).1 (E81_1 a0 a1 s).2 = some (X81_1 a0 a1 o) :=
 loop_walk (E := E81_1 a0 a1) (X := X81_1 a0 a1) (by intro b; rcases b with b | b <;> (simp only [X81_1]; nofun)) (b81_1 a0 a1) s o h
theorem e81 (a0 : (List Int)) (a1 : (List Int)) (r : Bool) (h : m81 a0 a1 = some r) : evFL T 81 [.ts .imm 1 (a0.map encInt), .ts .imm 1 (a1.map encInt)] [] = some (.bool r, []) := by
 unfold m81 at h
 rw [evFL_at fn81 (Nat.le_of_ble_eq_true rfl) rfl (.inr rfl) ⟨rfl, rfl⟩]
 try simp -implicitDefEqProofs only [go_sem, i81, c81]
 cases b1 : (eqI (↑a0.length : Int) (↑a1.length : Int) : Bool)
 · replace h := br_f b1 h
   cases h
   simp -implicitDefEqProofs only [go_sem, i81, c81, b1]
 · replace h := br_t b1 h
   try simp -implicitDefEqProofs only [go_sem, i81, c81, b1]
   obtain ⟨o, q27, h⟩ := bnd_some h
   rcases o with ⟨⟩ | ⟨⟩
   · replace h := selS_l h
     have w28 := e81_1 a0 a1 0 (.inl ()) q27
     simp only [E81_1, X81_1] at w28
     try simp -implicitDefEqProofs only [go_sem] at w28
     cases h
     simp -implicitDefEqProofs only [go_sem, i81, c81, b1, w28]
   · replace h := selS_r h
     have w28 := e81_1 a0 a1 0 (.inr ()) q27
     simp only [E81_1, X81_1] at w28
     try simp -implicitDefEqProofs only [go_sem] at w28
     cases h
     simp -implicitDefEqProofs only [go_sem, i81, c81, b1, w28]
theorem call40 (args : List AV) (S : St) : evCall T (evFL T) 40 args S = lendC (evFL T 40) S (lendAll S [[0, 1, 0, 0, 0, 1], [0, 1, 0, 0, 0, 1]] args) := evCall0 fn40 rfl rfl rfl args S
theorem callz40 (args : List AV) (S : St) : evCallFz T (evFL T) 40 args S = lendZ (evFL T 40) S [[0]] (lendAll S [[0, 1, 0, 0, 0, 1], [0, 1, 0, 0, 0, 1]] args) := evCallFz0 fn40 rfl rfl rfl args S
attribute [go_sem] call40 callz40
theorem e40 (a0 : Attrs) (a1 : Attrs) (r : Bool) (h : m40 a0 a1 = some r) : evFL T 40 [.agg [.int .i64 a0.origin, .ts .imm 1 (a0.path.map encInt), .int .i64 a0.next, .int .i64 a0.med, .int .i64 a0.pref, .ts .imm 1 (a0.comms.map encInt)], .agg [.int .i64 a1.origin, .ts .imm 1 (a1.path.map encInt), .int .i64 a1.next, .int .i64 a1.med, .int .i64 a1.pref, .ts .imm 1 (a1.comms.map encInt)]] [] = some (.bool r, []) := by
 unfold m40 at h
 rw [evFL_at fn40 (Nat.le_of_ble_eq_true rfl) rfl (.inr rfl) ⟨rfl, rfl⟩]
 try simp -implicitDefEqProofs only [go_sem, i40, c40]
 cases b1 : (eqI a0.origin a1.origin : Bool)
 · replace h := br_f b1 h
   cases h
   simp -implicitDefEqProofs only [go_sem, i40, c40, b1]
 · replace h := br_t b1 h
   obtain ⟨r4, q2, h⟩ := bnd_some h
   have w3 := e81 a0.path a1.path r4 q2
   try simp -implicitDefEqProofs only [go_sem] at w3
   try simp -implicitDefEqProofs only [go_sem, i40, c40, b1, w3]
   cases b5 : (r4 : Bool)
   · replace h := br_f b5 h
     cases h
     simp -implicitDefEqProofs only [go_sem, i40, c40, b1, w3, b5]
   · replace h := br_t b5 h
     try simp -implicitDefEqProofs only [go_sem, i40, c40, b1, w3, b5]
     cases b6 : (eqI a0.next a1.next : Bool)
     · replace h := br_f b6 h
       cases h
       simp -implicitDefEqProofs only [go_sem, i40, c40, b1, w3, b5, b6]
     · replace h := br_t b6 h
       try simp -implicitDefEqProofs only [go_sem, i40, c40, b1, w3, b5, b6]
       cases b7 : (eqI a0.med a1.med : Bool)
       · replace h := br_f b7 h
         cases h
         simp -implicitDefEqProofs only [go_sem, i40, c40, b1, w3, b5, b6, b7]
       · replace h := br_t b7 h
         try simp -implicitDefEqProofs only [go_sem, i40, c40, b1, w3, b5, b6, b7]
         cases b8 : (eqI a0.pref a1.pref : Bool)
         · replace h := br_f b8 h
           cases h
           simp -implicitDefEqProofs only [go_sem, i40, c40, b1, w3, b5, b6, b7, b8]
         · replace h := br_t b8 h
           obtain ⟨r11, q9, h⟩ := bnd_some h
           have w10 := e81 a0.comms a1.comms r11 q9
           try simp -implicitDefEqProofs only [go_sem] at w10
           try simp -implicitDefEqProofs only [go_sem, i40, c40, b1, w3, b5, b6, b7, b8, w10]
           cases b12 : (r11 : Bool)
           · replace h := br_f b12 h
             cases h
             simp -implicitDefEqProofs only [go_sem, i40, c40, b1, w3, b5, b6, b7, b8, w10, b12]
           · replace h := br_t b12 h
             cases h
             simp -implicitDefEqProofs only [go_sem, i40, c40, b1, w3, b5, b6, b7, b8, w10, b12]
theorem call12 (args : List AV) (S : St) : evCall T (evFL T) 12 args S = lendC (evFL T 12) S (lendAll S [[0, 0, 0, 1, 0, 0, 0, 1], [0, 0, 0, 1, 0, 0, 0, 1]] args) := evCall0 fn12 rfl rfl rfl args S
theorem callz12 (args : List AV) (S : St) : evCallFz T (evFL T) 12 args S = lendZ (evFL T 12) S [[0]] (lendAll S [[0, 0, 0, 1, 0, 0, 0, 1], [0, 0, 0, 1, 0, 0, 0, 1]] args) := evCallFz0 fn12 rfl rfl rfl args S
attribute [go_sem] call12 callz12
theorem e12 (a0 : Route) (a1 : Route) (r : Bool) (h : m12 a0 a1 = some r) : evFL T 12 [.agg [.int .i64 a0.prefix_.addr, .int .i64 a0.prefix_.len, .int .i64 a0.attrs.origin, .ts .imm 1 (a0.attrs.path.map encInt), .int .i64 a0.attrs.next, .int .i64 a0.attrs.med, .int .i64 a0.attrs.pref, .ts .imm 1 (a0.attrs.comms.map encInt)], .agg [.int .i64 a1.prefix_.addr, .int .i64 a1.prefix_.len, .int .i64 a1.attrs.origin, .ts .imm 1 (a1.attrs.path.map encInt), .int .i64 a1.attrs.next, .int .i64 a1.attrs.med, .int .i64 a1.attrs.pref, .ts .imm 1 (a1.attrs.comms.map encInt)]] [] = some (.bool r, []) := by
 unfold m12 at h
 rw [evFL_at fn12 (Nat.le_of_ble_eq_true rfl) rfl (.inr rfl) ⟨rfl, rfl⟩]
 obtain ⟨r3, q1, h⟩ := bnd_some h
 have w2 := e39 a0.prefix_ a1.prefix_ r3 q1
 try simp -implicitDefEqProofs only [go_sem] at w2
 try simp -implicitDefEqProofs only [go_sem, i12, c12, w2]
 cases b4 : (r3 : Bool)
 · replace h := br_f b4 h
   cases h
   simp -implicitDefEqProofs only [go_sem, i12, c12, w2, b4]
 · replace h := br_t b4 h
   obtain ⟨r7, q5, h⟩ := bnd_some h
   have w6 := e40 a0.attrs a1.attrs r7 q5
   try simp -implicitDefEqProofs only [go_sem] at w6
   try simp -implicitDefEqProofs only [go_sem, i12, c12, w2, b4, w6]
   cases b8 : (r7 : Bool)
   · replace h := br_f b8 h
     cases h
     simp -implicitDefEqProofs only [go_sem, i12, c12, w2, b4, w6, b8]
   · replace h := br_t b8 h
     cases h
     simp -implicitDefEqProofs only [go_sem, i12, c12, w2, b4, w6, b8]
theorem call97 (args : List AV) (S : St) : evCall T (evFL T) 97 args S = c3A true true (evFL T 97) (rawAll S [[1], [0]] args) := evCall3_g fn97 rfl (fun h => absurd h.1 (by decide)) args S
attribute [go_sem] call97
noncomputable def X97_1 (o : (Int × List Int)) : Ex × Fr × St :=
 (.exit 0, frOf 19 (upd anyF 1 (.int .i64 o.1)), [some ⟨.arr, 1, o.2.map encInt⟩])
noncomputable def E97_1 (s : (Int × Int × List Int)) : Fr × St := (frOf 19 (upd (upd (upd anyF 0 (.sl 0 0 s.2.2.length)) 1 (.int .i64 s.1)) 5 (.int .i64 s.2.1)), [some ⟨.arr, 1, s.2.2.map encInt⟩])
theorem b97_1 (s : (Int × Int × List Int)) (o : Ctl (Int × Int × List Int) (Int × List Int)) (h : m97_1b s = some o) : evCL T 1 k97_1b (E97_1 s).1 (E97_1 s).2 = some (ctlX (E97_1) (X97_1) o) := by
 unfold m97_1b at h
 obtain ⟨s7, s8, s9⟩ := s
 replace h := sel3_some h
 try simp -implicitDefEqProofs only [go_sem, E97_1, X97_1, k97_1b]
 cases b10 : (ltI s8 (↑s9.length : Int) : Bool)
 · replace h := br_f b10 h
   cases h
   simp -implicitDefEqProofs only [go_sem, E97_1, X97_1, k97_1b, b10]
 · replace h := br_t b10 h
   obtain ⟨x11, q12, h⟩ := bnd_some h
   obtain ⟨g13, g14, g15⟩ := idx_row encInt q12
   try simp -implicitDefEqProofs only [go_sem] at g14
   try simp -implicitDefEqProofs only [go_sem] at g15
   cases h
   simp -implicitDefEqProofs only [go_sem, E97_1, X97_1, k97_1b, b10, g13, g14, g15]
theorem e97_1 (s : (Int × Int × List Int)) (o : (Int × List Int)) (h : loopP (m97_1b) s = some o) : evCL T 1 (.loop k97_1b) (E97_1 s).1 (E97_1 s).2 = some (X97_1 o) :=
 loop_walk (E := E97_1) (X := X97_1) (by intro b; (simp only [X97_1]; nofun)) (b97_1) s o h
theorem e97 (a0 : (List Int)) (a1 : Int) (r : (Int × List Int)) (h : m97 a0 a1 = some r) : evFL T 97 [.sl 0 0 a0.length, .int .i64 a1] [some ⟨.arr, 1, a0.map encInt⟩] = some (.int .i64 r.1, [some ⟨.arr, 1, r.2.map encInt⟩]) := by
 unfold m97 at h
 rw [evFL_at fn97 (Nat.le_of_ble_eq_true rfl) rfl (.inl rfl) ⟨rfl, rfl⟩]
 obtain ⟨⟨v18, v19⟩, q16, h⟩ := bnd_some h
 replace h := sel2_some h
 have w17 := e97_1 (a1, 0, a0) (v18, v19) q16
 simp only [E97_1, X97_1] at w17
 try simp -implicitDefEqProofs only [go_sem] at w17
 cases h
 simp -implicitDefEqProofs only [go_sem, i97, c97, w17]
theorem call52 (args : List AV) (S : St) : evCall T (evFL T) 52 args S = c3A true true (evFL T 52) (rawAll S [[0, 1, 0, 0, 0, 1], [0]] args) := evCall3_g fn52 rfl (fun h => absurd h.1 (by decide)) args S
attribute [go_sem] call52
theorem e52 (a0 : Attrs) (a1 : Int) (r : (Int × List Int × List Int)) (h : m52 a0 a1 = some r) : evFL T 52 [.agg [.int .i64 a0.origin, .sl 0 0 a0.path.length, .int .i64 a0.next, .int .i64 a0.med, .int .i64 a0.pref, .sl 1 0 a0.comms.length], .int .i64 a1] [some ⟨.arr, 1, a0.path.map encInt⟩, some ⟨.arr, 1, a0.comms.map encInt⟩] = some (.int .i64 r.1, [some ⟨.arr, 1, r.2.1.map encInt⟩, some ⟨.arr, 1, r.2.2.map encInt⟩]) := by
 unfold m52 at h
 rw [evFL_at fn52 (Nat.le_of_ble_eq_true rfl) rfl (.inl rfl) ⟨rfl, rfl⟩]
 obtain ⟨⟨r3, r4⟩, q1, h⟩ := bnd_some h
 replace h := sel2_some h
 have w2 := e97 a0.path a1 (r3, r4) q1
 try simp -implicitDefEqProofs only [go_sem] at w2
 obtain ⟨g5, h⟩ := ck_some h
 try simp -implicitDefEqProofs only [go_sem] at g5
 obtain ⟨⟨r8, r9⟩, q6, h⟩ := bnd_some h
 replace h := sel2_some h
 have w7 := e97 a0.comms r3 (r8, r9) q6
 try simp -implicitDefEqProofs only [go_sem, g5] at w7
 obtain ⟨g10, h⟩ := ck_some h
 try simp -implicitDefEqProofs only [go_sem] at g10
 cases h
 simp -implicitDefEqProofs only [go_sem, i52, c52, w2, g5, take_of_len_map g5, w7, g10, take_of_len_map g10]
theorem call21 (args : List AV) (S : St) : evCall T (evFL T) 21 args S = c3A true true (evFL T 21) (rawAll S [[0, 0, 0, 1, 0, 0, 0, 1], [0]] args) := evCall3_g fn21 rfl (fun h => absurd h.1 (by decide)) args S
attribute [go_sem] call21
theorem e21 (a0 : Route) (a1 : Int) (r : (Int × List Int × List Int)) (h : m21 a0 a1 = some r) : evFL T 21 [.agg [.int .i64 a0.prefix_.addr, .int .i64 a0.prefix_.len, .int .i64 a0.attrs.origin, .sl 0 0 a0.attrs.path.length, .int .i64 a0.attrs.next, .int .i64 a0.attrs.med, .int .i64 a0.attrs.pref, .sl 1 0 a0.attrs.comms.length], .int .i64 a1] [some ⟨.arr, 1, a0.attrs.path.map encInt⟩, some ⟨.arr, 1, a0.attrs.comms.map encInt⟩] = some (.int .i64 r.1, [some ⟨.arr, 1, r.2.1.map encInt⟩, some ⟨.arr, 1, r.2.2.map encInt⟩]) := by
 unfold m21 at h
 rw [evFL_at fn21 (Nat.le_of_ble_eq_true rfl) rfl (.inl rfl) ⟨rfl, rfl⟩]
 obtain ⟨⟨r3, r4, r5⟩, q1, h⟩ := bnd_some h
 replace h := sel3_some h
 have w2 := e52 a0.attrs a1 (r3, r4, r5) q1
 try simp -implicitDefEqProofs only [go_sem] at w2
 obtain ⟨g6, h⟩ := ck_some h
 try simp -implicitDefEqProofs only [go_sem] at g6
 obtain ⟨g7, h⟩ := ck_some h
 try simp -implicitDefEqProofs only [go_sem] at g7
 cases h
 simp -implicitDefEqProofs only [go_sem, i21, c21, w2, g6, take_of_len_map g6, g7, take_of_len_map g7]
theorem call98 (args : List AV) (S : St) : evCall T (evFL T) 98 args S = lendC (evFL T 98) S (lendAll S [[1], [0]] args) := evCall0 fn98 rfl rfl rfl args S
theorem callz98 (args : List AV) (S : St) : evCallFz T (evFL T) 98 args S = lendZ (evFL T 98) S [[0]] (lendAll S [[1], [0]] args) := evCallFz0 fn98 rfl rfl rfl args S
attribute [go_sem] call98 callz98
noncomputable def X98_1 (a0 : (List Int)) (o : (Int ⊕ Unit)) : Ex × Fr × St :=
 match o with
 | .inl o => (.exit 0, frOf 21 (upd anyF 1 (.int .i64 o)), [])
 | .inr o => (.ret, frOf 21 (upd anyF 4 (.int .i64 (-1))), [])
noncomputable def E98_1 (a0 : (List Int)) (s : (Int × Int)) : Fr × St := (frOf 21 (upd (upd (upd anyF 0 (.ts .imm 1 (a0.map encInt))) 1 (.int .i64 s.1)) 5 (.int .i64 s.2)), [])
theorem b98_1 (a0 : (List Int)) (s : (Int × Int)) (o : Ctl (Int × Int) (Int ⊕ Unit)) (h : m98_1b a0 s = some o) : evCL T 0 k98_1b (E98_1 a0 s).1 (E98_1 a0 s).2 = some (ctlX (E98_1 a0) (X98_1 a0) o) := by
 unfold m98_1b at h
 obtain ⟨s8, s9⟩ := s
 replace h := sel2_some h
 try simp -implicitDefEqProofs only [go_sem, E98_1, X98_1, k98_1b]
 cases b10 : (ltI s9 (↑a0.length : Int) : Bool)
 · replace h := br_f b10 h
   cases h
   simp -implicitDefEqProofs only [go_sem, E98_1, X98_1, k98_1b, b10]
 · replace h := br_t b10 h
   obtain ⟨x11, q12, h⟩ := bnd_some h
   obtain ⟨g13, g14, g15⟩ := idx_row encInt q12
   try simp -implicitDefEqProofs only [go_sem] at g14
   try simp -implicitDefEqProofs only [go_sem] at g15
   try simp -implicitDefEqProofs only [go_sem, E98_1, X98_1, k98_1b, b10, g13, g14, g15]
   cases b16 : (eqI x11 s8 : Bool)
   · replace h := br_f b16 h
     cases h
     simp -implicitDefEqProofs only [go_sem, E98_1, X98_1, k98_1b, b10, g13, g14, g15, b16]
   · replace h := br_t b16 h
     cases h
     simp -implicitDefEqProofs only [go_sem, E98_1, X98_1, k98_1b, b10, g13, g14, g15, b16]
theorem e98_1 (a0 : (List Int)) (s : (Int × Int)) (o : (Int ⊕ Unit)) (h : loopP (m98_1b a0) s = some o) : evCL T 0 (.loop k98_1b) (E98_1 a0 s).1 (E98_1 a0 s).2 = some (X98_1 a0 o) :=
 loop_walk (E := E98_1 a0) (X := X98_1 a0) (by intro b; rcases b with b | b <;> (simp only [X98_1]; nofun)) (b98_1 a0) s o h
theorem e98 (a0 : (List Int)) (a1 : Int) (r : Int) (h : m98 a0 a1 = some r) : evFL T 98 [.ts .imm 1 (a0.map encInt), .int .i64 a1] [] = some (.int .i64 r, []) := by
 unfold m98 at h
 rw [evFL_at fn98 (Nat.le_of_ble_eq_true rfl) rfl (.inr rfl) ⟨rfl, rfl⟩]
 try simp -implicitDefEqProofs only [go_sem, i98, c98]
 obtain ⟨o, q17, h⟩ := bnd_some h
 rcases o with v19 | ⟨⟩
 · replace h := selS_l h
   have w18 := e98_1 a0 (a1, 0) (.inl v19) q17
   simp only [E98_1, X98_1] at w18
   try simp -implicitDefEqProofs only [go_sem] at w18
   cases h
   simp -implicitDefEqProofs only [go_sem, i98, c98, w18]
 · replace h := selS_r h
   have w18 := e98_1 a0 (a1, 0) (.inr ()) q17
   simp only [E98_1, X98_1] at w18
   try simp -implicitDefEqProofs only [go_sem] at w18
   cases h
   simp -implicitDefEqProofs only [go_sem, i98, c98, w18]
theorem call53 (args : List AV) (S : St) : evCall T (evFL T) 53 args S = lendC (evFL T 53) S (lendAll S [[0, 1, 0, 0, 0, 1], [0]] args) := evCall0 fn53 rfl rfl rfl args S
theorem callz53 (args : List AV) (S : St) : evCallFz T (evFL T) 53 args S = lendZ (evFL T 53) S [[0]] (lendAll S [[0, 1, 0, 0, 0, 1], [0]] args) := evCallFz0 fn53 rfl rfl rfl args S
attribute [go_sem] call53 callz53
theorem e53 (a0 : Attrs) (a1 : Int) (r : Int) (h : m53 a0 a1 = some r) : evFL T 53 [.agg [.int .i64 a0.origin, .ts .imm 1 (a0.path.map encInt), .int .i64 a0.next, .int .i64 a0.med, .int .i64 a0.pref, .ts .imm 1 (a0.comms.map encInt)], .int .i64 a1] [] = some (.int .i64 r, []) := by
 unfold m53 at h
 rw [evFL_at fn53 (Nat.le_of_ble_eq_true rfl) rfl (.inr rfl) ⟨rfl, rfl⟩]
 obtain ⟨r3, q1, h⟩ := bnd_some h
 have w2 := e98 a0.path a1 r3 q1
 try simp -implicitDefEqProofs only [go_sem] at w2
 try simp -implicitDefEqProofs only [go_sem, i53, c53, w2]
 cases b4 : (ltI r3 0 : Bool)
 · replace h := br_f b4 h
   obtain ⟨r7, q5, h⟩ := bnd_some h
   have w6 := e98 a0.comms r3 r7 q5
   try simp -implicitDefEqProofs only [go_sem] at w6
   try simp -implicitDefEqProofs only [go_sem, i53, c53, w2, b4, w6]
   cases b8 : (ltI r7 0 : Bool)
   · replace h := br_f b8 h
     cases h
     simp -implicitDefEqProofs only [go_sem, i53, c53, w2, b4, w6, b8]
   · replace h := br_t b8 h
     cases h
     simp -implicitDefEqProofs only [go_sem, i53, c53, w2, b4, w6, b8]
 · replace h := br_t b4 h
   cases h
   simp -implicitDefEqProofs only [go_sem, i53, c53, w2, b4]
theorem call22 (args : List AV) (S : St) : evCall T (evFL T) 22 args S = lendC (evFL T 22) S (lendAll S [[0, 0, 0, 1, 0, 0, 0, 1], [0]] args) := evCall0 fn22 rfl rfl rfl args S
theorem callz22 (args : List AV) (S : St) : evCallFz T (evFL T) 22 args S = lendZ (evFL T 22) S [[0]] (lendAll S [[0, 0, 0, 1, 0, 0, 0, 1], [0]] args) := evCallFz0 fn22 rfl rfl rfl args S
attribute [go_sem] call22 callz22
theorem e22 (a0 : Route) (a1 : Int) (r : Int) (h : m22 a0 a1 = some r) : evFL T 22 [.agg [.int .i64 a0.prefix_.addr, .int .i64 a0.prefix_.len, .int .i64 a0.attrs.origin, .ts .imm 1 (a0.attrs.path.map encInt), .int .i64 a0.attrs.next, .int .i64 a0.attrs.med, .int .i64 a0.attrs.pref, .ts .imm 1 (a0.attrs.comms.map encInt)], .int .i64 a1] [] = some (.int .i64 r, []) := by
 unfold m22 at h
 rw [evFL_at fn22 (Nat.le_of_ble_eq_true rfl) rfl (.inr rfl) ⟨rfl, rfl⟩]
 obtain ⟨r3, q1, h⟩ := bnd_some h
 have w2 := e53 a0.attrs a1 r3 q1
 try simp -implicitDefEqProofs only [go_sem] at w2
 try simp -implicitDefEqProofs only [go_sem, i22, c22, w2]
 cases b4 : (ltI r3 0 : Bool)
 · replace h := br_f b4 h
   cases h
   simp -implicitDefEqProofs only [go_sem, i22, c22, w2, b4]
 · replace h := br_t b4 h
   cases h
   simp -implicitDefEqProofs only [go_sem, i22, c22, w2, b4]
theorem call5 (args : List AV) (S : St) : evCall T (evFL T) 5 args S = lendC (evFL T 5) S (lendAll S [[0, 0], [0, 0, 0, 1, 0, 0, 0, 1]] args) := evCall0 fn5 rfl rfl rfl args S
theorem callz5 (args : List AV) (S : St) : evCallFz T (evFL T) 5 args S = lendZ (evFL T 5) S [[0]] (lendAll S [[0, 0], [0, 0, 0, 1, 0, 0, 0, 1]] args) := evCallFz0 fn5 rfl rfl rfl args S
attribute [go_sem] call5 callz5
noncomputable def X5_1 (r14 : Bool) (r22 : Bool) (a0 : Acn) (a1 : Route) (r13 : Route) (r10 : Route) (r21 : Route) (o : Bool) : Ex × Fr × St :=
 (.normal, frOf 104 (upd (upd (upd (upd (upd (upd (upd (upd anyF 2 (.ptr 0 0 0)) 3 (.ptr 1 0 0)) 6 (.ptr 2 0 0)) 7 (.bool r14)) 8 (.ptr 5 0 0)) 9 (.ptr 8 0 0)) 10 (.bool r22)) 46 (.bool o)), [some ⟨.box, 2, [[.int .i64 a0.kind, .int .i64 a0.n]]⟩, some ⟨.box, 8, [[.int .i64 a1.prefix_.addr, .int .i64 a1.prefix_.len, .int .i64 a1.attrs.origin, .ts .imm 1 (a1.attrs.path.map encInt), .int .i64 a1.attrs.next, .int .i64 a1.attrs.med, .int .i64 a1.attrs.pref, .ts .imm 1 (a1.attrs.comms.map encInt)]]⟩, some ⟨.box, 8, [[.int .i64 r13.prefix_.addr, .int .i64 r13.prefix_.len, .int .i64 r13.attrs.origin, .sl 3 0 r13.attrs.path.length, .int .i64 r13.attrs.next, .int .i64 r13.attrs.med, .int .i64 r13.attrs.pref, .sl 4 0 r13.attrs.comms.length]]⟩, some ⟨.arr, 1, r13.attrs.path.map encInt⟩, some ⟨.arr, 1, r13.attrs.comms.map encInt⟩, some ⟨.box, 8, [[.int .i64 r10.prefix_.addr, .int .i64 r10.prefix_.len, .int .i64 r10.attrs.origin, .sl 6 0 r10.attrs.path.length, .int .i64 r10.attrs.next, .int .i64 r10.attrs.med, .int .i64 r10.attrs.pref, .sl 7 0 r10.attrs.comms.length]]⟩, some ⟨.arr, 1, r10.attrs.path.map encInt⟩, some ⟨.arr, 1, r10.attrs.comms.map encInt⟩, some ⟨.box, 8, [[.int .i64 r21.prefix_.addr, .int .i64 r21.prefix_.len, .int .i64 r21.attrs.origin, .sl 9 0 r21.attrs.path.length, .int .i64 r21.attrs.next, .int .i64 r21.attrs.med, .int .i64 r21.attrs.pref, .sl 10 0 r21.attrs.comms.length]]⟩, some ⟨.arr, 1, r21.attrs.path.map encInt⟩, some ⟨.arr, 1, r21.attrs.comms.map encInt⟩])
theorem e5_1 (r14 : Bool) (r22 : Bool) (a0 : Acn) (a1 : Route) (r13 : Route) (r10 : Route) (r21 : Route) (o : Bool) (h : m5_1 r14 r22 r13 r21 = some o) : evCL T 0 k5_1 (frOf 104 (upd (upd (upd (upd (upd (upd (upd anyF 2 (.ptr 0 0 0)) 3 (.ptr 1 0 0)) 6 (.ptr 2 0 0)) 7 (.bool r14)) 8 (.ptr 5 0 0)) 9 (.ptr 8 0 0)) 10 (.bool r22))) [some ⟨.box, 2, [[.int .i64 a0.kind, .int .i64 a0.n]]⟩, some ⟨.box, 8, [[.int .i64 a1.prefix_.addr, .int .i64 a1.prefix_.len, .int .i64 a1.attrs.origin, .ts .imm 1 (a1.attrs.path.map encInt), .int .i64 a1.attrs.next, .int .i64 a1.attrs.med, .int .i64 a1.attrs.pref, .ts .imm 1 (a1.attrs.comms.map encInt)]]⟩, some ⟨.box, 8, [[.int .i64 r13.prefix_.addr, .int .i64 r13.prefix_.len, .int .i64 r13.attrs.origin, .sl 3 0 r13.attrs.path.length, .int .i64 r13.attrs.next, .int .i64 r13.attrs.med, .int .i64 r13.attrs.pref, .sl 4 0 r13.attrs.comms.length]]⟩, some ⟨.arr, 1, r13.attrs.path.map encInt⟩, some ⟨.arr, 1, r13.attrs.comms.map encInt⟩, some ⟨.box, 8, [[.int .i64 r10.prefix_.addr, .int .i64 r10.prefix_.len, .int .i64 r10.attrs.origin, .sl 6 0 r10.attrs.path.length, .int .i64 r10.attrs.next, .int .i64 r10.attrs.med, .int .i64 r10.attrs.pref, .sl 7 0 r10.attrs.comms.length]]⟩, some ⟨.arr, 1, r10.attrs.path.map encInt⟩, some ⟨.arr, 1, r10.attrs.comms.map encInt⟩, some ⟨.box, 8, [[.int .i64 r21.prefix_.addr, .int .i64 r21.prefix_.len, .int .i64 r21.attrs.origin, .sl 9 0 r21.attrs.path.length, .int .i64 r21.attrs.next, .int .i64 r21.attrs.med, .int .i64 r21.attrs.pref, .sl 10 0 r21.attrs.comms.length]]⟩, some ⟨.arr, 1, r21.attrs.path.map encInt⟩, some ⟨.arr, 1, r21.attrs.comms.map encInt⟩] = some (X5_1 r14 r22 a0 a1 r13 r10 r21 o) := by
 unfold m5_1 at h
 obtain ⟨r25, q23, h⟩ := bnd_some h
 have w24 := e12 r21 r13 r25 q23
 try simp -implicitDefEqProofs only [go_sem] at w24
 try simp -implicitDefEqProofs only [go_sem, X5_1, k5_1, w24]
 cases b26 : (r25 : Bool)
 · replace h := br_f b26 h
   cases h
   simp -implicitDefEqProofs only [go_sem, X5_1, k5_1, w24, b26]
 · replace h := br_t b26 h
   cases h
   simp -implicitDefEqProofs only [go_sem, X5_1, k5_1, w24, b26]
noncomputable def X5_2 (r14 : Bool) (r22 : Bool) (r39 : Int) (a0 : Acn) (a1 : Route) (r13 : Route) (r21 : Route) (o : Bool) : Ex × Fr × St :=
 (.normal, frOf 104 (upd (upd (upd (upd (upd (upd anyF 2 (.ptr 0 0 0)) 3 (.ptr 1 0 0)) 6 (.ptr 2 0 0)) 7 (.bool r14)) 9 (.ptr 5 0 0)) 67 (.bool o)), [some ⟨.box, 2, [[.int .i64 a0.kind, .int .i64 a0.n]]⟩, some ⟨.box, 8, [[.int .i64 a1.prefix_.addr, .int .i64 a1.prefix_.len, .int .i64 a1.attrs.origin, .ts .imm 1 (a1.attrs.path.map encInt), .int .i64 a1.attrs.next, .int .i64 a1.attrs.med, .int .i64 a1.attrs.pref, .ts .imm 1 (a1.attrs.comms.map encInt)]]⟩, some ⟨.box, 8, [[.int .i64 r13.prefix_.addr, .int .i64 r13.prefix_.len, .int .i64 r13.attrs.origin, .sl 3 0 r13.attrs.path.length, .int .i64 r13.attrs.next, .int .i64 r13.attrs.med, .int .i64 r13.attrs.pref, .sl 4 0 r13.attrs.comms.length]]⟩, some ⟨.arr, 1, r13.attrs.path.map encInt⟩, some ⟨.arr, 1, r13.attrs.comms.map encInt⟩, some ⟨.box, 8, [[.int .i64 r21.prefix_.addr, .int .i64 r21.prefix_.len, .int .i64 r21.attrs.origin, .sl 6 0 r21.attrs.path.length, .int .i64 r21.attrs.next, .int .i64 r21.attrs.med, .int .i64 r21.attrs.pref, .sl 7 0 r21.attrs.comms.length]]⟩, some ⟨.arr, 1, r21.attrs.path.map encInt⟩, some ⟨.arr, 1, r21.attrs.comms.map encInt⟩])
theorem e5_2 (r14 : Bool) (r22 : Bool) (r39 : Int) (a0 : Acn) (a1 : Route) (r13 : Route) (r21 : Route) (o : Bool) (h : m5_2 r14 r22 r39 r13 r21 = some o) : evCL T 0 k5_2 (frOf 104 (upd (upd (upd (upd (upd (upd (upd anyF 2 (.ptr 0 0 0)) 3 (.ptr 1 0 0)) 6 (.ptr 2 0 0)) 7 (.bool r14)) 9 (.ptr 5 0 0)) 10 (.bool r22)) 11 (.int .i64 r39))) [some ⟨.box, 2, [[.int .i64 a0.kind, .int .i64 a0.n]]⟩, some ⟨.box, 8, [[.int .i64 a1.prefix_.addr, .int .i64 a1.prefix_.len, .int .i64 a1.attrs.origin, .ts .imm 1 (a1.attrs.path.map encInt), .int .i64 a1.attrs.next, .int .i64 a1.attrs.med, .int .i64 a1.attrs.pref, .ts .imm 1 (a1.attrs.comms.map encInt)]]⟩, some ⟨.box, 8, [[.int .i64 r13.prefix_.addr, .int .i64 r13.prefix_.len, .int .i64 r13.attrs.origin, .sl 3 0 r13.attrs.path.length, .int .i64 r13.attrs.next, .int .i64 r13.attrs.med, .int .i64 r13.attrs.pref, .sl 4 0 r13.attrs.comms.length]]⟩, some ⟨.arr, 1, r13.attrs.path.map encInt⟩, some ⟨.arr, 1, r13.attrs.comms.map encInt⟩, some ⟨.box, 8, [[.int .i64 r21.prefix_.addr, .int .i64 r21.prefix_.len, .int .i64 r21.attrs.origin, .sl 6 0 r21.attrs.path.length, .int .i64 r21.attrs.next, .int .i64 r21.attrs.med, .int .i64 r21.attrs.pref, .sl 7 0 r21.attrs.comms.length]]⟩, some ⟨.arr, 1, r21.attrs.path.map encInt⟩, some ⟨.arr, 1, r21.attrs.comms.map encInt⟩] = some (X5_2 r14 r22 r39 a0 a1 r13 r21 o) := by
 unfold m5_2 at h
 try simp -implicitDefEqProofs only [go_sem, X5_2, k5_2]
 cases b44 : (ltI r39 0 : Bool)
 · replace h := br_f b44 h
   obtain ⟨r47, q45, h⟩ := bnd_some h
   have w46 := e12 r21 r13 r47 q45
   try simp -implicitDefEqProofs only [go_sem] at w46
   try simp -implicitDefEqProofs only [go_sem, X5_2, k5_2, b44, w46]
   cases b48 : (r47 : Bool)
   · replace h := br_f b48 h
     cases h
     simp -implicitDefEqProofs only [go_sem, X5_2, k5_2, b44, w46, b48]
   · replace h := br_t b48 h
     cases h
     simp -implicitDefEqProofs only [go_sem, X5_2, k5_2, b44, w46, b48]
 · replace h := br_t b44 h
   cases h
   simp -implicitDefEqProofs only [go_sem, X5_2, k5_2, b44]
noncomputable def X5_3 (r14 : Bool) (r55 : Int) (r22 : Bool) (r13 : Route) (r21 : Route) (r56 : List Int) (r57 : List Int) (o : Bool) : Ex × Fr × St :=
 (.normal, frOf 104 (upd (upd (upd anyF 9 (.ptr 0 0 0)) 12 (.int .i64 r55)) 95 (.bool o)), [some ⟨.box, 8, [[.int .i64 r21.prefix_.addr, .int .i64 r21.prefix_.len, .int .i64 r21.attrs.origin, .sl 1 0 r56.length, .int .i64 r21.attrs.next, .int .i64 r21.attrs.med, .int .i64 r21.attrs.pref, .sl 2 0 r57.length]]⟩, some ⟨.arr, 1, r56.map encInt⟩, some ⟨.arr, 1, r57.map encInt⟩])
theorem e5_3 (r14 : Bool) (r55 : Int) (r22 : Bool) (r13 : Route) (r21 : Route) (r56 : List Int) (r57 : List Int) (o : Bool) (h : m5_3 r14 r22 r13 r21 = some o) : evCL T 0 k5_3 (frOf 104 (upd (upd (upd (upd (upd (upd anyF 6 (.ptr 0 0 0)) 7 (.bool r14)) 9 (.ptr 3 0 0)) 12 (.int .i64 r55)) 14 (.ptr 6 0 0)) 15 (.bool r22))) [some ⟨.box, 8, [[.int .i64 r13.prefix_.addr, .int .i64 r13.prefix_.len, .int .i64 r13.attrs.origin, .sl 1 0 r13.attrs.path.length, .int .i64 r13.attrs.next, .int .i64 r13.attrs.med, .int .i64 r13.attrs.pref, .sl 2 0 r13.attrs.comms.length]]⟩, some ⟨.arr, 1, r13.attrs.path.map encInt⟩, some ⟨.arr, 1, r13.attrs.comms.map encInt⟩, some ⟨.box, 8, [[.int .i64 r21.prefix_.addr, .int .i64 r21.prefix_.len, .int .i64 r21.attrs.origin, .sl 4 0 r56.length, .int .i64 r21.attrs.next, .int .i64 r21.attrs.med, .int .i64 r21.attrs.pref, .sl 5 0 r57.length]]⟩, some ⟨.arr, 1, r56.map encInt⟩, some ⟨.arr, 1, r57.map encInt⟩, some ⟨.box, 8, [[.int .i64 r21.prefix_.addr, .int .i64 r21.prefix_.len, .int .i64 r21.attrs.origin, .sl 7 0 r21.attrs.path.length, .int .i64 r21.attrs.next, .int .i64 r21.attrs.med, .int .i64 r21.attrs.pref, .sl 8 0 r21.attrs.comms.length]]⟩, some ⟨.arr, 1, r21.attrs.path.map encInt⟩, some ⟨.arr, 1, r21.attrs.comms.map encInt⟩] = some (X5_3 r14 r55 r22 r13 r21 r56 r57 o) := by
 unfold m5_3 at h
 obtain ⟨r73, q71, h⟩ := bnd_some h
 have w72 := e12 r21 r13 r73 q71
 try simp -implicitDefEqProofs only [go_sem] at w72
 try simp -implicitDefEqProofs only [go_sem, X5_3, k5_3, w72]
 cases b74 : (r73 : Bool)
 · replace h := br_f b74 h
   cases h
   simp -implicitDefEqProofs only [go_sem, X5_3, k5_3, w72, b74]
 · replace h := br_t b74 h
   cases h
   simp -implicitDefEqProofs only [go_sem, X5_3, k5_3, w72, b74]
theorem e5 (a0 : Acn) (a1 : Route) (r : Bool) (h : m5 a0 a1 = some r) : evFL T 5 [.agg [.int .i64 a0.kind, .int .i64 a0.n], .agg [.int .i64 a1.prefix_.addr, .int .i64 a1.prefix_.len, .int .i64 a1.attrs.origin, .ts .imm 1 (a1.attrs.path.map encInt), .int .i64 a1.attrs.next, .int .i64 a1.attrs.med, .int .i64 a1.attrs.pref, .ts .imm 1 (a1.attrs.comms.map encInt)]] [] = some (.bool r, []) := by
 unfold m5 at h
 rw [evFL_at fn5 (Nat.le_of_ble_eq_true rfl) rfl (.inr rfl) ⟨rfl, rfl⟩]
 obtain ⟨r3, q1, h⟩ := bnd_some h
 have w2 := e8 a1 1048576 r3 q1
 try simp -implicitDefEqProofs only [go_sem] at w2
 try simp -implicitDefEqProofs only [go_sem, i5, c5, w2]
 cases b4 : (ltI r3 0 : Bool)
 · replace h := br_f b4 h
   obtain ⟨r7, q5, h⟩ := bnd_some h
   have w6 := e19 a0 r7 q5
   try simp -implicitDefEqProofs only [go_sem] at w6
   obtain ⟨r10, q8, h⟩ := bnd_some h
   have w9 := e10 a1 r10 q8
   try simp -implicitDefEqProofs only [go_sem] at w9
   obtain ⟨⟨r13, r14⟩, q11, h⟩ := bnd_some h
   replace h := sel2_some h
   have w12 := e18 r7 r10 (r13, r14) q11
   try simp -implicitDefEqProofs only [go_sem] at w12
   obtain ⟨⟨r21, r22⟩, q19, h⟩ := bnd_some h
   replace h := sel2_some h
   have w20 := e20 r7 r10 (r21, r22) q19
   try simp -implicitDefEqProofs only [go_sem] at w20
   obtain ⟨v29, q27, h⟩ := bnd_some h
   have w28 := e5_1 r14 r22 a0 a1 r13 r10 r21 v29 q27
   simp only [X5_1] at w28
   try simp -implicitDefEqProofs only [go_sem] at w28
   try simp -implicitDefEqProofs only [go_sem, i5, c5, w2, b4, w6, w9, w12, w20, w28]
   cases b30 : (v29 : Bool)
   · replace h := br_f b30 h
     obtain ⟨r35, q33, h⟩ := bnd_some h
     have w34 := e12 r10 r10 r35 q33
     try simp -implicitDefEqProofs only [go_sem] at w34
     try simp -implicitDefEqProofs only [go_sem, i5, c5, w2, b4, w6, w9, w12, w20, w28, b30, w34]
     cases b36 : (r35 : Bool)
     · replace h := br_f b36 h
       cases h
       simp -implicitDefEqProofs only [go_sem, i5, c5, w2, b4, w6, w9, w12, w20, w28, b30, w34, b36]
     · replace h := br_t b36 h
       obtain ⟨⟨r39, r40, r41⟩, q37, h⟩ := bnd_some h
       replace h := sel3_some h
       have w38 := e21 r10 1 (r39, r40, r41) q37
       try simp -implicitDefEqProofs only [go_sem] at w38
       obtain ⟨g42, h⟩ := ck_some h
       try simp -implicitDefEqProofs only [go_sem] at g42
       obtain ⟨g43, h⟩ := ck_some h
       try simp -implicitDefEqProofs only [go_sem] at g43
       obtain ⟨v51, q49, h⟩ := bnd_some h
       have w50 := e5_2 r14 r22 r39 a0 a1 r13 r21 v51 q49
       simp only [X5_2] at w50
       try simp -implicitDefEqProofs only [go_sem, g42, g43] at w50
       try simp -implicitDefEqProofs only [go_sem, i5, c5, w2, b4, w6, w9, w12, w20, w28, b30, w34, b36, w38, g42, take_of_len_map g42, g43, take_of_len_map g43, w50]
       cases b52 : (v51 : Bool)
       · replace h := br_f b52 h
         obtain ⟨⟨r55, r56, r57⟩, q53, h⟩ := bnd_some h
         replace h := sel3_some h
         have w54 := e21 r21 1 (r55, r56, r57) q53
         try simp -implicitDefEqProofs only [go_sem, g42, g43] at w54
         obtain ⟨g58, h⟩ := ck_some h
         try simp -implicitDefEqProofs only [go_sem] at g58
         obtain ⟨g59, h⟩ := ck_some h
         try simp -implicitDefEqProofs only [go_sem] at g59
         obtain ⟨r62, q60, h⟩ := bnd_some h
         have w61 := e22 (⟨r21.prefix_, (⟨r21.attrs.origin, r56, r21.attrs.next, r21.attrs.med, r21.attrs.pref, r57⟩ : Attrs)⟩ : Route) 1 r62 q60
         try simp -implicitDefEqProofs only [go_sem, g42, g43, g58, g59] at w61
         try simp -implicitDefEqProofs only [go_sem, i5, c5, w2, b4, w6, w9, w12, w20, w28, b30, w34, b36, w38, g42, take_of_len_map g42, g43, take_of_len_map g43, w50, b52, w54, g58, take_of_len_map g58, g59, take_of_len_map g59, w61]
         cases b63 : (ltI r62 0 : Bool)
         · replace h := br_f b63 h
           try simp -implicitDefEqProofs only [go_sem, i5, c5, w2, b4, w6, w9, w12, w20, w28, b30, w34, b36, w38, g42, take_of_len_map g42, g43, take_of_len_map g43, w50, b52, w54, g58, take_of_len_map g58, g59, take_of_len_map g59, w61, b63]
           cases b64 : (eqI r62 r55 : Bool)
           · replace h := br_f b64 h
             cases h
             simp -implicitDefEqProofs only [go_sem, i5, c5, w2, b4, w6, w9, w12, w20, w28, b30, w34, b36, w38, g42, take_of_len_map g42, g43, take_of_len_map g43, w50, b52, w54, g58, take_of_len_map g58, g59, take_of_len_map g59, w61, b63, b64]
           · replace h := br_t b64 h
             obtain ⟨v77, q75, h⟩ := bnd_some h
             have w76 := e5_3 r14 r55 r22 r13 r21 r56 r57 v77 q75
             simp only [X5_3] at w76
             try simp -implicitDefEqProofs only [go_sem, g42, g43, g58, g59] at w76
             try simp -implicitDefEqProofs only [go_sem, i5, c5, w2, b4, w6, w9, w12, w20, w28, b30, w34, b36, w38, g42, take_of_len_map g42, g43, take_of_len_map g43, w50, b52, w54, g58, take_of_len_map g58, g59, take_of_len_map g59, w61, b63, b64, w76]
             cases b78 : (v77 : Bool)
             · replace h := br_f b78 h
               cases h
               simp -implicitDefEqProofs only [go_sem, i5, c5, w2, b4, w6, w9, w12, w20, w28, b30, w34, b36, w38, g42, take_of_len_map g42, g43, take_of_len_map g43, w50, b52, w54, g58, take_of_len_map g58, g59, take_of_len_map g59, w61, b63, b64, w76, b78]
             · replace h := br_t b78 h
               cases h
               simp -implicitDefEqProofs only [go_sem, i5, c5, w2, b4, w6, w9, w12, w20, w28, b30, w34, b36, w38, g42, take_of_len_map g42, g43, take_of_len_map g43, w50, b52, w54, g58, take_of_len_map g58, g59, take_of_len_map g59, w61, b63, b64, w76, b78]
         · replace h := br_t b63 h
           cases h
           simp -implicitDefEqProofs only [go_sem, i5, c5, w2, b4, w6, w9, w12, w20, w28, b30, w34, b36, w38, g42, take_of_len_map g42, g43, take_of_len_map g43, w50, b52, w54, g58, take_of_len_map g58, g59, take_of_len_map g59, w61, b63]
       · replace h := br_t b52 h
         cases h
         simp -implicitDefEqProofs only [go_sem, i5, c5, w2, b4, w6, w9, w12, w20, w28, b30, w34, b36, w38, g42, take_of_len_map g42, g43, take_of_len_map g43, w50, b52]
   · replace h := br_t b30 h
     cases h
     simp -implicitDefEqProofs only [go_sem, i5, c5, w2, b4, w6, w9, w12, w20, w28, b30]
 · replace h := br_t b4 h
   cases h
   simp -implicitDefEqProofs only [go_sem, i5, c5, w2, b4]
end Go.Pi.Ythidbgihjhkjaaa.ActOn
