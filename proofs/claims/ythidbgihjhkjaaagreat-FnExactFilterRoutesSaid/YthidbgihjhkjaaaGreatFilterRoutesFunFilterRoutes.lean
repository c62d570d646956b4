/- no condition -/
import Derived.Test.YthidbgihjhkjaaaGreatFilterRoutesFuaFilterRoutes
set_option linter.all false
namespace Go.Pi.YthidbgihjhkjaaaGreat.FilterRoutes
open Go Go.Proofs Go.Pi
set_option maxRecDepth 100000
set_option linter.all false
@[go_sem] theorem call85:CL 85 [[2]]:=evCall0 fn85 rfl rfl rfl
theorem e85_1 (a0:List ReCell)(o:Bool)(h:m85_1 a0=some o):evCL T 0 k85_1 (frOf 17 (upd anyF 0 (.ts .imm 2 (a0.map nReC)))) []=some (.normal,frOf 17 (upd (upd anyF 0 (.ts .imm 2 (a0.map nReC))) 13 (.bool o)),[]):=by
 unfold m85_1 at h;obtain ⟨r3,w2,h⟩:=bcall (e87 (↑a0.length:Int) 1 30) h;try simp -implicitDefEqProofs only [go_sem] at w2
 rcases brx h with ⟨b4,h⟩|⟨b4,h⟩
 rotate_left
 obtain ⟨r7,w6,h⟩:=bcall (e116 a0 0) h;try simp -implicitDefEqProofs only [go_sem] at w6
 all_goals cases h;simp -implicitDefEqProofs only [go_sem,k85_1, *]
theorem e85 (a0:List ReCell)(r:Bool)(h:m85 a0=some r):evFL T 85 [.ts .imm 2 (a0.map nReC)] []=some (.bool r,[]):=by
 unfold m85 at h;rw [ev fn85 rfl];obtain ⟨v10,w9,h⟩:=bcall (e85_1 a0) h;try simp -implicitDefEqProofs only [go_sem] at w9
 rcases brx h with ⟨b11,h⟩|⟨b11,h⟩
 obtain ⟨r14,w13,h⟩:=bcall (e117 a0 (fun y0=>m118 y0) 118 [] ⟨⟨fun S=>by simp -implicitDefEqProofs only [go_sem],fun _ _ _ _ _ _=>by simp -implicitDefEqProofs only [go_sem]⟩,fun y0 r h=>⟨fun S=>by simp -implicitDefEqProofs only [go_sem,e118 y0 r h],fun S=>by simp -implicitDefEqProofs only [go_sem,e118 y0 r h]⟩⟩) h
 try simp -implicitDefEqProofs only [go_sem] at w13
 all_goals cases h;simp -implicitDefEqProofs only [go_sem,i85,c85, *]
@[go_sem] theorem call86:CL 86 [[0]]:=evCall0 fn86 rfl rfl rfl
theorem e86 (a0:Int)(r:Bool)(h:m86 a0=some r):evFL T 86 [nI a0] []=some (.bool r,[]):=by
 unfold m86 at h;rw [ev fn86 rfl];obtain ⟨r3,w2,h⟩:=bcall (e87 a0 0 1000000) h;(try simp -implicitDefEqProofs only [go_sem] at w2);cases h;simp -implicitDefEqProofs only [go_sem,i86,c86,w2]
@[go_sem] theorem call120:CL 120 [[4],[0]]:=evCall0 fn120 rfl rfl rfl
@[go_sem] noncomputable def X120_1 (o:(Unit ⊕ Int)):Ex×Fr×St :=
 match o with
 | .inl o=>(.exit 0,frOf 19 (anyF),[])
 | .inr o=>(.ret,frOf 19 (upd anyF 4 (nI o)),[])
@[go_sem] noncomputable def E120_1 (a1_f:Nat)(a1_c:List AV)(a0:List Range)(p1:Int)(s:Int):Fr×St:=(frOf 19 (upd (upd (upd (upd anyF 0 (.ts .imm 4 (a0.map nRan))) 1 (.fn a1_f a1_c)) 7 (nI p1)) 8 (nI s)),[])
theorem e120_1 (a0:List Range)(p1:Int)(a1:(Range→Option Bool))(a1_f:Nat)(a1_c:List AV)(a1_h:capOk a1_c∧∀y0 r,a1 y0=some r→clR a1_f a1_c [.agg (nRan y0)] (.bool r)):LW T 0 k120_1b (m120_1b a0 p1 a1) (E120_1 a1_f a1_c a0 p1) X120_1:=by
 refine lwk (by rintro (b | b)<;>nofun) fun s o h=>?_
 unfold m120_1b at h
 revert h
 generalize s=s12;intro h
 rcases brx h with ⟨b13,h⟩|⟨b13,h⟩
 rotate_left
 obtain ⟨x14,g16,g17,g18,h⟩:=bidx nRan h;obtain ⟨r19,w21,h⟩:=bcall (a1_h.2 x14) h;try simp -implicitDefEqProofs only [go_sem] at g17 g18 w21
 rcases brx h with ⟨b22,h⟩|⟨b22,h⟩
 all_goals cases h;simp -implicitDefEqProofs only [go_sem,k120_1b, *]
theorem e120 (a0:List Range)(a1:(Range→Option Bool))(a1_f:Nat)(a1_c:List AV)(a1_h:capOk a1_c∧∀y0 r,a1 y0=some r→clR a1_f a1_c [.agg (nRan y0)] (.bool r))(r:Int)(h:m120 a0 a1=some r):evFL T 120 [.ts .imm 4 (a0.map nRan),.fn a1_f a1_c] []=some (nI r,[]):=by
 unfold m120 at h;rw [ev fn120 rfl];(try simp -implicitDefEqProofs only [go_sem,i120,c120,a1_h.1]);obtain ⟨o,w24,h⟩:=bcall (e120_1 a0 (↑a0.length:Int) a1 a1_f a1_c a1_h 0) h
 rcases o with ⟨⟩|v25
 replace h:=selS_l h;try simp -implicitDefEqProofs only [go_sem] at w24
 rotate_left
 replace h:=selS_r h;try simp -implicitDefEqProofs only [go_sem] at w24
 all_goals cases h;simp -implicitDefEqProofs only [go_sem,i120,c120,a1_h.1,w24]
@[go_sem] theorem call88:CL 88 [[4],[0]]:=evCall0 fn88 rfl rfl rfl
theorem e88 (a0:List Range)(a1:(Range→Option Bool))(a1_f:Nat)(a1_c:List AV)(a1_h:capOk a1_c∧∀y0 r,a1 y0=some r→clR a1_f a1_c [.agg (nRan y0)] (.bool r))(r:Bool)(h:m88 a0 a1=some r):evFL T 88 [.ts .imm 4 (a0.map nRan),.fn a1_f a1_c] []=some (.bool r,[]):=by
 unfold m88 at h;rw [ev fn88 rfl];obtain ⟨r3,w2,h⟩:=bcall (e120 a0 a1 a1_f a1_c a1_h) h;(try simp -implicitDefEqProofs only [go_sem] at w2);cases h;simp -implicitDefEqProofs only [go_sem,i88,c88,a1_h.1,w2]
theorem call93:CL 93 [[0]]:=evCall0 fn93 rfl rfl rfl
theorem callz93:CZ 93 [[0]] [[0]]:=evCallFz0 fn93 rfl rfl rfl
attribute [go_sem] call93 callz93
theorem e93 (a0:Int)(r:Bool)(h:m93 a0=some r):evFL T 93 [nI a0] []=some (.bool r,[]):=by
 unfold m93 at h;rw [ev fn93 rfl];obtain ⟨r3,w2,h⟩:=bcall (e87 a0 0 4294967295) h;(try simp -implicitDefEqProofs only [go_sem] at w2);cases h;simp -implicitDefEqProofs only [go_sem,i93,c93,w2]
@[go_sem] theorem callz94:CZ 94 [[0]] [[0]]:=evCallFz0 fn94 rfl rfl rfl
theorem e94 (a0:Int)(r:Int)(h:m94 a0=some r):evFL T 94 [nI a0] []=some (nI r,[]):=by
 unfold m94 at h;rw [ev fn94 rfl];obtain ⟨g1,h⟩:=ck_some h;(try simp -implicitDefEqProofs only [go_sem] at g1);cases h;simp -implicitDefEqProofs only [go_sem,i94,c94,g1]
@[go_sem] theorem call58:CL 58 [[0,0]]:=evCall0 fn58 rfl rfl rfl
theorem e58_1 (a0:Prefix)(o:Bool)(h:m58_1 a0=some o):evCL T 0 k58_1 (frOf 20 (upd anyF 1 (.ptr 0 0 0))) [some ⟨.box,2,[(nPre a0)]⟩]=some (.normal,frOf 20 (upd anyF 2 (.bool o)),[]):=by
 unfold m58_1 at h;obtain ⟨r3,w2,h⟩:=bcall (e87 a0.len 0 32) h;try simp -implicitDefEqProofs only [go_sem] at w2
 rcases brx h with ⟨b4,h⟩|⟨b4,h⟩
 rotate_left
 obtain ⟨r7,w6,h⟩:=bcall (e93 a0.addr) h;try simp -implicitDefEqProofs only [go_sem] at w6
 rcases brx h with ⟨b8,h⟩|⟨b8,h⟩
 rotate_left
 obtain ⟨r11,w10,h⟩:=bcall (e94 a0.len) h;(try simp -implicitDefEqProofs only [go_sem] at w10);obtain ⟨g12,h⟩:=ck_some h;try simp -implicitDefEqProofs only [go_sem] at g12
 all_goals cases h;simp -implicitDefEqProofs only [go_sem,k58_1, *]
theorem e58 (a0:Prefix)(r:Bool)(h:m58 a0=some r):evFL T 58 [.agg (nPre a0)] []=some (.bool r,[]):=by
 unfold m58 at h;rw [ev fn58 rfl];obtain ⟨v15,w14,h⟩:=bcall (e58_1 a0) h;(try simp -implicitDefEqProofs only [go_sem] at w14);cases h;simp -implicitDefEqProofs only [go_sem,i58,c58,w14]
theorem call89:CL 89 [[0,0,0,0]]:=evCall0 fn89 rfl rfl rfl
theorem callz89:CZ 89 [[0]] [[0,0,0,0]]:=evCallFz0 fn89 rfl rfl rfl
attribute [go_sem] call89 callz89
theorem e89_1 (a0:Range)(o:Bool)(h:m89_1 a0=some o):evCL T 0 k89_1 (frOf 27 (upd anyF 1 (.ptr 0 0 0))) [some ⟨.box,4,[(nRan a0)]⟩]=some (.normal,frOf 27 (upd anyF 2 (.bool o)),[]):=by
 unfold m89_1 at h;obtain ⟨r3,w2,h⟩:=bcall (e58 a0.prefix_) h;try simp -implicitDefEqProofs only [go_sem] at w2
 rcases brx h with ⟨b4,h⟩|⟨b4,h⟩
 rotate_left
 try simp -implicitDefEqProofs only [go_sem,k89_1,w2,b4]
 rcases brx h with ⟨b5,h⟩|⟨b5,h⟩
 try simp -implicitDefEqProofs only [go_sem,k89_1,w2,b4,b5]
 rcases brx h with ⟨b6,h⟩|⟨b6,h⟩
 all_goals cases h;simp -implicitDefEqProofs only [go_sem,k89_1, *]
theorem e89 (a0:Range)(r:Bool)(h:m89 a0=some r):evFL T 89 [.agg [nI a0.prefix_.addr,nI a0.prefix_.len,nI a0.lo,nI a0.hi]] []=some (.bool r,[]):=by
 unfold m89 at h;rw [ev fn89 rfl];obtain ⟨v9,w8,h⟩:=bcall (e89_1 a0) h;(try simp -implicitDefEqProofs only [go_sem] at w8);cases h;simp -implicitDefEqProofs only [go_sem,i89,c89,w8]
@[go_sem] theorem call121:CL 121 [[2],[0]]:=evCall0 fn121 rfl rfl rfl
@[go_sem] noncomputable def X121_1 (o:(Unit ⊕ Int)):Ex×Fr×St :=
 match o with
 | .inl o=>(.exit 0,frOf 19 (anyF),[])
 | .inr o=>(.ret,frOf 19 (upd anyF 4 (nI o)),[])
@[go_sem] noncomputable def E121_1 (a1_f:Nat)(a1_c:List AV)(a0:List Acn)(p1:Int)(s:Int):Fr×St:=(frOf 19 (upd (upd (upd (upd anyF 0 (.ts .imm 2 (a0.map nAcn))) 1 (.fn a1_f a1_c)) 7 (nI p1)) 8 (nI s)),[])
theorem e121_1 (a0:List Acn)(p1:Int)(a1:(Acn→Option Bool))(a1_f:Nat)(a1_c:List AV)(a1_h:capOk a1_c∧∀y0 r,a1 y0=some r→clR a1_f a1_c [.agg [nI y0.kind,nI y0.n]] (.bool r)):LW T 0 k121_1b (m121_1b a0 p1 a1) (E121_1 a1_f a1_c a0 p1) X121_1:=by
 refine lwk (by rintro (b | b)<;>nofun) fun s o h=>?_
 unfold m121_1b at h
 revert h
 generalize s=s12;intro h
 rcases brx h with ⟨b13,h⟩|⟨b13,h⟩
 rotate_left
 obtain ⟨x14,g16,g17,g18,h⟩:=bidx nAcn h;obtain ⟨r19,w21,h⟩:=bcall (a1_h.2 x14) h;try simp -implicitDefEqProofs only [go_sem] at g17 g18 w21
 rcases brx h with ⟨b22,h⟩|⟨b22,h⟩
 all_goals cases h;simp -implicitDefEqProofs only [go_sem,k121_1b, *]
theorem e121 (a0:List Acn)(a1:(Acn→Option Bool))(a1_f:Nat)(a1_c:List AV)(a1_h:capOk a1_c∧∀y0 r,a1 y0=some r→clR a1_f a1_c [.agg [nI y0.kind,nI y0.n]] (.bool r))(r:Int)(h:m121 a0 a1=some r):evFL T 121 [.ts .imm 2 (a0.map nAcn),.fn a1_f a1_c] []=some (nI r,[]):=by
 unfold m121 at h;rw [ev fn121 rfl];(try simp -implicitDefEqProofs only [go_sem,i121,c121,a1_h.1]);obtain ⟨o,w24,h⟩:=bcall (e121_1 a0 (↑a0.length:Int) a1 a1_f a1_c a1_h 0) h
 rcases o with ⟨⟩|v25
 replace h:=selS_l h;try simp -implicitDefEqProofs only [go_sem] at w24
 rotate_left
 replace h:=selS_r h;try simp -implicitDefEqProofs only [go_sem] at w24
 all_goals cases h;simp -implicitDefEqProofs only [go_sem,i121,c121,a1_h.1,w24]
@[go_sem] theorem call90:CL 90 [[2],[0]]:=evCall0 fn90 rfl rfl rfl
theorem e90 (a0:List Acn)(a1:(Acn→Option Bool))(a1_f:Nat)(a1_c:List AV)(a1_h:capOk a1_c∧∀y0 r,a1 y0=some r→clR a1_f a1_c [.agg [nI y0.kind,nI y0.n]] (.bool r))(r:Bool)(h:m90 a0 a1=some r):evFL T 90 [.ts .imm 2 (a0.map nAcn),.fn a1_f a1_c] []=some (.bool r,[]):=by
 unfold m90 at h;rw [ev fn90 rfl];obtain ⟨r3,w2,h⟩:=bcall (e121 a0 a1 a1_f a1_c a1_h) h;(try simp -implicitDefEqProofs only [go_sem] at w2);cases h;simp -implicitDefEqProofs only [go_sem,i90,c90,a1_h.1,w2]
@[go_sem] theorem call92:CL 92 [[0,0]]:=evCall0 fn92 rfl rfl rfl
theorem e92_3 (a0:Acn)(p5:Bool)(o:Bool)(h:m92_3 a0 p5=some o):evCL T 0 k92_3 (frOf 18 (upd (upd (upd anyF 1 (.ptr 0 0 0)) 4 (nI a0.kind)) 5 (.bool p5))) [some ⟨.box,2,[[nI a0.kind,nI a0.n]]⟩]=some (.normal,frOf 18 (upd (upd (upd anyF 1 (.ptr 0 0 0)) 4 (nI a0.kind)) 5 (.bool o)),[some ⟨.box,2,[[nI a0.kind,nI a0.n]]⟩]):=by
 unfold m92_3 at h
 rcases brx h with ⟨b6,h⟩|⟨b6,h⟩
 all_goals cases h;simp -implicitDefEqProofs only [go_sem,k92_3,b6]
theorem e92_2 (a0:Acn)(p3:Bool)(o:Bool)(h:m92_2 a0 p3=some o):evCL T 0 k92_2 (frOf 18 (upd (upd (upd anyF 1 (.ptr 0 0 0)) 4 (nI a0.kind)) 5 (.bool p3))) [some ⟨.box,2,[[nI a0.kind,nI a0.n]]⟩]=some (.normal,frOf 18 (upd (upd (upd anyF 1 (.ptr 0 0 0)) 4 (nI a0.kind)) 5 (.bool o)),[some ⟨.box,2,[[nI a0.kind,nI a0.n]]⟩]):=by
 unfold m92_2 at h
 rcases brx h with ⟨b4,h⟩|⟨b4,h⟩
 obtain ⟨v9,w8,h⟩:=bcall (e92_3 a0 (eqI a0.kind 3)) h;try simp -implicitDefEqProofs only [go_sem] at w8
 all_goals cases h;simp -implicitDefEqProofs only [go_sem,k92_2, *]
theorem e92_1 (a0:Acn)(p1:Bool)(o:Bool)(h:m92_1 a0 p1=some o):evCL T 0 k92_1 (frOf 18 (upd (upd (upd anyF 1 (.ptr 0 0 0)) 4 (nI a0.kind)) 5 (.bool p1))) [some ⟨.box,2,[[nI a0.kind,nI a0.n]]⟩]=some (.normal,frOf 18 (upd (upd (upd anyF 1 (.ptr 0 0 0)) 4 (nI a0.kind)) 5 (.bool o)),[some ⟨.box,2,[[nI a0.kind,nI a0.n]]⟩]):=by
 unfold m92_1 at h
 rcases brx h with ⟨b2,h⟩|⟨b2,h⟩
 obtain ⟨v12,w11,h⟩:=bcall (e92_2 a0 (eqI a0.kind 2)) h;try simp -implicitDefEqProofs only [go_sem] at w11
 all_goals cases h;simp -implicitDefEqProofs only [go_sem,k92_1, *]
theorem e92 (a0:Acn)(r:Bool)(h:m92 a0=some r):evFL T 92 [.agg [nI a0.kind,nI a0.n]] []=some (.bool r,[]):=by
 unfold m92 at h;rw [ev fn92 rfl];obtain ⟨v15,w14,h⟩:=bcall (e92_1 a0 (eqI a0.kind 1)) h;try simp -implicitDefEqProofs only [go_sem] at w14
 rcases brx h with ⟨b16,h⟩|⟨b16,h⟩
 try simp -implicitDefEqProofs only [go_sem,i92,c92,w14,b16]
 rcases brx h with ⟨b20,h⟩|⟨b20,h⟩
 rotate_left
 obtain ⟨r23,w22,h⟩:=bcall (e119 a0.n) h;try simp -implicitDefEqProofs only [go_sem] at w22
 rotate_left
 obtain ⟨r19,w18,h⟩:=bcall (e86 a0.n) h;try simp -implicitDefEqProofs only [go_sem] at w18
 all_goals cases h;simp -implicitDefEqProofs only [go_sem,i92,c92, *]
theorem call91:CL 91 [[0,0]]:=evCall0 fn91 rfl rfl rfl
theorem callz91:CZ 91 [[0]] [[0,0]]:=evCallFz0 fn91 rfl rfl rfl
attribute [go_sem] call91 callz91
theorem e91 (a0:Acn)(r:Bool)(h:m91 a0=some r):evFL T 91 [.agg [nI a0.kind,nI a0.n]] []=some (.bool r,[]):=by
 unfold m91 at h;rw [ev fn91 rfl];obtain ⟨r3,w2,h⟩:=bcall (e92 a0) h;(try simp -implicitDefEqProofs only [go_sem] at w2);cases h;simp -implicitDefEqProofs only [go_sem,i91,c91,w2]
@[go_sem] theorem call57:CL 57 [[4,2,0,2,0]]:=evCall0 fn57 rfl rfl rfl
theorem e57_1 (a0:Term)(o:Bool)(h:m57_1 a0=some o):evCL T 0 k57_1 (frOf 52 (upd anyF 1 (.ptr 0 0 0))) [some ⟨.box,5,[(nTer .imm a0)]⟩]=some (.normal,frOf 52 (upd (upd anyF 1 (.ptr 0 0 0)) 41 (.bool o)),[some ⟨.box,5,[(nTer .imm a0)]⟩]):=by
 unfold m57_1 at h
 rcases brx h with ⟨b1,h⟩|⟨b1,h⟩
 try simp -implicitDefEqProofs only [go_sem,k57_1,b1]
 rcases brx h with ⟨b2,h⟩|⟨b2,h⟩
 try simp -implicitDefEqProofs only [go_sem,k57_1,b1,b2]
 rcases brx h with ⟨b20,h⟩|⟨b20,h⟩
 obtain ⟨r27,w26,h⟩:=bcall (e86 a0.comm) h;try simp -implicitDefEqProofs only [go_sem] at w26
 rcases brx h with ⟨b28,h⟩|⟨b28,h⟩
 rotate_left
 try simp -implicitDefEqProofs only [go_sem,k57_1,b1,b2,b20,w26,b28]
 rcases brx h with ⟨b29,h⟩|⟨b29,h⟩
 obtain ⟨r32,w31,h⟩:=bcall (e87 a0.verdict 0 2) h;try simp -implicitDefEqProofs only [go_sem] at w31
 rotate_left 2
 try simp -implicitDefEqProofs only [go_sem,k57_1,b1,b2,b20]
 rcases brx h with ⟨b21,h⟩|⟨b21,h⟩
 obtain ⟨r24,w23,h⟩:=bcall (e87 a0.verdict 0 2) h;try simp -implicitDefEqProofs only [go_sem] at w23
 rotate_left 2
 obtain ⟨r5,w4,h⟩:=bcall (e85 a0.path) h;try simp -implicitDefEqProofs only [go_sem] at w4
 rcases brx h with ⟨b6,h⟩|⟨b6,h⟩
 rotate_left
 try simp -implicitDefEqProofs only [go_sem,k57_1,b1,b2,w4,b6]
 rcases brx h with ⟨b7,h⟩|⟨b7,h⟩
 obtain ⟨r14,w13,h⟩:=bcall (e86 a0.comm) h;try simp -implicitDefEqProofs only [go_sem] at w13
 rcases brx h with ⟨b15,h⟩|⟨b15,h⟩
 rotate_left
 try simp -implicitDefEqProofs only [go_sem,k57_1,b1,b2,w4,b6,b7,w13,b15]
 rcases brx h with ⟨b16,h⟩|⟨b16,h⟩
 obtain ⟨r19,w18,h⟩:=bcall (e87 a0.verdict 0 2) h;try simp -implicitDefEqProofs only [go_sem] at w18
 rotate_left 2
 try simp -implicitDefEqProofs only [go_sem,k57_1,b1,b2,w4,b6,b7]
 rcases brx h with ⟨b8,h⟩|⟨b8,h⟩
 obtain ⟨r11,w10,h⟩:=bcall (e87 a0.verdict 0 2) h;try simp -implicitDefEqProofs only [go_sem] at w10
 all_goals cases h;simp -implicitDefEqProofs only [go_sem,k57_1, *]
theorem e57_2 (a0:Term)(o:Bool)(h:m57_2 a0=some o):evCL T 0 k57_2 (frOf 52 (upd anyF 1 (.ptr 0 0 0))) [some ⟨.box,5,[(nTer .imm a0)]⟩]=some (.normal,frOf 52 (upd anyF 2 (.bool o)),[]):=by
 unfold m57_2 at h
 obtain ⟨r39,w38,h⟩:=bcall (e88 a0.ranges (fun y0=>m89 y0) 89 [] ⟨⟨fun S=>by simp -implicitDefEqProofs only [go_sem],fun _ _ _ _ _ _=>by simp -implicitDefEqProofs only [go_sem]⟩,fun y0 r h=>⟨fun S=>by simp -implicitDefEqProofs only [go_sem,e89 y0 r h],fun S=>by simp -implicitDefEqProofs only [go_sem,e89 y0 r h]⟩⟩) h
 try simp -implicitDefEqProofs only [go_sem] at w38
 rcases brx h with ⟨b40,h⟩|⟨b40,h⟩
 obtain ⟨r43,w42,h⟩:=bcall (e90 a0.acts (fun y0=>m91 y0) 91 [] ⟨⟨fun S=>by simp -implicitDefEqProofs only [go_sem],fun _ _ _ _ _ _=>by simp -implicitDefEqProofs only [go_sem]⟩,fun y0 r h=>⟨fun S=>by simp -implicitDefEqProofs only [go_sem,e91 y0 r h],fun S=>by simp -implicitDefEqProofs only [go_sem,e91 y0 r h]⟩⟩) h
 try simp -implicitDefEqProofs only [go_sem] at w42
 all_goals cases h;simp -implicitDefEqProofs only [go_sem,k57_2, *]
theorem e57 (a0:Term)(r:Bool)(h:m57 a0=some r):evFL T 57 [.agg (nTer .imm a0)] []=some (.bool r,[]):=by
 unfold m57 at h;rw [ev fn57 rfl];obtain ⟨v35,w34,h⟩:=bcall (e57_1 a0) h;try simp -implicitDefEqProofs only [go_sem] at w34
 rcases brx h with ⟨b36,h⟩|⟨b36,h⟩
 obtain ⟨v46,w45,h⟩:=bcall (e57_2 a0) h;try simp -implicitDefEqProofs only [go_sem] at w45
 all_goals cases h;simp -implicitDefEqProofs only [go_sem,i57,c57, *]
theorem call56:CL 56 [[4,2,0,2,0]]:=evCall0 fn56 rfl rfl rfl
theorem callz56:CZ 56 [[0]] [[4,2,0,2,0]]:=evCallFz0 fn56 rfl rfl rfl
attribute [go_sem] call56 callz56
theorem e56 (a0:Term)(r:Bool)(h:m56 a0=some r):evFL T 56 [.agg [.ts .imm 4 (a0.ranges.map nRan),.ts .imm 2 (a0.path.map nReC),nI a0.comm,.ts .imm 2 (a0.acts.map nAcn),nI a0.verdict]] []=some (.bool r,[]):=by
 unfold m56 at h;rw [ev fn56 rfl];obtain ⟨r3,w2,h⟩:=bcall (e57 a0) h;(try simp -implicitDefEqProofs only [go_sem] at w2);cases h;simp -implicitDefEqProofs only [go_sem,i56,c56,w2]
@[go_sem] theorem call32:CL 32 [[5,0]]:=evCall0 fn32 rfl rfl rfl
theorem e32_1 (a0:Policy)(o:Bool)(h:m32_1 a0=some o):evCL T 0 k32_1 (frOf 13 (upd anyF 1 (.ptr 0 0 0))) [some ⟨.box,2,[(nPol .imm a0)]⟩]=some (.normal,frOf 13 (upd anyF 2 (.bool o)),[]):=by
 unfold m32_1 at h
 rcases brx h with ⟨b1,h⟩|⟨b1,h⟩
 rotate_left
 obtain ⟨r4,w3,h⟩:=bcall (e55 a0.terms (fun y0=>m56 y0) 56 [] ⟨⟨fun S=>by simp -implicitDefEqProofs only [go_sem],fun _ _ _ _ _ _=>by simp -implicitDefEqProofs only [go_sem]⟩,fun y0 r h=>⟨fun S=>by simp -implicitDefEqProofs only [go_sem,e56 y0 r h],fun S=>by simp -implicitDefEqProofs only [go_sem,e56 y0 r h]⟩⟩) h
 try simp -implicitDefEqProofs only [go_sem] at w3
 all_goals cases h;simp -implicitDefEqProofs only [go_sem,k32_1, *]
theorem e32 (a0:Policy)(r:Bool)(h:m32 a0=some r):evFL T 32 [.agg (nPol .imm a0)] []=some (.bool r,[]):=by
 unfold m32 at h;rw [ev fn32 rfl];obtain ⟨v7,w6,h⟩:=bcall (e32_1 a0) h;(try simp -implicitDefEqProofs only [go_sem] at w6);cases h;simp -implicitDefEqProofs only [go_sem,i32,c32,w6]
@[go_sem] theorem call68:CL 68 [[8],[0]]:=evCall0 fn68 rfl rfl rfl
@[go_sem] noncomputable def X68_1 (o:(Unit ⊕ Int)):Ex×Fr×St :=
 match o with
 | .inl o=>(.exit 0,frOf 19 (anyF),[])
 | .inr o=>(.ret,frOf 19 (upd anyF 4 (nI o)),[])
@[go_sem] noncomputable def E68_1 (a1_f:Nat)(a1_c:List AV)(a0:List Route)(p1:Int)(s:Int):Fr×St:=(frOf 19 (upd (upd (upd (upd anyF 0 (.ts .imm 8 (a0.map (nRou .imm)))) 1 (.fn a1_f a1_c)) 7 (nI p1)) 8 (nI s)),[])
theorem e68_1 (a0:List Route)(p1:Int)(a1:(Route→Option Bool))(a1_f:Nat)(a1_c:List AV)(a1_h:capOk a1_c∧∀y0 r,a1 y0=some r→clR a1_f a1_c [.agg (nRou .imm y0)] (.bool r)):LW T 0 k68_1b (m68_1b a0 p1 a1) (E68_1 a1_f a1_c a0 p1) X68_1:=by
 refine lwk (by rintro (b | b)<;>nofun) fun s o h=>?_
 unfold m68_1b at h
 revert h
 generalize s=s12;intro h
 rcases brx h with ⟨b13,h⟩|⟨b13,h⟩
 rotate_left
 obtain ⟨x14,g16,g17,g18,h⟩:=bidx (nRou .imm) h;obtain ⟨r19,w21,h⟩:=bcall (a1_h.2 x14) h;try simp -implicitDefEqProofs only [go_sem] at g17 g18 w21
 rcases brx h with ⟨b22,h⟩|⟨b22,h⟩
 all_goals cases h;simp -implicitDefEqProofs only [go_sem,k68_1b, *]
theorem e68 (a0:List Route)(a1:(Route→Option Bool))(a1_f:Nat)(a1_c:List AV)(a1_h:capOk a1_c∧∀y0 r,a1 y0=some r→clR a1_f a1_c [.agg (nRou .imm y0)] (.bool r))(r:Int)(h:m68 a0 a1=some r):evFL T 68 [.ts .imm 8 (a0.map (nRou .imm)),.fn a1_f a1_c] []=some (nI r,[]):=by
 unfold m68 at h;rw [ev fn68 rfl];(try simp -implicitDefEqProofs only [go_sem,i68,c68,a1_h.1]);obtain ⟨o,w24,h⟩:=bcall (e68_1 a0 (↑a0.length:Int) a1 a1_f a1_c a1_h 0) h
 rcases o with ⟨⟩|v25
 replace h:=selS_l h;try simp -implicitDefEqProofs only [go_sem] at w24
 rotate_left
 replace h:=selS_r h;try simp -implicitDefEqProofs only [go_sem] at w24
 all_goals cases h;simp -implicitDefEqProofs only [go_sem,i68,c68,a1_h.1,w24]
@[go_sem] theorem call41:CL 41 [[8],[0]]:=evCall0 fn41 rfl rfl rfl
theorem e41 (a0:List Route)(a1:(Route→Option Bool))(a1_f:Nat)(a1_c:List AV)(a1_h:capOk a1_c∧∀y0 r,a1 y0=some r→clR a1_f a1_c [.agg (nRou .imm y0)] (.bool r))(r:Bool)(h:m41 a0 a1=some r):evFL T 41 [.ts .imm 8 (a0.map (nRou .imm)),.fn a1_f a1_c] []=some (.bool r,[]):=by
 unfold m41 at h;rw [ev fn41 rfl];obtain ⟨r3,w2,h⟩:=bcall (e68 a0 a1 a1_f a1_c a1_h) h;(try simp -implicitDefEqProofs only [go_sem] at w2);cases h;simp -implicitDefEqProofs only [go_sem,i41,c41,a1_h.1,w2]
@[go_sem] theorem call135:CL 135 [[1],[0]]:=evCall0 fn135 rfl rfl rfl
@[go_sem] noncomputable def X135_1 (o:(Unit ⊕ Int)):Ex×Fr×St :=
 match o with
 | .inl o=>(.exit 0,frOf 19 (anyF),[])
 | .inr o=>(.ret,frOf 19 (upd anyF 4 (nI o)),[])
@[go_sem] noncomputable def E135_1 (a1_f:Nat)(a1_c:List AV)(a0:List Int)(p1:Int)(s:Int):Fr×St:=(frOf 19 (upd (upd (upd (upd anyF 0 (.ts .imm 1 (a0.map nInt))) 1 (.fn a1_f a1_c)) 7 (nI p1)) 8 (nI s)),[])
theorem e135_1 (a0:List Int)(p1:Int)(a1:(Int→Option Bool))(a1_f:Nat)(a1_c:List AV)(a1_h:capOk a1_c∧∀y0 r,a1 y0=some r→clR a1_f a1_c [nI y0] (.bool r)):LW T 0 k135_1b (m135_1b a0 p1 a1) (E135_1 a1_f a1_c a0 p1) X135_1:=by
 refine lwk (by rintro (b | b)<;>nofun) fun s o h=>?_
 unfold m135_1b at h
 revert h
 generalize s=s12;intro h
 rcases brx h with ⟨b13,h⟩|⟨b13,h⟩
 rotate_left
 obtain ⟨x14,g16,g17,g18,h⟩:=bidx nInt h;obtain ⟨r19,w21,h⟩:=bcall (a1_h.2 x14) h;try simp -implicitDefEqProofs only [go_sem] at g17 g18 w21
 rcases brx h with ⟨b22,h⟩|⟨b22,h⟩
 all_goals cases h;simp -implicitDefEqProofs only [go_sem,k135_1b, *]
theorem e135 (a0:List Int)(a1:(Int→Option Bool))(a1_f:Nat)(a1_c:List AV)(a1_h:capOk a1_c∧∀y0 r,a1 y0=some r→clR a1_f a1_c [nI y0] (.bool r))(r:Int)(h:m135 a0 a1=some r):evFL T 135 [.ts .imm 1 (a0.map nInt),.fn a1_f a1_c] []=some (nI r,[]):=by
 unfold m135 at h;rw [ev fn135 rfl];(try simp -implicitDefEqProofs only [go_sem,i135,c135,a1_h.1]);obtain ⟨o,w24,h⟩:=bcall (e135_1 a0 (↑a0.length:Int) a1 a1_f a1_c a1_h 0) h
 rcases o with ⟨⟩|v25
 replace h:=selS_l h;try simp -implicitDefEqProofs only [go_sem] at w24
 rotate_left
 replace h:=selS_r h;try simp -implicitDefEqProofs only [go_sem] at w24
 all_goals cases h;simp -implicitDefEqProofs only [go_sem,i135,c135,a1_h.1,w24]
@[go_sem] theorem call122:CL 122 [[1],[0]]:=evCall0 fn122 rfl rfl rfl
theorem e122 (a0:List Int)(a1:(Int→Option Bool))(a1_f:Nat)(a1_c:List AV)(a1_h:capOk a1_c∧∀y0 r,a1 y0=some r→clR a1_f a1_c [nI y0] (.bool r))(r:Bool)(h:m122 a0 a1=some r):evFL T 122 [.ts .imm 1 (a0.map nInt),.fn a1_f a1_c] []=some (.bool r,[]):=by
 unfold m122 at h;rw [ev fn122 rfl];obtain ⟨r3,w2,h⟩:=bcall (e135 a0 a1 a1_f a1_c a1_h) h;(try simp -implicitDefEqProofs only [go_sem] at w2);cases h;simp -implicitDefEqProofs only [go_sem,i122,c122,a1_h.1,w2]
theorem call123:CL 123 [[0]]:=evCall0 fn123 rfl rfl rfl
theorem callz123:CZ 123 [[0]] [[0]]:=evCallFz0 fn123 rfl rfl rfl
attribute [go_sem] call123 callz123
theorem e123 (a0:Int)(r:Bool)(h:m123 a0=some r):evFL T 123 [nI a0] []=some (.bool r,[]):=by
 unfold m123 at h;rw [ev fn123 rfl];obtain ⟨r3,w2,h⟩:=bcall (e119 a0) h;(try simp -implicitDefEqProofs only [go_sem] at w2);cases h;simp -implicitDefEqProofs only [go_sem,i123,c123,w2]
@[go_sem] theorem call95:CL 95 [[1]]:=evCall0 fn95 rfl rfl rfl
theorem e95_1 (a0:List Int)(o:Bool)(h:m95_1 a0=some o):evCL T 0 k95_1 (frOf 11 (upd anyF 0 (.ts .imm 1 (a0.map nInt)))) []=some (.normal,frOf 11 (upd anyF 2 (.bool o)),[]):=by
 unfold m95_1 at h
 rcases brx h with ⟨b1,h⟩|⟨b1,h⟩
 rotate_left
 obtain ⟨r4,w3,h⟩:=bcall (e122 a0 (fun y0=>m123 y0) 123 [] ⟨⟨fun S=>by simp -implicitDefEqProofs only [go_sem],fun _ _ _ _ _ _=>by simp -implicitDefEqProofs only [go_sem]⟩,fun y0 r h=>⟨fun S=>by simp -implicitDefEqProofs only [go_sem,e123 y0 r h],fun S=>by simp -implicitDefEqProofs only [go_sem,e123 y0 r h]⟩⟩) h
 try simp -implicitDefEqProofs only [go_sem] at w3
 all_goals cases h;simp -implicitDefEqProofs only [go_sem,k95_1, *]
theorem e95 (a0:List Int)(r:Bool)(h:m95 a0=some r):evFL T 95 [.ts .imm 1 (a0.map nInt)] []=some (.bool r,[]):=by
 unfold m95 at h;rw [ev fn95 rfl];obtain ⟨v7,w6,h⟩:=bcall (e95_1 a0) h;(try simp -implicitDefEqProofs only [go_sem] at w6);cases h;simp -implicitDefEqProofs only [go_sem,i95,c95,w6]
@[go_sem] theorem call96:CL 96 [[1]]:=evCall0 fn96 rfl rfl rfl
theorem e96_3 (a0:List Int)(s22:Int)(x24:Int)(p1:Int)(o:Bool)(h:m96_3 a0 s22 x24=some o):evCL T 0 k96_3 (frOf 32 (upd (upd (upd (upd (upd (upd anyF 0 (.ts .imm 1 (a0.map nInt))) 3 (nI s22)) 4 (nI x24)) 5 (.ts .imm 1 (a0.map nInt))) 6 (nI p1)) 7 (nI s22))) []=some (.normal,frOf 32 (upd (upd (upd (upd (upd anyF 0 (.ts .imm 1 (a0.map nInt))) 5 (.ts .imm 1 (a0.map nInt))) 6 (nI p1)) 7 (nI s22)) 27 (.bool o)),[]):=by
 unfold m96_3 at h;obtain ⟨r31,w30,h⟩:=bcall (e86 x24) h;try simp -implicitDefEqProofs only [go_sem] at w30
 rcases brx h with ⟨b32,h⟩|⟨b32,h⟩
 rotate_left
 try simp -implicitDefEqProofs only [go_sem,k96_3,w30,b32]
 rcases brx h with ⟨b33,h⟩|⟨b33,h⟩
 rotate_left
 obtain ⟨x34,g36,g37,g38,h⟩:=bidx nInt h;try simp -implicitDefEqProofs only [go_sem] at g37 g38
 all_goals cases h;simp -implicitDefEqProofs only [go_sem,k96_3, *]
@[go_sem] noncomputable def X96_1 (a0:List Int)(o:(Unit ⊕ Unit)):Ex×Fr×St :=
 match o with
 | .inl o=>(.exit 0,frOf 32 (upd anyF 0 (.ts .imm 1 (a0.map nInt))),[])
 | .inr o=>(.ret,frOf 32 (upd anyF 2 (.bool false)),[])
@[go_sem] noncomputable def E96_1 (a0:List Int)(p1:Int)(s:Int):Fr×St:=(frOf 32 (upd (upd (upd (upd anyF 0 (.ts .imm 1 (a0.map nInt))) 5 (.ts .imm 1 (a0.map nInt))) 6 (nI p1)) 7 (nI s)),[])
theorem e96_1 (a0:List Int)(p1:Int):LW T 0 k96_1b (m96_1b a0 p1) (E96_1 a0 p1) (X96_1 a0):=by
 refine lwk (by rintro (b | b)<;>nofun) fun s o h=>?_
 unfold m96_1b at h
 revert h
 generalize s=s22;intro h
 rcases brx h with ⟨b23,h⟩|⟨b23,h⟩
 rotate_left
 obtain ⟨x24,g26,g27,g28,h⟩:=bidx nInt h;obtain ⟨v41,w40,h⟩:=bcall (e96_3 a0 s22 x24 p1) h;(try simp -implicitDefEqProofs only [go_sem] at g27 g28);try simp -implicitDefEqProofs only [go_sem] at w40
 rcases brx h with ⟨b42,h⟩|⟨b42,h⟩
 all_goals cases h;simp -implicitDefEqProofs only [go_sem,k96_1b, *]
theorem e96 (a0:List Int)(r:Bool)(h:m96 a0=some r):evFL T 96 [.ts .imm 1 (a0.map nInt)] []=some (.bool r,[]):=by
 unfold m96 at h;rw [ev fn96 rfl];(try simp -implicitDefEqProofs only [go_sem,i96,c96]);obtain ⟨o,w44,h⟩:=bcall (e96_1 a0 (↑a0.length:Int) 0) h
 rcases o with ⟨⟩|⟨⟩
 replace h:=selS_l h;try simp -implicitDefEqProofs only [go_sem] at w44
 rotate_left
 replace h:=selS_r h;try simp -implicitDefEqProofs only [go_sem] at w44
 all_goals cases h;simp -implicitDefEqProofs only [go_sem,i96,c96,w44]
@[go_sem] theorem call59:CL 59 [[0,1,0,0,0,1]]:=evCall0 fn59 rfl rfl rfl
theorem e59_1 (a0:Attrs)(o:Bool)(h:m59_1 a0=some o):evCL T 0 k59_1 (frOf 31 (upd anyF 1 (.ptr 0 0 0))) [some ⟨.box,6,[(nAtt .imm a0)]⟩]=some (.normal,frOf 31 (upd anyF 2 (.bool o)),[]):=by
 unfold m59_1 at h;obtain ⟨r3,w2,h⟩:=bcall (e87 a0.origin 0 2) h;try simp -implicitDefEqProofs only [go_sem] at w2
 rcases brx h with ⟨b4,h⟩|⟨b4,h⟩
 rotate_left
 obtain ⟨r7,w6,h⟩:=bcall (e95 a0.path) h;try simp -implicitDefEqProofs only [go_sem] at w6
 rcases brx h with ⟨b8,h⟩|⟨b8,h⟩
 rotate_left
 obtain ⟨r11,w10,h⟩:=bcall (e93 a0.next) h;try simp -implicitDefEqProofs only [go_sem] at w10
 rcases brx h with ⟨b12,h⟩|⟨b12,h⟩
 rotate_left
 obtain ⟨r15,w14,h⟩:=bcall (e86 a0.med) h;try simp -implicitDefEqProofs only [go_sem] at w14
 rcases brx h with ⟨b16,h⟩|⟨b16,h⟩
 rotate_left
 obtain ⟨r19,w18,h⟩:=bcall (e86 a0.pref) h;try simp -implicitDefEqProofs only [go_sem] at w18
 rcases brx h with ⟨b20,h⟩|⟨b20,h⟩
 rotate_left
 obtain ⟨r23,w22,h⟩:=bcall (e96 a0.comms) h;try simp -implicitDefEqProofs only [go_sem] at w22
 all_goals cases h;simp -implicitDefEqProofs only [go_sem,k59_1, *]
theorem e59 (a0:Attrs)(r:Bool)(h:m59 a0=some r):evFL T 59 [.agg (nAtt .imm a0)] []=some (.bool r,[]):=by
 unfold m59 at h;rw [ev fn59 rfl];obtain ⟨v26,w25,h⟩:=bcall (e59_1 a0) h;(try simp -implicitDefEqProofs only [go_sem] at w25);cases h;simp -implicitDefEqProofs only [go_sem,i59,c59,w25]
@[go_sem] theorem call33:CL 33 [[0,0,0,1,0,0,0,1]]:=evCall0 fn33 rfl rfl rfl
theorem e33_1 (a0:Route)(o:Bool)(h:m33_1 a0=some o):evCL T 0 k33_1 (frOf 11 (upd anyF 1 (.ptr 0 0 0))) [some ⟨.box,8,[(nRou .imm a0)]⟩]=some (.normal,frOf 11 (upd anyF 2 (.bool o)),[]):=by
 unfold m33_1 at h;obtain ⟨r3,w2,h⟩:=bcall (e58 a0.prefix_) h;try simp -implicitDefEqProofs only [go_sem] at w2
 rcases brx h with ⟨b4,h⟩|⟨b4,h⟩
 rotate_left
 obtain ⟨r7,w6,h⟩:=bcall (e59 a0.attrs) h;try simp -implicitDefEqProofs only [go_sem] at w6
 all_goals cases h;simp -implicitDefEqProofs only [go_sem,k33_1, *]
theorem e33 (a0:Route)(r:Bool)(h:m33 a0=some r):evFL T 33 [.agg (nRou .imm a0)] []=some (.bool r,[]):=by
 unfold m33 at h;rw [ev fn33 rfl];obtain ⟨v10,w9,h⟩:=bcall (e33_1 a0) h;(try simp -implicitDefEqProofs only [go_sem] at w9);cases h;simp -implicitDefEqProofs only [go_sem,i33,c33,w9]
theorem call42:CL 42 [[0,0,0,1,0,0,0,1]]:=evCall0 fn42 rfl rfl rfl
theorem callz42:CZ 42 [[0]] [[0,0,0,1,0,0,0,1]]:=evCallFz0 fn42 rfl rfl rfl
attribute [go_sem] call42 callz42
theorem e42 (a0:Route)(r:Bool)(h:m42 a0=some r):evFL T 42 [.agg [nI a0.prefix_.addr,nI a0.prefix_.len,nI a0.attrs.origin,.ts .imm 1 (a0.attrs.path.map nInt),nI a0.attrs.next,nI a0.attrs.med,nI a0.attrs.pref,.ts .imm 1 (a0.attrs.comms.map nInt)]] []=some (.bool r,[]):=by
 unfold m42 at h;rw [ev fn42 rfl];obtain ⟨r3,w2,h⟩:=bcall (e33 a0) h;(try simp -implicitDefEqProofs only [go_sem] at w2);cases h;simp -implicitDefEqProofs only [go_sem,i42,c42,w2]
@[go_sem] theorem call124:CL 124 [[1]]:=evCall0 fn124 rfl rfl rfl
theorem e124 (a0:List Int)(r:List Int)(h:m124 a0=some r):evFL T 124 [.ts .imm 1 (a0.map nInt)] []=some (.sl 0 0 r.length,[some ⟨.arr,1,r.map nInt⟩]):=by
 unfold m124 at h;rw [ev fn124 rfl]
 cases a0 with
 | nil =>
     obtain ⟨g1,h⟩:=ck_some h;(try simp -implicitDefEqProofs only [go_sem] at g1);cases h;simp -implicitDefEqProofs only [go_sem,i124,c124,g1]
 | cons y ys =>
     obtain ⟨g1,h⟩:=ck_some h;(try simp -implicitDefEqProofs only [go_sem] at g1);cases h;simp -implicitDefEqProofs only [go_sem,i124,c124,g1]
@[go_sem] theorem call97:CL 97 [[0,1,0,0,0,1]]:=evCall0 fn97 rfl rfl rfl
theorem e97 (a0:Attrs)(r:Attrs)(h:m97 a0=some r):evFL T 97 [.agg (nAtt .imm a0)] []=some (.agg [nI r.origin,.sl 0 0 r.path.length,nI r.next,nI r.med,nI r.pref,.sl 1 0 r.comms.length],[some ⟨.arr,1,r.path.map nInt⟩,some ⟨.arr,1,r.comms.map nInt⟩]):=by
 unfold m97 at h;rw [ev fn97 rfl];obtain ⟨r3,w2,h⟩:=bcall (e124 a0.path) h;obtain ⟨r6,w5,h⟩:=bcall (e124 a0.comms) h;(try simp -implicitDefEqProofs only [go_sem] at w2 w5);cases h;simp -implicitDefEqProofs only [go_sem,i97,c97,w2,w5]
@[go_sem] theorem call60:CL 60 [[0,0,0,1,0,0,0,1]]:=evCall0 fn60 rfl rfl rfl
theorem e60 (a0:Route)(r:Route)(h:m60 a0=some r):evFL T 60 [.agg (nRou .imm a0)] []=some (.agg [nI r.prefix_.addr,nI r.prefix_.len,nI r.attrs.origin,.sl 0 0 r.attrs.path.length,nI r.attrs.next,nI r.attrs.med,nI r.attrs.pref,.sl 1 0 r.attrs.comms.length],[some ⟨.arr,1,r.attrs.path.map nInt⟩,some ⟨.arr,1,r.attrs.comms.map nInt⟩]):=by
 unfold m60 at h;rw [ev fn60 rfl];obtain ⟨r3,w2,h⟩:=bcall (e97 a0.attrs) h;(try simp -implicitDefEqProofs only [go_sem] at w2);cases h;simp -implicitDefEqProofs only [go_sem,i60,c60,w2]
@[go_sem] theorem call130:CL 130 [[1],[0]]:=evCall0 fn130 rfl rfl rfl
@[go_sem] noncomputable def X130_1 (o:(Unit ⊕ Int)):Ex×Fr×St :=
 match o with
 | .inl o=>(.exit 0,frOf 19 (anyF),[])
 | .inr o=>(.ret,frOf 19 (upd anyF 4 (nI o)),[])
@[go_sem] noncomputable def E130_1 (a0:List Int)(a1:Int)(p1:Int)(s:Int):Fr×St:=(frOf 19 (upd (upd (upd (upd anyF 0 (.ts .imm 1 (a0.map nInt))) 1 (nI a1)) 7 (nI p1)) 8 (nI s)),[])
theorem e130_1 (a0:List Int)(a1:Int)(p1:Int):LW T 0 k130_1b (m130_1b a0 a1 p1) (E130_1 a0 a1 p1) X130_1:=by
 refine lwk (by rintro (b | b)<;>nofun) fun s o h=>?_
 unfold m130_1b at h
 revert h
 generalize s=s9;intro h
 rcases brx h with ⟨b10,h⟩|⟨b10,h⟩
 rotate_left
 obtain ⟨x11,g13,g14,g15,h⟩:=bidx nInt h;try simp -implicitDefEqProofs only [go_sem] at g14 g15
 rcases brx h with ⟨b16,h⟩|⟨b16,h⟩
 all_goals cases h;simp -implicitDefEqProofs only [go_sem,k130_1b, *]
theorem e130 (a0:List Int)(a1:Int)(r:Int)(h:m130 a0 a1=some r):evFL T 130 [.ts .imm 1 (a0.map nInt),nI a1] []=some (nI r,[]):=by
 unfold m130 at h;rw [ev fn130 rfl];(try simp -implicitDefEqProofs only [go_sem,i130,c130]);obtain ⟨o,w18,h⟩:=bcall (e130_1 a0 a1 (↑a0.length:Int) 0) h
 rcases o with ⟨⟩|v19
 replace h:=selS_l h;try simp -implicitDefEqProofs only [go_sem] at w18
 rotate_left
 replace h:=selS_r h;try simp -implicitDefEqProofs only [go_sem] at w18
 all_goals cases h;simp -implicitDefEqProofs only [go_sem,i130,c130,w18]
@[go_sem] theorem call101:CL 101 [[1],[0]]:=evCall0 fn101 rfl rfl rfl
theorem e101 (a0:List Int)(a1:Int)(r:Bool)(h:m101 a0 a1=some r):evFL T 101 [.ts .imm 1 (a0.map nInt),nI a1] []=some (.bool r,[]):=by
 unfold m101 at h;rw [ev fn101 rfl];obtain ⟨r3,w2,h⟩:=bcall (e130 a0 a1) h;(try simp -implicitDefEqProofs only [go_sem] at w2);cases h;simp -implicitDefEqProofs only [go_sem,i101,c101,w2]
@[go_sem] theorem call126 (args:List AV)(S:St):evCall T (evFL T) 126 args S=treeC false (evFL T 126) S args (lendAll S [[2]] args):=evCallT fn126 rfl rfl rfl args S
@[go_sem] noncomputable def X126_1 (x1:ReCell)(o:(List ReCell×List pattern)):Ex×Fr×St :=
 (.exit 0,frOf 41 (upd (upd anyF 4 (.ptr 0 0 0)) 5 (.ts .imm 2 (o.1.map nReC))),[some ⟨.box,3,[[nI x1.kind,nI x1.n,.sl 1 0 o.2.length]]⟩,some ⟨.arr,1,o.2.map (nPpa .imm)⟩])
@[go_sem] noncomputable def E126_1 (r9:Int)(x1:ReCell)(s:(List ReCell×Int×List pattern)):Fr×St:=(frOf 41 (upd (upd (upd (upd anyF 4 (.ptr 0 0 0)) 5 (.ts .imm 2 (s.1.map nReC))) 19 (nI r9)) 20 (nI s.2.1)),[some ⟨.box,3,[[nI x1.kind,nI x1.n,.sl 1 0 s.2.2.length]]⟩,some ⟨.arr,1,s.2.2.map (nPpa .imm)⟩])
theorem e126_1 (rc:(List ReCell)→Option (pattern×(List ReCell)))(hrc:∀(a0:List ReCell) (r:(pattern×(List ReCell))),rc a0=some r→evFL T 126 [.ts .imm 2 (a0.map nReC)] []=some (.tup [.tp .imm 3 [npat .imm r.1] 0 0,.ts .imm 2 (r.2.map nReC)],[]))(r9:Int)(x1:ReCell):LW T 0 k126_1b (m126_1b rc r9) (E126_1 r9 x1) (X126_1 x1):=by
 refine lwk nofun fun s o h=>?_
 unfold m126_1b at h;obtain ⟨s16,s17,s18⟩:=s;replace h:=sel3_some h
 rcases brx h with ⟨b19,h⟩|⟨b19,h⟩
 rotate_left
 obtain ⟨⟨r22,r23⟩,w21,h⟩:=bcall (hrc s16) h;replace h:=sel2_some h;(try simp -implicitDefEqProofs only [go_sem] at w21);obtain ⟨g24,h⟩:=ck_some h;try simp -implicitDefEqProofs only [go_sem] at g24
 all_goals cases h;simp -implicitDefEqProofs only [go_sem,k126_1b, *]
theorem e126r (rc:(List ReCell)→Option (pattern×(List ReCell)))(hrc:∀(a0:List ReCell) (r:(pattern×(List ReCell))),rc a0=some r→evFL T 126 [.ts .imm 2 (a0.map nReC)] []=some (.tup [.tp .imm 3 [npat .imm r.1] 0 0,.ts .imm 2 (r.2.map nReC)],[]))(a0:List ReCell)(r:(pattern×(List ReCell)))(h:m126r rc a0=some r):evFL T 126 [.ts .imm 2 (a0.map nReC)] []=some (.tup [.tp .imm 3 [npat .imm r.1] 0 0,.ts .imm 2 (r.2.map nReC)],[]):=by
 unfold m126r at h;rw [ev fn126 rfl];obtain ⟨x1,g3,g4,g5,h⟩:=bidx nReC h;(try simp -implicitDefEqProofs only [go_sem] at g4 g5);obtain ⟨g6,h⟩:=ck_some h;obtain ⟨r9,w8,h⟩:=bcall (e140 x1.kind) h;obtain ⟨⟨v27,v28⟩,w26,h⟩:=bcall (e126_1 rc hrc r9 x1 (a0.drop 1,0,[])) h;replace h:=sel2_some h;(try simp -implicitDefEqProofs only [go_sem] at g6 w8);(try simp -implicitDefEqProofs only [go_sem] at w26);cases h;simp -implicitDefEqProofs only [go_sem,i126,c126,g3,g4,g5,g6,w8,w26]
theorem e126k:∀(k:Nat) (a0:List ReCell) (r:(pattern×(List ReCell))) (h:m126k k a0=some r),evFL T 126 [.ts .imm 2 (a0.map nReC)] []=some (.tup [.tp .imm 3 [npat .imm r.1] 0 0,.ts .imm 2 (r.2.map nReC)],[]):=by
 intro k
 induction k with
 | zero=>intro a0 r h;cases h
 | succ k ih=>intro a0 r h;exact e126r (m126k k) (fun a0 r h=>ih a0 r h) a0 r h
theorem e126 (a0:List ReCell)(r:(pattern×(List ReCell)))(h:m126 a0=some r):evFL T 126 [.ts .imm 2 (a0.map nReC)] []=some (.tup [.tp .imm 3 [npat .imm r.1] 0 0,.ts .imm 2 (r.2.map nReC)],[]):=by
 obtain ⟨N,hN⟩:=limO_iff.1 h;exact e126k N a0 r (hN N (Nat.le_refl N))
@[go_sem] theorem call143 (args:List AV)(S:St):evCall T (evFL T) 143 args S=treeC false (evFL T 143) S args (lendAll S [[0],[1]] args):=evCallT fn143 rfl rfl rfl args S
theorem e143 (a0:Int)(a1:List pattern)(r:pattern)(h:m143 a0 a1=some r):evFL T 143 [nI a0,.ts .imm 1 (a1.map (nPpa .imm))] []=some (.tp .imm 3 [npat .imm r] 0 0,[]):=by
 unfold m143 at h;rw [ev fn143 rfl];cases h;simp -implicitDefEqProofs only [go_sem,i143,c143]
@[go_sem] theorem call129:CL 129 [[0]]:=evCall0 fn129 rfl rfl rfl
theorem e129_1 (rc:pattern→Option Bool)(hrc:∀(a0:pattern) (r:Bool),rc a0=some r→evFL T 129 [.tp .imm 3 [npat .imm a0] 0 0] []=some (.bool r,[]))(a0:pattern)(p1:Bool)(o:Bool)(h:m129_1 rc a0 p1=some o):evCL T 0 k129_1 (frOf 47 (upd (upd (upd anyF 0 (.tp .imm 3 [npat .imm a0] 0 0)) 7 (nI a0.cell.kind)) 8 (.bool p1))) []=some (.normal,frOf 47 (upd (upd (upd anyF 0 (.tp .imm 3 [npat .imm a0] 0 0)) 7 (nI a0.cell.kind)) 8 (.bool o)),[]):=by
 unfold m129_1 at h
 rcases brx h with ⟨b2,h⟩|⟨b2,h⟩
 all_goals cases h;simp -implicitDefEqProofs only [go_sem,k129_1,b2]
theorem e129_2 (rc:pattern→Option Bool)(hrc:∀(a0:pattern) (r:Bool),rc a0=some r→evFL T 129 [.tp .imm 3 [npat .imm a0] 0 0] []=some (.bool r,[]))(a0:pattern)(o:Bool)(h:m129_2 rc a0=some o):evCL T 0 k129_2 (frOf 47 (upd anyF 0 (.tp .imm 3 [npat .imm a0] 0 0))) []=some (.normal,frOf 47 (upd anyF 2 (.bool o)),[]):=by
 unfold m129_2 at h;obtain ⟨x8,g10,g11,g12,h⟩:=bidx (nPpa .imm) h;obtain ⟨r15,w14,h⟩:=bcall (hrc x8) h;try simp -implicitDefEqProofs only [go_sem] at g11 g12 w14
 rcases brx h with ⟨b16,h⟩|⟨b16,h⟩
 rotate_left
 obtain ⟨x17,g19,g20,g21,h⟩:=bidx (nPpa .imm) h;obtain ⟨r24,w23,h⟩:=bcall (hrc x17) h;try simp -implicitDefEqProofs only [go_sem] at g20 g21 w23
 all_goals cases h;simp -implicitDefEqProofs only [go_sem,k129_2, *]
theorem e129_3 (rc:pattern→Option Bool)(hrc:∀(a0:pattern) (r:Bool),rc a0=some r→evFL T 129 [.tp .imm 3 [npat .imm a0] 0 0] []=some (.bool r,[]))(a0:pattern)(o:Bool)(h:m129_3 rc a0=some o):evCL T 0 k129_3 (frOf 47 (upd anyF 0 (.tp .imm 3 [npat .imm a0] 0 0))) []=some (.normal,frOf 47 (upd anyF 2 (.bool o)),[]):=by
 unfold m129_3 at h;obtain ⟨x29,g31,g32,g33,h⟩:=bidx (nPpa .imm) h;obtain ⟨r36,w35,h⟩:=bcall (hrc x29) h;try simp -implicitDefEqProofs only [go_sem] at g32 g33 w35
 rcases brx h with ⟨b37,h⟩|⟨b37,h⟩
 obtain ⟨x38,g40,g41,g42,h⟩:=bidx (nPpa .imm) h;obtain ⟨r45,w44,h⟩:=bcall (hrc x38) h;try simp -implicitDefEqProofs only [go_sem] at g41 g42 w44
 all_goals cases h;simp -implicitDefEqProofs only [go_sem,k129_3, *]
theorem e129r (rc:pattern→Option Bool)(hrc:∀(a0:pattern) (r:Bool),rc a0=some r→evFL T 129 [.tp .imm 3 [npat .imm a0] 0 0] []=some (.bool r,[]))(a0:pattern)(r:Bool)(h:m129r rc a0=some r):evFL T 129 [.tp .imm 3 [npat .imm a0] 0 0] []=some (.bool r,[]):=by
 unfold m129r at h;rw [ev fn129 rfl];obtain ⟨v5,w4,h⟩:=bcall (e129_1 rc hrc a0 (eqI a0.cell.kind 2)) h;try simp -implicitDefEqProofs only [go_sem] at w4
 rcases brx h with ⟨b6,h⟩|⟨b6,h⟩
 try simp -implicitDefEqProofs only [go_sem,i129,c129,w4,b6]
 rcases brx h with ⟨b7,h⟩|⟨b7,h⟩
 try simp -implicitDefEqProofs only [go_sem,i129,c129,w4,b6,b7]
 rcases brx h with ⟨b28,h⟩|⟨b28,h⟩
 rotate_left
 obtain ⟨v48,w47,h⟩:=bcall (e129_3 rc hrc a0) h;try simp -implicitDefEqProofs only [go_sem] at w47
 rotate_left
 obtain ⟨v27,w26,h⟩:=bcall (e129_2 rc hrc a0) h;try simp -implicitDefEqProofs only [go_sem] at w26
 all_goals cases h;simp -implicitDefEqProofs only [go_sem,i129,c129, *]
theorem e129k:∀(k:Nat) (a0:pattern) (r:Bool) (h:m129k k a0=some r),evFL T 129 [.tp .imm 3 [npat .imm a0] 0 0] []=some (.bool r,[]):=by
 intro k
 induction k with
 | zero=>intro a0 r h;cases h
 | succ k ih=>intro a0 r h;exact e129r (m129k k) (fun a0 r h=>ih a0 r h) a0 r h
theorem e129 (a0:pattern)(r:Bool)(h:m129 a0=some r):evFL T 129 [.tp .imm 3 [npat .imm a0] 0 0] []=some (.bool r,[]):=by
 obtain ⟨N,hN⟩:=limO_iff.1 h;exact e129k N a0 r (hN N (Nat.le_refl N))
@[go_sem] theorem call127 (args:List AV)(S:St):evCall T (evFL T) 127 args S=treeC false (evFL T 127) S args (lendAll S [[0],[0]] args):=evCallT fn127 rfl rfl rfl args S
@[go_sem] noncomputable def X127_1 (o:(Unit ⊕ pattern)):Ex×Fr×St :=
 match o with
 | .inl o=>(.normal,frOf 95 (anyF),[])
 | .inr o=>(.ret,frOf 95 (upd anyF 4 (.tp .imm 3 [npat .imm o] 0 0)),[])
theorem e127_1 (rc:pattern→Int→Option pattern)(hrc:∀(a0:pattern) (a1:Int) (r:pattern),rc a0 a1=some r→evFL T 127 [.tp .imm 3 [npat .imm a0] 0 0,nI a1] []=some (.tp .imm 3 [npat .imm r] 0 0,[]))(a0:pattern)(a1:Int)(p5:Bool)(o:(Unit ⊕ pattern))(h:m127_1 rc a0 a1 p5=some o):evCL T 0 k127_1 (frOf 95 (upd (upd (upd (upd anyF 0 (.tp .imm 3 [npat .imm a0] 0 0)) 1 (nI a1)) 10 (nI a0.cell.kind)) 14 (.bool p5))) []=some (X127_1 o):=by
 unfold m127_1 at h
 rcases brx h with ⟨b6,h⟩|⟨b6,h⟩
 try simp -implicitDefEqProofs only [go_sem,k127_1,b6]
 rcases brx h with ⟨b11,h⟩|⟨b11,h⟩
 try simp -implicitDefEqProofs only [go_sem,k127_1,b6,b11]
 rcases brx h with ⟨b31,h⟩|⟨b31,h⟩
 try simp -implicitDefEqProofs only [go_sem,k127_1,b6,b11,b31]
 rcases brx h with ⟨b43,h⟩|⟨b43,h⟩
 rotate_left
 obtain ⟨x44,g46,g47,g48,h⟩:=bidx (nPpa .imm) h;obtain ⟨r51,w50,h⟩:=bcall (hrc x44 a1) h;obtain ⟨x52,g54,g55,g56,h⟩:=bidx (nPpa .imm) h;obtain ⟨r59,w58,h⟩:=bcall (e143 5 [r51,x52]) h;obtain ⟨r62,w61,h⟩:=bcall (e129 x44) h;try simp -implicitDefEqProofs only [go_sem] at g47 g48 w50 g55 g56 w58 w61
 rcases brx h with ⟨b63,h⟩|⟨b63,h⟩
 rotate_left
 obtain ⟨r66,w65,h⟩:=bcall (hrc x52 a1) h;obtain ⟨r69,w68,h⟩:=bcall (e143 6 [r59,r66]) h;try simp -implicitDefEqProofs only [go_sem] at w65 w68
 rotate_left
 obtain ⟨x32,g34,g35,g36,h⟩:=bidx (nPpa .imm) h;obtain ⟨r39,w38,h⟩:=bcall (hrc x32 a1) h;obtain ⟨r42,w41,h⟩:=bcall (e143 5 [r39,a0]) h;try simp -implicitDefEqProofs only [go_sem] at g35 g36 w38 w41
 rotate_left
 obtain ⟨x12,g14,g15,g16,h⟩:=bidx (nPpa .imm) h;obtain ⟨r19,w18,h⟩:=bcall (hrc x12 a1) h;obtain ⟨x20,g22,g23,g24,h⟩:=bidx (nPpa .imm) h;obtain ⟨r27,w26,h⟩:=bcall (hrc x20 a1) h;obtain ⟨r30,w29,h⟩:=bcall (e143 6 [r19,r27]) h;try simp -implicitDefEqProofs only [go_sem] at g15 g16 w18 g23 g24 w26 w29
 rotate_left
 try simp -implicitDefEqProofs only [go_sem,k127_1,b6]
 rcases brx h with ⟨b7,h⟩|⟨b7,h⟩
 rotate_left
 obtain ⟨r10,w9,h⟩:=bcall (e143 2 []) h;try simp -implicitDefEqProofs only [go_sem] at w9
 all_goals cases h;simp -implicitDefEqProofs only [go_sem,k127_1, *]
theorem e127r (rc:pattern→Int→Option pattern)(hrc:∀(a0:pattern) (a1:Int) (r:pattern),rc a0 a1=some r→evFL T 127 [.tp .imm 3 [npat .imm a0] 0 0,nI a1] []=some (.tp .imm 3 [npat .imm r] 0 0,[]))(a0:pattern)(a1:Int)(r:pattern)(h:m127r rc a0 a1=some r):evFL T 127 [.tp .imm 3 [npat .imm a0] 0 0,nI a1] []=some (.tp .imm 3 [npat .imm r] 0 0,[]):=by
 unfold m127r at h;rw [ev fn127 rfl]
 rcases brx h with ⟨b1,h⟩|⟨b1,h⟩
 (try simp -implicitDefEqProofs only [go_sem,i127,c127,b1]);obtain ⟨o,w71,h⟩:=bcall (e127_1 rc hrc a0 a1 (eqI a0.cell.kind 3)) h
 rcases o with ⟨⟩|v75
 replace h:=selS_l h;simp -implicitDefEqProofs only [go_sem] at w71;obtain ⟨r74,w73,h⟩:=bcall (e143 1 []) h;try simp -implicitDefEqProofs only [go_sem] at w71 w73
 rotate_left
 replace h:=selS_r h;try simp -implicitDefEqProofs only [go_sem] at w71
 rotate_left
 obtain ⟨r4,w3,h⟩:=bcall (e143 2 []) h;try simp -implicitDefEqProofs only [go_sem] at w3
 all_goals cases h;simp -implicitDefEqProofs only [go_sem,i127,c127, *]
theorem e127k:∀(k:Nat) (a0:pattern) (a1:Int) (r:pattern) (h:m127k k a0 a1=some r),evFL T 127 [.tp .imm 3 [npat .imm a0] 0 0,nI a1] []=some (.tp .imm 3 [npat .imm r] 0 0,[]):=by
 intro k
 induction k with
 | zero=>intro a0 a1 r h;cases h
 | succ k ih=>intro a0 a1 r h;exact e127r (m127k k) (fun a0 a1 r h=>ih a0 a1 r h) a0 a1 r h
theorem e127 (a0:pattern)(a1:Int)(r:pattern)(h:m127 a0 a1=some r):evFL T 127 [.tp .imm 3 [npat .imm a0] 0 0,nI a1] []=some (.tp .imm 3 [npat .imm r] 0 0,[]):=by
 obtain ⟨N,hN⟩:=limO_iff.1 h;exact e127k N a0 a1 r (hN N (Nat.le_refl N))
theorem call144:CL 144 [[0],[0],[0]]:=evCall0 fn144 rfl rfl rfl
theorem callz144:CZ 144 [[0]] [[0],[0],[0]]:=evCallFz0 fn144 rfl rfl rfl
attribute [go_sem] call144 callz144
theorem e144 (a0:Int)(a1:Int)(a2:pattern)(r:Bool)(h:m144 a0 a1 a2=some r):evFL T 144 [nI a0,nI a1,.tp .imm 1 [[.tp .imm 3 [npat .imm a2] 0 0]] 0 0] []=some (.bool r,[]):=by
 unfold m144 at h;rw [ev fn144 rfl];obtain ⟨x1,g3,g4,g5,h⟩:=bidx (nPpa .imm) h;(try simp -implicitDefEqProofs only [go_sem] at g4 g5);cases h;simp -implicitDefEqProofs only [go_sem,i144,c144,g3,g4,g5]
theorem call146:CL 146 [[0]]:=evCall0 fn146 rfl rfl rfl
theorem callz146:CZ 146 [[2]] [[0]]:=evCallFz0 fn146 rfl rfl rfl
attribute [go_sem] call146 callz146
@[go_sem] noncomputable def X146_1 (o:List ReCell):Ex×Fr×St :=
 (.exit 0,frOf 26 (upd anyF 3 (.sl 0 0 o.length)),[some ⟨.arr,2,o.map nReC⟩])
@[go_sem] noncomputable def E146_1 (a0:pattern)(p1:Int)(s:(Int×List ReCell)):Fr×St:=(frOf 26 (upd (upd (upd (upd anyF 3 (.sl 0 0 s.2.length)) 14 (.ts .imm 1 (a0.parts.map (nPpa .imm)))) 15 (nI p1)) 16 (nI s.1)),[some ⟨.arr,2,s.2.map nReC⟩])
theorem e146_1 (rc:pattern→Option (List ReCell))(hrc:∀(a0:pattern) (r:List ReCell),rc a0=some r→evFL T 146 [.tp .imm 3 [npat .imm a0] 0 0] []=some (.sl 0 0 r.length,[some ⟨.arr,2,r.map nReC⟩]))(a0:pattern)(p1:Int):LW T 0 k146_1b (m146_1b rc a0 p1) (E146_1 a0 p1) X146_1:=by
 refine lwk nofun fun s o h=>?_
 unfold m146_1b at h;obtain ⟨s13,s14⟩:=s;replace h:=sel2_some h
 rcases brx h with ⟨b15,h⟩|⟨b15,h⟩
 rotate_left
 obtain ⟨x16,g18,g19,g20,h⟩:=bidx (nPpa .imm) h;obtain ⟨r23,w22,h⟩:=bcall (hrc x16) h;(try simp -implicitDefEqProofs only [go_sem] at g19 g20 w22);obtain ⟨g24,h⟩:=ck_some h;try simp -implicitDefEqProofs only [go_sem] at g24
 all_goals cases h;simp -implicitDefEqProofs only [go_sem,k146_1b, *]
theorem e146r (rc:pattern→Option (List ReCell))(hrc:∀(a0:pattern) (r:List ReCell),rc a0=some r→evFL T 146 [.tp .imm 3 [npat .imm a0] 0 0] []=some (.sl 0 0 r.length,[some ⟨.arr,2,r.map nReC⟩]))(a0:pattern)(r:List ReCell)(h:m146r rc a0=some r):evFL T 146 [.tp .imm 3 [npat .imm a0] 0 0] []=some (.sl 0 0 r.length,[some ⟨.arr,2,r.map nReC⟩]):=by
 unfold m146r at h;rw [ev fn146 rfl];obtain ⟨v27,w26,h⟩:=bcall (e146_1 rc hrc a0 (↑a0.parts.length:Int) (0,[a0.cell])) h;(try simp -implicitDefEqProofs only [go_sem] at w26);cases h;simp -implicitDefEqProofs only [go_sem,i146,c146,w26]
theorem e146k:∀(k:Nat) (a0:pattern) (r:List ReCell) (h:m146k k a0=some r),evFL T 146 [.tp .imm 3 [npat .imm a0] 0 0] []=some (.sl 0 0 r.length,[some ⟨.arr,2,r.map nReC⟩]):=by
 intro k
 induction k with
 | zero=>intro a0 r h;cases h
 | succ k ih=>intro a0 r h;exact e146r (m146k k) (fun a0 r h=>ih a0 r h) a0 r h
theorem e146 (a0:pattern)(r:List ReCell)(h:m146 a0=some r):evFL T 146 [.tp .imm 3 [npat .imm a0] 0 0] []=some (.sl 0 0 r.length,[some ⟨.arr,2,r.map nReC⟩]):=by
 obtain ⟨N,hN⟩:=limO_iff.1 h;exact e146k N a0 r (hN N (Nat.le_refl N))
@[go_sem] theorem callz145:CZ 145 [[0]] [[2],[2]]:=evCallFz0 fn145 rfl rfl rfl
@[go_sem] noncomputable def X145_1 (o:(Unit ⊕ Unit)):Ex×Fr×St :=
 match o with
 | .inl o=>(.exit 0,frOf 26 (anyF),[])
 | .inr o=>(.ret,frOf 26 (upd anyF 4 (.bool false)),[])
@[go_sem] noncomputable def E145_1 (a0:List ReCell)(a1:List ReCell)(p2:Int)(s:Int):Fr×St:=(frOf 26 (upd (upd (upd (upd anyF 0 (.ts .imm 2 (a0.map nReC))) 1 (.ts .imm 2 (a1.map nReC))) 12 (nI p2)) 13 (nI s)),[])
theorem e145_1 (a0:List ReCell)(a1:List ReCell)(p2:Int):LW T 0 k145_1b (m145_1b a0 a1 p2) (E145_1 a0 a1 p2) X145_1:=by
 refine lwk (by rintro (b | b)<;>nofun) fun s o h=>?_
 unfold m145_1b at h
 revert h
 generalize s=s15;intro h
 rcases brx h with ⟨b16,h⟩|⟨b16,h⟩
 rotate_left
 obtain ⟨x17,g19,g20,g21,h⟩:=bidx nReC h;obtain ⟨x22,g24,g25,g26,h⟩:=bidx nReC h;try simp -implicitDefEqProofs only [go_sem] at g20 g21 g25 g26
 rcases brx h with ⟨b27,h⟩|⟨b27,h⟩
 all_goals cases h;simp -implicitDefEqProofs only [go_sem,k145_1b, *]
theorem e145 (a0:List ReCell)(a1:List ReCell)(r:Bool)(h:m145 a0 a1=some r):evFL T 145 [.ts .imm 2 (a0.map nReC),.ts .imm 2 (a1.map nReC)] []=some (.bool r,[]):=by
 unfold m145 at h;rw [ev fn145 rfl]
 rcases brx h with ⟨b1,h⟩|⟨b1,h⟩
 rotate_left
 (try simp -implicitDefEqProofs only [go_sem,i145,c145,b1]);obtain ⟨o,w29,h⟩:=bcall (e145_1 a0 a1 (↑a0.length:Int) 0) h
 rcases o with ⟨⟩|⟨⟩
 replace h:=selS_l h;try simp -implicitDefEqProofs only [go_sem] at w29
 rotate_left
 replace h:=selS_r h;try simp -implicitDefEqProofs only [go_sem] at w29
 all_goals cases h;simp -implicitDefEqProofs only [go_sem,i145,c145, *]
@[go_sem] theorem call128 (args:List AV)(S:St):evCall T (evFL T) 128 args S=treeC false (evFL T 128) S args (lendAll S [[0]] args):=evCallT fn128 rfl rfl rfl args S
@[go_sem] noncomputable def X128_1 (a0:pattern)(o:List pattern):Ex×Fr×St :=
 (.exit 0,frOf 125 (upd (upd anyF 0 (.tp .imm 3 [npat .imm a0] 0 0)) 3 (.ptr 0 0 0)),[some ⟨.box,1,[[.ptr 1 0 0]]⟩,some ⟨.box,3,[[nI a0.cell.kind,nI a0.cell.n,.sl 2 0 o.length]]⟩,some ⟨.arr,1,o.map (nPpa .imm)⟩])
@[go_sem] noncomputable def E128_1 (a0:pattern)(p1:Int)(s:(Int×List pattern)):Fr×St:=(frOf 125 (upd (upd (upd (upd (upd anyF 0 (.tp .imm 3 [npat .imm a0] 0 0)) 3 (.ptr 0 0 0)) 16 (.ts .imm 1 (a0.parts.map (nPpa .imm)))) 17 (nI p1)) 18 (nI s.1)),[some ⟨.box,1,[[.ptr 1 0 0]]⟩,some ⟨.box,3,[[nI a0.cell.kind,nI a0.cell.n,.sl 2 0 s.2.length]]⟩,some ⟨.arr,1,s.2.map (nPpa .imm)⟩])
theorem e128_1 (rc:pattern→Option pattern)(hrc:∀(a0:pattern) (r:pattern),rc a0=some r→evFL T 128 [.tp .imm 3 [npat .imm a0] 0 0] []=some (.tp .imm 3 [npat .imm r] 0 0,[]))(a0:pattern)(p1:Int):LW T 0 k128_1b (m128_1b rc a0 p1) (E128_1 a0 p1) (X128_1 a0):=by
 refine lwk nofun fun s o h=>?_
 unfold m128_1b at h;obtain ⟨s11,s12⟩:=s;replace h:=sel2_some h
 rcases brx h with ⟨b13,h⟩|⟨b13,h⟩
 rotate_left
 obtain ⟨x14,g16,g17,g18,h⟩:=bidx (nPpa .imm) h;obtain ⟨r21,w20,h⟩:=bcall (hrc x14) h;(try simp -implicitDefEqProofs only [go_sem] at g17 g18 w20);obtain ⟨g22,h⟩:=ck_some h;try simp -implicitDefEqProofs only [go_sem] at g22
 all_goals cases h;simp -implicitDefEqProofs only [go_sem,k128_1b, *]
theorem e128_3 (rc:pattern→Option pattern)(hrc:∀(a0:pattern) (r:pattern),rc a0=some r→evFL T 128 [.tp .imm 3 [npat .imm a0] 0 0] []=some (.tp .imm 3 [npat .imm r] 0 0,[]))(p27:pattern)(o:Bool)(h:m128_3 rc p27=some o):evCL T 0 k128_3 (frOf 125 (upd (upd anyF 3 (.ptr 0 0 0)) 6 (.fn 144 [.ptr 0 0 0]))) [some ⟨.box,1,[[.tp .imm 3 [npat .imm p27] 0 0]]⟩]=some (.normal,frOf 125 (upd (upd (upd anyF 3 (.ptr 0 0 0)) 6 (.fn 144 [.ptr 0 0 0])) 42 (.bool o)),[some ⟨.box,1,[[.tp .imm 3 [npat .imm p27] 0 0]]⟩]):=by
 unfold m128_3 at h;obtain ⟨r31,w30,h⟩:=bcall (e144 0 1 p27) h;try simp -implicitDefEqProofs only [go_sem] at w30
 rcases brx h with ⟨b32,h⟩|⟨b32,h⟩
 obtain ⟨r35,w34,h⟩:=bcall (e144 1 1 p27) h;try simp -implicitDefEqProofs only [go_sem] at w34
 all_goals cases h;simp -implicitDefEqProofs only [go_sem,k128_3, *]
theorem e128_5 (rc:pattern→Option pattern)(hrc:∀(a0:pattern) (r:pattern),rc a0=some r→evFL T 128 [.tp .imm 3 [npat .imm a0] 0 0] []=some (.tp .imm 3 [npat .imm r] 0 0,[]))(p27:pattern)(o:Bool)(h:m128_5 rc p27=some o):evCL T 0 k128_5 (frOf 125 (upd (upd anyF 3 (.ptr 0 0 0)) 6 (.fn 144 [.ptr 0 0 0]))) [some ⟨.box,1,[[.tp .imm 3 [npat .imm p27] 0 0]]⟩]=some (.normal,frOf 125 (upd (upd anyF 3 (.ptr 0 0 0)) 79 (.bool o)),[some ⟨.box,1,[[.tp .imm 3 [npat .imm p27] 0 0]]⟩]):=by
 unfold m128_5 at h;obtain ⟨r74,w73,h⟩:=bcall (e144 1 1 p27) h;try simp -implicitDefEqProofs only [go_sem] at w73
 rcases brx h with ⟨b75,h⟩|⟨b75,h⟩
 obtain ⟨x76,g78,g79,g80,h⟩:=bidx (nPpa .imm) h;obtain ⟨r83,w82,h⟩:=bcall (e146 x76) h;obtain ⟨x84,g86,g87,g88,h⟩:=bidx (nPpa .imm) h;obtain ⟨r91,w90,h⟩:=bcall (e146 x84) h;obtain ⟨r94,w93,h⟩:=bcall (e145 r83 r91) h;try simp -implicitDefEqProofs only [go_sem] at g79 g80 w82 g87 g88 w90 w93
 all_goals cases h;simp -implicitDefEqProofs only [go_sem,k128_5, *]
theorem e128_7 (rc:pattern→Option pattern)(hrc:∀(a0:pattern) (r:pattern),rc a0=some r→evFL T 128 [.tp .imm 3 [npat .imm a0] 0 0] []=some (.tp .imm 3 [npat .imm r] 0 0,[]))(p27:pattern)(o:Bool)(h:m128_7 rc p27=some o):evCL T 0 k128_7 (frOf 125 (upd (upd anyF 3 (.ptr 0 0 0)) 6 (.fn 144 [.ptr 0 0 0]))) [some ⟨.box,1,[[.tp .imm 3 [npat .imm p27] 0 0]]⟩]=some (.normal,frOf 125 (upd (upd (upd anyF 3 (.ptr 0 0 0)) 6 (.fn 144 [.ptr 0 0 0])) 107 (.bool o)),[some ⟨.box,1,[[.tp .imm 3 [npat .imm p27] 0 0]]⟩]):=by
 unfold m128_7 at h;obtain ⟨r108,w107,h⟩:=bcall (e144 0 1 p27) h;try simp -implicitDefEqProofs only [go_sem] at w107
 rcases brx h with ⟨b109,h⟩|⟨b109,h⟩
 obtain ⟨r112,w111,h⟩:=bcall (e144 0 2 p27) h;try simp -implicitDefEqProofs only [go_sem] at w111
 all_goals cases h;simp -implicitDefEqProofs only [go_sem,k128_7, *]
@[go_sem] noncomputable def X128_6 (p27:pattern)(o:(Unit ⊕ pattern)):Ex×Fr×St :=
 match o with
 | .inl o=>(.normal,frOf 125 (upd anyF 3 (.ptr 0 0 0)),[some ⟨.box,1,[[.tp .imm 3 [npat .imm p27] 0 0]]⟩])
 | .inr o=>(.ret,frOf 125 (upd anyF 2 (.tp .imm 3 [npat .imm o] 0 0)),[])
theorem e128_6 (rc:pattern→Option pattern)(hrc:∀(a0:pattern) (r:pattern),rc a0=some r→evFL T 128 [.tp .imm 3 [npat .imm a0] 0 0] []=some (.tp .imm 3 [npat .imm r] 0 0,[]))(p104:Bool)(p27:pattern)(o:(Unit ⊕ pattern))(h:m128_6 rc p104 p27=some o):evCL T 0 k128_6 (frOf 125 (upd (upd (upd anyF 3 (.ptr 0 0 0)) 6 (.fn 144 [.ptr 0 0 0])) 105 (.bool p104))) [some ⟨.box,1,[[.tp .imm 3 [npat .imm p27] 0 0]]⟩]=some (X128_6 p27 o):=by
 unfold m128_6 at h
 rcases brx h with ⟨b105,h⟩|⟨b105,h⟩
 rotate_left
 obtain ⟨v115,w114,h⟩:=bcall (e128_7 rc hrc p27) h;try simp -implicitDefEqProofs only [go_sem] at w114
 rcases brx h with ⟨b116,h⟩|⟨b116,h⟩
 obtain ⟨r122,w121,h⟩:=bcall (e144 0 7 p27) h;try simp -implicitDefEqProofs only [go_sem] at w121
 rcases brx h with ⟨b123,h⟩|⟨b123,h⟩
 rotate_left
 obtain ⟨x124,g126,g127,g128,h⟩:=bidx (nPpa .imm) h;try simp -implicitDefEqProofs only [go_sem] at g127 g128
 rotate_left
 obtain ⟨r119,w118,h⟩:=bcall (e143 2 []) h;try simp -implicitDefEqProofs only [go_sem] at w118
 all_goals cases h;simp -implicitDefEqProofs only [go_sem,k128_6, *]
@[go_sem] noncomputable def X128_4 (p27:pattern)(o:(Unit ⊕ pattern)):Ex×Fr×St :=
 match o with
 | .inl o=>(.normal,frOf 125 (upd anyF 3 (.ptr 0 0 0)),[some ⟨.box,1,[[.tp .imm 3 [npat .imm p27] 0 0]]⟩])
 | .inr o=>(.ret,frOf 125 (upd anyF 2 (.tp .imm 3 [npat .imm o] 0 0)),[])
theorem e128_4 (rc:pattern→Option pattern)(hrc:∀(a0:pattern) (r:pattern),rc a0=some r→evFL T 128 [.tp .imm 3 [npat .imm a0] 0 0] []=some (.tp .imm 3 [npat .imm r] 0 0,[]))(a0:pattern)(p61:Bool)(p27:pattern)(o:(Unit ⊕ pattern))(h:m128_4 rc a0 p61 p27=some o):evCL T 0 k128_4 (frOf 125 (upd (upd (upd (upd anyF 3 (.ptr 0 0 0)) 6 (.fn 144 [.ptr 0 0 0])) 39 (nI a0.cell.kind)) 68 (.bool p61))) [some ⟨.box,1,[[.tp .imm 3 [npat .imm p27] 0 0]]⟩]=some (X128_4 p27 o):=by
 unfold m128_4 at h
 rcases brx h with ⟨b62,h⟩|⟨b62,h⟩
 (try simp -implicitDefEqProofs only [go_sem,k128_4,b62]);obtain ⟨o,w130,h⟩:=bcall (e128_6 rc hrc (eqI a0.cell.kind 7) p27) h
 rcases o with ⟨⟩|v131
 replace h:=selS_l h;try simp -implicitDefEqProofs only [go_sem] at w130
 rotate_left
 replace h:=selS_r h;try simp -implicitDefEqProofs only [go_sem] at w130
 rotate_left
 obtain ⟨r65,w64,h⟩:=bcall (e144 0 1 p27) h;try simp -implicitDefEqProofs only [go_sem] at w64
 rcases brx h with ⟨b66,h⟩|⟨b66,h⟩
 obtain ⟨v97,w96,h⟩:=bcall (e128_5 rc hrc p27) h;try simp -implicitDefEqProofs only [go_sem] at w96
 rcases brx h with ⟨b98,h⟩|⟨b98,h⟩
 rotate_left
 obtain ⟨x99,g101,g102,g103,h⟩:=bidx (nPpa .imm) h;try simp -implicitDefEqProofs only [go_sem] at g102 g103
 rotate_left
 obtain ⟨x67,g69,g70,g71,h⟩:=bidx (nPpa .imm) h;try simp -implicitDefEqProofs only [go_sem] at g70 g71
 all_goals cases h;simp -implicitDefEqProofs only [go_sem,k128_4, *]
@[go_sem] noncomputable def X128_2 (p27:pattern)(o:(Unit ⊕ pattern)):Ex×Fr×St :=
 match o with
 | .inl o=>(.normal,frOf 125 (upd anyF 3 (.ptr 0 0 0)),[some ⟨.box,1,[[.tp .imm 3 [npat .imm p27] 0 0]]⟩])
 | .inr o=>(.ret,frOf 125 (upd anyF 2 (.tp .imm 3 [npat .imm o] 0 0)),[])
theorem e128_2 (rc:pattern→Option pattern)(hrc:∀(a0:pattern) (r:pattern),rc a0=some r→evFL T 128 [.tp .imm 3 [npat .imm a0] 0 0] []=some (.tp .imm 3 [npat .imm r] 0 0,[]))(a0:pattern)(p26:Bool)(p27:pattern)(o:(Unit ⊕ pattern))(h:m128_2 rc a0 p26 p27=some o):evCL T 0 k128_2 (frOf 125 (upd (upd (upd (upd anyF 3 (.ptr 0 0 0)) 6 (.fn 144 [.ptr 0 0 0])) 39 (nI a0.cell.kind)) 40 (.bool p26))) [some ⟨.box,1,[[.tp .imm 3 [npat .imm p27] 0 0]]⟩]=some (X128_2 p27 o):=by
 unfold m128_2 at h
 rcases brx h with ⟨b28,h⟩|⟨b28,h⟩
 (try simp -implicitDefEqProofs only [go_sem,k128_2,b28]);obtain ⟨o,w133,h⟩:=bcall (e128_4 rc hrc a0 (eqI a0.cell.kind 6) p27) h
 rcases o with ⟨⟩|v134
 replace h:=selS_l h;try simp -implicitDefEqProofs only [go_sem] at w133
 rotate_left
 replace h:=selS_r h;try simp -implicitDefEqProofs only [go_sem] at w133
 rotate_left
 obtain ⟨v38,w37,h⟩:=bcall (e128_3 rc hrc p27) h;try simp -implicitDefEqProofs only [go_sem] at w37
 rcases brx h with ⟨b39,h⟩|⟨b39,h⟩
 obtain ⟨r45,w44,h⟩:=bcall (e144 0 2 p27) h;try simp -implicitDefEqProofs only [go_sem] at w44
 rcases brx h with ⟨b46,h⟩|⟨b46,h⟩
 obtain ⟨r54,w53,h⟩:=bcall (e144 1 2 p27) h;try simp -implicitDefEqProofs only [go_sem] at w53
 rcases brx h with ⟨b55,h⟩|⟨b55,h⟩
 rotate_left
 obtain ⟨x56,g58,g59,g60,h⟩:=bidx (nPpa .imm) h;try simp -implicitDefEqProofs only [go_sem] at g59 g60
 rotate_left
 obtain ⟨x47,g49,g50,g51,h⟩:=bidx (nPpa .imm) h;try simp -implicitDefEqProofs only [go_sem] at g50 g51
 rotate_left
 obtain ⟨r42,w41,h⟩:=bcall (e143 1 []) h;try simp -implicitDefEqProofs only [go_sem] at w41
 all_goals cases h;simp -implicitDefEqProofs only [go_sem,k128_2, *]
theorem e128r (rc:pattern→Option pattern)(hrc:∀(a0:pattern) (r:pattern),rc a0=some r→evFL T 128 [.tp .imm 3 [npat .imm a0] 0 0] []=some (.tp .imm 3 [npat .imm r] 0 0,[]))(a0:pattern)(r:pattern)(h:m128r rc a0=some r):evFL T 128 [.tp .imm 3 [npat .imm a0] 0 0] []=some (.tp .imm 3 [npat .imm r] 0 0,[]):=by
 unfold m128r at h;rw [ev fn128 rfl];obtain ⟨v25,w24,h⟩:=bcall (e128_1 rc hrc a0 (↑a0.parts.length:Int) (0,[])) h;(try simp -implicitDefEqProofs only [go_sem] at w24);(try simp -implicitDefEqProofs only [go_sem,i128,c128,w24]);obtain ⟨o,w136,h⟩:=bcall (e128_2 rc hrc a0 (eqI a0.cell.kind 5) (⟨a0.cell,v25⟩:pattern)) h
 rcases o with ⟨⟩|v137
 replace h:=selS_l h;try simp -implicitDefEqProofs only [go_sem] at w136
 rotate_left
 replace h:=selS_r h;try simp -implicitDefEqProofs only [go_sem] at w136
 all_goals cases h;simp -implicitDefEqProofs only [go_sem,i128,c128,w24,w136]
theorem e128k:∀(k:Nat) (a0:pattern) (r:pattern) (h:m128k k a0=some r),evFL T 128 [.tp .imm 3 [npat .imm a0] 0 0] []=some (.tp .imm 3 [npat .imm r] 0 0,[]):=by
 intro k
 induction k with
 | zero=>intro a0 r h;cases h
 | succ k ih=>intro a0 r h;exact e128r (m128k k) (fun a0 r h=>ih a0 r h) a0 r h
theorem e128 (a0:pattern)(r:pattern)(h:m128 a0=some r):evFL T 128 [.tp .imm 3 [npat .imm a0] 0 0] []=some (.tp .imm 3 [npat .imm r] 0 0,[]):=by
 obtain ⟨N,hN⟩:=limO_iff.1 h;exact e128k N a0 r (hN N (Nat.le_refl N))
@[go_sem] theorem call100:CL 100 [[2],[1]]:=evCall0 fn100 rfl rfl rfl
@[go_sem] noncomputable def X100_1 (o:pattern):Ex×Fr×St :=
 (.exit 0,frOf 27 (upd anyF 5 (.tp .imm 3 [npat .imm o] 0 0)),[])
@[go_sem] noncomputable def E100_1 (a1:List Int)(p5:Int)(s:(pattern×Int)):Fr×St:=(frOf 27 (upd (upd (upd (upd anyF 5 (.tp .imm 3 [npat .imm s.1] 0 0)) 14 (.ts .imm 1 (a1.map nInt))) 15 (nI p5)) 16 (nI s.2)),[])
theorem e100_1 (a1:List Int)(p5:Int):LW T 0 k100_1b (m100_1b a1 p5) (E100_1 a1 p5) X100_1:=by
 refine lwk nofun fun s o h=>?_
 unfold m100_1b at h;obtain ⟨s18,s19⟩:=s;replace h:=sel2_some h
 rcases brx h with ⟨b20,h⟩|⟨b20,h⟩
 rotate_left
 obtain ⟨x21,g23,g24,g25,h⟩:=bidx nInt h;obtain ⟨r28,w27,h⟩:=bcall (e127 s18 x21) h;obtain ⟨r31,w30,h⟩:=bcall (e128 r28) h;try simp -implicitDefEqProofs only [go_sem] at g24 g25 w27 w30
 all_goals cases h;simp -implicitDefEqProofs only [go_sem,k100_1b, *]
theorem e100 (a0:List ReCell)(a1:List Int)(r:Bool)(h:m100 a0 a1=some r):evFL T 100 [.ts .imm 2 (a0.map nReC),.ts .imm 1 (a1.map nInt)] []=some (.bool r,[]):=by
 unfold m100 at h;rw [ev fn100 rfl];obtain ⟨⟨r3,r4⟩,w2,h⟩:=bcall (e126 a0) h;replace h:=sel2_some h;obtain ⟨v34,w33,h⟩:=bcall (e100_1 a1 (↑a1.length:Int) (r3,0)) h;(try simp -implicitDefEqProofs only [go_sem] at w2);simp -implicitDefEqProofs only [go_sem] at w33;obtain ⟨r37,w36,h⟩:=bcall (e129 v34) h;(try simp -implicitDefEqProofs only [go_sem] at w33 w36);cases h;simp -implicitDefEqProofs only [go_sem,i100,c100,w2,w33,w36]
@[go_sem] theorem callz142:CZ 142 [[0]] [[0,0]]:=evCallFz0 fn142 rfl rfl rfl
theorem e142 (a0:Prefix)(r:Int)(h:m142 a0=some r):evFL T 142 [.agg (nPre a0)] []=some (nI r,[]):=by
 unfold m142 at h;rw [ev fn142 rfl];obtain ⟨r3,w2,h⟩:=bcall (e94 a0.len) h;(try simp -implicitDefEqProofs only [go_sem] at w2);cases h;simp -implicitDefEqProofs only [go_sem,i142,c142,w2]
@[go_sem] theorem call125:CL 125 [[0,0],[0]]:=evCall0 fn125 rfl rfl rfl
theorem e125 (a0:Prefix)(a1:Int)(r:Bool)(h:m125 a0 a1=some r):evFL T 125 [.agg (nPre a0),nI a1] []=some (.bool r,[]):=by
 unfold m125 at h;rw [ev fn125 rfl];obtain ⟨r3,w2,h⟩:=bcall (e142 a0) h;obtain ⟨r6,w5,h⟩:=bcall (e87 a1 a0.addr r3) h;(try simp -implicitDefEqProofs only [go_sem] at w2 w5);cases h;simp -implicitDefEqProofs only [go_sem,i125,c125,w2,w5]
@[go_sem] theorem call99:CL 99 [[0,0],[0,0]]:=evCall0 fn99 rfl rfl rfl
theorem e99_1 (a0:Prefix)(a1:Prefix)(o:Bool)(h:m99_1 a0 a1=some o):evCL T 0 k99_1 (frOf 16 (upd (upd anyF 2 (.ptr 0 0 0)) 3 (.ptr 1 0 0))) [some ⟨.box,2,[(nPre a0)]⟩,some ⟨.box,2,[(nPre a1)]⟩]=some (.normal,frOf 16 (upd anyF 4 (.bool o)),[]):=by
 unfold m99_1 at h
 rcases brx h with ⟨b1,h⟩|⟨b1,h⟩
 rotate_left
 obtain ⟨r4,w3,h⟩:=bcall (e125 a0 a1.addr) h;try simp -implicitDefEqProofs only [go_sem] at w3
 all_goals cases h;simp -implicitDefEqProofs only [go_sem,k99_1, *]
theorem e99 (a0:Prefix)(a1:Prefix)(r:Bool)(h:m99 a0 a1=some r):evFL T 99 [.agg (nPre a0),.agg (nPre a1)] []=some (.bool r,[]):=by
 unfold m99 at h;rw [ev fn99 rfl];obtain ⟨v7,w6,h⟩:=bcall (e99_1 a0 a1) h;(try simp -implicitDefEqProofs only [go_sem] at w6);cases h;simp -implicitDefEqProofs only [go_sem,i99,c99,w6]
theorem call98:CL 98 [[0,0,0,0],[0]]:=evCall0 fn98 rfl rfl rfl
theorem callz98:CZ 98 [[0]] [[0,0,0,0],[0]]:=evCallFz0 fn98 rfl rfl rfl
attribute [go_sem] call98 callz98
theorem e98_1 (a1:Route)(a0:Range)(o:Bool)(h:m98_1 a1 a0=some o):evCL T 0 k98_1 (frOf 19 (upd (upd anyF 1 (.tp .imm 8 [(nRou .imm a1)] 0 0)) 2 (.ptr 0 0 0))) [some ⟨.box,4,[(nRan a0)]⟩]=some (.normal,frOf 19 (upd anyF 3 (.bool o)),[]):=by
 unfold m98_1 at h;obtain ⟨r3,w2,h⟩:=bcall (e99 a0.prefix_ a1.prefix_) h;try simp -implicitDefEqProofs only [go_sem] at w2
 rcases brx h with ⟨b4,h⟩|⟨b4,h⟩
 rotate_left
 obtain ⟨r7,w6,h⟩:=bcall (e87 a1.prefix_.len a0.lo a0.hi) h;try simp -implicitDefEqProofs only [go_sem] at w6
 all_goals cases h;simp -implicitDefEqProofs only [go_sem,k98_1, *]
theorem e98 (a0:Range)(a1:Route)(r:Bool)(h:m98 a0 a1=some r):evFL T 98 [.agg [nI a0.prefix_.addr,nI a0.prefix_.len,nI a0.lo,nI a0.hi],.tp .imm 8 [[nI a1.prefix_.addr,nI a1.prefix_.len,nI a1.attrs.origin,.ts .imm 1 (a1.attrs.path.map nInt),nI a1.attrs.next,nI a1.attrs.med,nI a1.attrs.pref,.ts .imm 1 (a1.attrs.comms.map nInt)]] 0 0] []=some (.bool r,[]):=by
 unfold m98 at h;rw [ev fn98 rfl];obtain ⟨v10,w9,h⟩:=bcall (e98_1 a1 a0) h;(try simp -implicitDefEqProofs only [go_sem] at w9);cases h;simp -implicitDefEqProofs only [go_sem,i98,c98,w9]
@[go_sem] theorem call61:CL 61 [[4,2,0,2,0],[0,0,0,1,0,0,0,1]]:=evCall0 fn61 rfl rfl rfl
theorem e61_1 (a0:Term)(a1:Route)(o:Bool)(h:m61_1 a0 a1=some o):evCL T 0 k61_1 (frOf 44 (upd (upd (upd anyF 2 (.ptr 0 0 0)) 3 (.ptr 1 0 0)) 5 (.fn 98 [.ptr 1 0 0]))) [some ⟨.box,5,[(nTer .imm a0)]⟩,some ⟨.box,8,[(nRou .imm a1)]⟩]=some (.normal,frOf 44 (upd anyF 4 (.bool o)),[]):=by
 unfold m61_1 at h
 rcases brx h with ⟨b1,h⟩|⟨b1,h⟩
 obtain ⟨r17,w16,h⟩:=bcall (e88 a0.ranges (fun y0=>m98 y0 a1) 98 [.tp .imm 8 [(nRou .imm a1)] 0 0] ⟨⟨fun S=>by simp -implicitDefEqProofs only [go_sem],fun _ _ _ _ _ _=>by simp -implicitDefEqProofs only [go_sem]⟩,fun y0 r h=>⟨fun S=>by simp -implicitDefEqProofs only [go_sem,e98 y0 a1 r h],fun S=>by simp -implicitDefEqProofs only [go_sem,e98 y0 a1 r h]⟩⟩) h
 try simp -implicitDefEqProofs only [go_sem] at w16
 rcases brx h with ⟨b18,h⟩|⟨b18,h⟩
 rotate_left
 try simp -implicitDefEqProofs only [go_sem,k61_1,b1,w16,b18]
 rcases brx h with ⟨b19,h⟩|⟨b19,h⟩
 obtain ⟨r26,w25,h⟩:=bcall (e100 a0.path a1.attrs.path) h;try simp -implicitDefEqProofs only [go_sem] at w25
 rcases brx h with ⟨b27,h⟩|⟨b27,h⟩
 rotate_left
 try simp -implicitDefEqProofs only [go_sem,k61_1,b1,w16,b18,b19,w25,b27]
 rcases brx h with ⟨b28,h⟩|⟨b28,h⟩
 obtain ⟨r31,w30,h⟩:=bcall (e101 a1.attrs.comms a0.comm) h;try simp -implicitDefEqProofs only [go_sem] at w30
 rotate_left 2
 try simp -implicitDefEqProofs only [go_sem,k61_1,b1,w16,b18,b19]
 rcases brx h with ⟨b20,h⟩|⟨b20,h⟩
 obtain ⟨r23,w22,h⟩:=bcall (e101 a1.attrs.comms a0.comm) h;try simp -implicitDefEqProofs only [go_sem] at w22
 rotate_left 2
 try simp -implicitDefEqProofs only [go_sem,k61_1,b1]
 rcases brx h with ⟨b2,h⟩|⟨b2,h⟩
 obtain ⟨r9,w8,h⟩:=bcall (e100 a0.path a1.attrs.path) h;try simp -implicitDefEqProofs only [go_sem] at w8
 rcases brx h with ⟨b10,h⟩|⟨b10,h⟩
 rotate_left
 try simp -implicitDefEqProofs only [go_sem,k61_1,b1,b2,w8,b10]
 rcases brx h with ⟨b11,h⟩|⟨b11,h⟩
 obtain ⟨r14,w13,h⟩:=bcall (e101 a1.attrs.comms a0.comm) h;try simp -implicitDefEqProofs only [go_sem] at w13
 rotate_left 2
 try simp -implicitDefEqProofs only [go_sem,k61_1,b1,b2]
 rcases brx h with ⟨b3,h⟩|⟨b3,h⟩
 obtain ⟨r6,w5,h⟩:=bcall (e101 a1.attrs.comms a0.comm) h;try simp -implicitDefEqProofs only [go_sem] at w5
 all_goals cases h;simp -implicitDefEqProofs only [go_sem,k61_1, *]
theorem e61 (a0:Term)(a1:Route)(r:Bool)(h:m61 a0 a1=some r):evFL T 61 [.agg (nTer .imm a0),.agg (nRou .imm a1)] []=some (.bool r,[]):=by
 unfold m61 at h;rw [ev fn61 rfl];obtain ⟨v34,w33,h⟩:=bcall (e61_1 a0 a1) h;(try simp -implicitDefEqProofs only [go_sem] at w33);cases h;simp -implicitDefEqProofs only [go_sem,i61,c61,w33]
@[go_sem] theorem call147:CL 147 [[0]]:=evCall0 fn147 rfl rfl rfl
theorem e147 (a0:Int)(r:Bool)(h:m147 a0=some r):evFL T 147 [nI a0] []=some (.bool r,[]):=by
 unfold m147 at h;rw [ev fn147 rfl];cases h;simp -implicitDefEqProofs only [go_sem,i147,c147]
@[go_sem] theorem call131:CL 131 [[0],[0]]:=evCall0 fn131 rfl rfl rfl
theorem e131_1 (a0:Int)(a1:Int)(o:Bool)(h:m131_1 a0 a1=some o):evCL T 0 k131_1 (frOf 17 (upd (upd anyF 0 (nI a0)) 1 (nI a1))) []=some (.normal,frOf 17 (upd anyF 4 (.bool o)),[]):=by
 unfold m131_1 at h;obtain ⟨r3,w2,h⟩:=bcall (e147 a0) h;try simp -implicitDefEqProofs only [go_sem] at w2
 rcases brx h with ⟨b4,h⟩|⟨b4,h⟩
 rotate_left
 obtain ⟨r7,w6,h⟩:=bcall (e147 a1) h;try simp -implicitDefEqProofs only [go_sem] at w6
 rcases brx h with ⟨b8,h⟩|⟨b8,h⟩
 all_goals cases h;simp -implicitDefEqProofs only [go_sem,k131_1, *]
theorem e131 (a0:Int)(a1:Int)(r:Bool)(h:m131 a0 a1=some r):evFL T 131 [nI a0,nI a1] []=some (.bool r,[]):=by
 unfold m131 at h;rw [ev fn131 rfl];obtain ⟨v11,w10,h⟩:=bcall (e131_1 a0 a1) h;(try simp -implicitDefEqProofs only [go_sem] at w10);cases h;simp -implicitDefEqProofs only [go_sem,i131,c131,w10]
@[go_sem] theorem call132:CL 132 [[0]]:=evCall0 fn132 rfl rfl rfl
theorem e132 (a0:Int)(r:Bool)(h:m132 a0=some r):evFL T 132 [nI a0] []=some (.bool r,[]):=by
 unfold m132 at h;rw [ev fn132 rfl];cases h;simp -implicitDefEqProofs only [go_sem,i132,c132]
@[go_sem] theorem call102:CL 102 [[1],[0]]:=evCall0 fn102 rfl rfl rfl
theorem e102_3 (a0:List Int)(a1:Int)(p1:Int)(s18:Int)(s19:Int)(p29:Int)(r28:Bool)(o:(Int×Int))(h:m102_3 s18 s19 p29 r28=some o):evCL T 0 k102_3 (frOf 54 (upd (upd (upd (upd (upd (upd (upd anyF 0 (.ts .imm 1 (a0.map nInt))) 1 (nI a1)) 6 (nI p1)) 7 (nI s18)) 8 (nI s19)) 9 (nI p29)) 27 (.bool r28))) []=some (.normal,frOf 54 (upd (upd (upd (upd (upd anyF 0 (.ts .imm 1 (a0.map nInt))) 1 (nI a1)) 6 (nI p1)) 7 (nI o.1)) 8 (nI o.2)),[]):=by
 unfold m102_3 at h
 rcases brx h with ⟨b30,h⟩|⟨b30,h⟩
 all_goals cases h;simp -implicitDefEqProofs only [go_sem,k102_3,b30]
@[go_sem] noncomputable def X102_1 (a0:List Int)(a1:Int)(p1:Int)(o:Int):Ex×Fr×St :=
 (.exit 0,frOf 54 (upd (upd (upd (upd anyF 0 (.ts .imm 1 (a0.map nInt))) 1 (nI a1)) 6 (nI p1)) 7 (nI o)),[])
@[go_sem] noncomputable def E102_1 (a0:List Int)(a1:Int)(p1:Int)(s:(Int×Int)):Fr×St:=(frOf 54 (upd (upd (upd (upd (upd anyF 0 (.ts .imm 1 (a0.map nInt))) 1 (nI a1)) 6 (nI p1)) 7 (nI s.1)) 8 (nI s.2)),[])
theorem e102_1 (a0:List Int)(a1:Int)(p1:Int):LW T 0 k102_1b (m102_1b a0 a1) (E102_1 a0 a1 p1) (X102_1 a0 a1 p1):=by
 refine lwk nofun fun s o h=>?_
 unfold m102_1b at h;obtain ⟨s18,s19⟩:=s;replace h:=sel2_some h
 rcases brx h with ⟨b20,h⟩|⟨b20,h⟩
 rotate_left
 obtain ⟨x21,g23,g24,g25,h⟩:=bidx nInt h;obtain ⟨r28,w27,h⟩:=bcall (e131 x21 a1) h;obtain ⟨⟨v33,v34⟩,w32,h⟩:=bcall (e102_3 a0 a1 p1 s18 s19 (wcv .i64 (wshr .u64 (wcv .u64 (wadd .i64 s18 s19)) 1)) r28) h;replace h:=sel2_some h;(try simp -implicitDefEqProofs only [go_sem] at g24 g25 w27);try simp -implicitDefEqProofs only [go_sem] at w32
 all_goals cases h;simp -implicitDefEqProofs only [go_sem,k102_1b, *]
theorem e102_4 (a0:List Int)(a1:Int)(p38:Int)(v37:Int)(o:Bool)(h:m102_4 a0 a1 p38 v37=some o):evCL T 0 k102_4 (frOf 54 (upd (upd (upd (upd anyF 0 (.ts .imm 1 (a0.map nInt))) 1 (nI a1)) 6 (nI p38)) 7 (nI v37))) []=some (.normal,frOf 54 (upd (upd anyF 4 (nI v37)) 5 (.bool o)),[]):=by
 unfold m102_4 at h
 rcases brx h with ⟨b39,h⟩|⟨b39,h⟩
 rotate_left
 obtain ⟨x40,g42,g43,g44,h⟩:=bidx nInt h;try simp -implicitDefEqProofs only [go_sem] at g43 g44
 rcases brx h with ⟨b45,h⟩|⟨b45,h⟩
 obtain ⟨r48,w47,h⟩:=bcall (e132 x40) h;try simp -implicitDefEqProofs only [go_sem] at w47
 rcases brx h with ⟨b49,h⟩|⟨b49,h⟩
 rotate_left
 obtain ⟨r52,w51,h⟩:=bcall (e132 a1) h;try simp -implicitDefEqProofs only [go_sem] at w51
 all_goals cases h;simp -implicitDefEqProofs only [go_sem,k102_4, *]
theorem e102 (a0:List Int)(a1:Int)(r:(Int×Bool))(h:m102 a0 a1=some r):evFL T 102 [.ts .imm 1 (a0.map nInt),nI a1] []=some (.tup [nI r.1,.bool r.2],[]):=by
 unfold m102 at h;rw [ev fn102 rfl];obtain ⟨v37,w36,h⟩:=bcall (e102_1 a0 a1 (↑a0.length:Int) (0,(↑a0.length:Int))) h;simp -implicitDefEqProofs only [go_sem] at w36;obtain ⟨v55,w54,h⟩:=bcall (e102_4 a0 a1 (↑a0.length:Int) v37) h;(try simp -implicitDefEqProofs only [go_sem] at w36);(try simp -implicitDefEqProofs only [go_sem] at w54);cases h;simp -implicitDefEqProofs only [go_sem,i102,c102,w36,w54]
@[go_sem] theorem call103 (args:List AV)(S:St):evCall T (evFL T) 103 args S=evIns T 27 args S:=evCallI fn103 rfl args S
@[go_sem] theorem call104 (args:List AV)(S:St):evCall T (evFL T) 104 args S=c3A true true (evFL T 104) (rawAll S [[1],[0]] args):=evCall3_g fn104 rfl (fun h=>absurd h.1 (by decide)) args S
theorem e104_3 (s26:Int)(s27:Int)(x30:Int)(p38:Bool)(s28:List Int)(a1:(Int→Option Bool))(a1_f:Nat)(a1_c:List AV)(a1_h:capOk a1_c∧∀y0 r,a1 y0=some r→clR a1_f a1_c [nI y0] (.bool r))(o:(Int×List Int))(h:m104_3 s26 x30 p38 s28=some o):evCL T 1 k104_3 (frOf 42 (upd (upd (upd (upd (upd (upd anyF 0 (.sl 1 0 s28.length)) 1 (.fn a1_f a1_c)) 5 (nI s26)) 6 (nI s27)) 7 (nI x30)) 29 (.bool p38))) [none,some ⟨.arr,1,s28.map nInt⟩]=some (.normal,frOf 42 (upd (upd (upd (upd anyF 0 (.sl 1 0 o.2.length)) 1 (.fn a1_f a1_c)) 5 (nI o.1)) 6 (nI s27)),[none,some ⟨.arr,1,o.2.map nInt⟩]):=by
 unfold m104_3 at h
 rcases brx h with ⟨b39,h⟩|⟨b39,h⟩
 rotate_left
 obtain ⟨x40,g42,g43,g44,h⟩:=bidx nInt h;try simp -implicitDefEqProofs only [go_sem] at g43 g44
 all_goals cases h;simp -implicitDefEqProofs only [go_sem,k104_3, *]
@[go_sem] noncomputable def X104_1 (o:(Int×List Int)):Ex×Fr×St :=
 (.exit 0,frOf 42 (upd (upd anyF 0 (.sl 1 0 o.2.length)) 5 (nI o.1)),[none,some ⟨.arr,1,o.2.map nInt⟩])
@[go_sem] noncomputable def E104_1 (a1_f:Nat)(a1_c:List AV)(s:(Int×Int×List Int)):Fr×St:=(frOf 42 (upd (upd (upd (upd anyF 0 (.sl 1 0 s.2.2.length)) 1 (.fn a1_f a1_c)) 5 (nI s.1)) 6 (nI s.2.1)),[none,some ⟨.arr,1,s.2.2.map nInt⟩])
theorem e104_1 (a1:(Int→Option Bool))(a1_f:Nat)(a1_c:List AV)(a1_h:capOk a1_c∧∀y0 r,a1 y0=some r→clR a1_f a1_c [nI y0] (.bool r)):LW T 1 k104_1b (m104_1b a1) (E104_1 a1_f a1_c) X104_1:=by
 refine lwk nofun fun s o h=>?_
 unfold m104_1b at h;obtain ⟨s26,s27,s28⟩:=s;replace h:=sel3_some h
 rcases brx h with ⟨b29,h⟩|⟨b29,h⟩
 rotate_left
 obtain ⟨x30,g32,g33,g34,h⟩:=bidx nInt h;obtain ⟨r35,w37,h⟩:=bcall (a1_h.2 x30) h;obtain ⟨⟨v47,v48⟩,w46,h⟩:=bcall (e104_3 s26 s27 x30 (!r35) s28 a1 a1_f a1_c a1_h) h;replace h:=sel2_some h;(try simp -implicitDefEqProofs only [go_sem] at g33 g34 w37);try simp -implicitDefEqProofs only [go_sem] at w46
 all_goals cases h;simp -implicitDefEqProofs only [go_sem,k104_1b, *]
theorem e104 (a0:List Int)(a1:(Int→Option Bool))(a1_f:Nat)(a1_c:List AV)(a1_h:capOk a1_c∧∀y0 r,a1 y0=some r→clR a1_f a1_c [nI y0] (.bool r))(r:List Int)(h:m104 a0 a1=some r):evFL T 104 [.sl 0 0 a0.length,.fn a1_f a1_c] [some ⟨.arr,1,a0.map nInt⟩]=some (.sl 1 0 r.length,[none,some ⟨.arr,1,r.map nInt⟩]):=by
 unfold m104 at h;rw [ev fn104 rfl];obtain ⟨r3,w2,h⟩:=bcall (e135 a0 a1 a1_f a1_c a1_h) h;try simp -implicitDefEqProofs only [go_sem] at w2
 rcases brx h with ⟨b4,h⟩|⟨b4,h⟩
 obtain ⟨⟨v51,v52⟩,w50,h⟩:=bcall (e104_1 a1 a1_f a1_c a1_h (r3,wadd .i64 r3 1,a0)) h;replace h:=sel2_some h;(try simp -implicitDefEqProofs only [go_sem] at w50);obtain ⟨g53,h⟩:=ck_some h;try simp -implicitDefEqProofs only [go_sem] at g53
 have g54:v51.toNat+(v52.length-v51.toNat)≤v52.length:=by (try simp only [List.length_take,List.length_drop,List.length_append,List.length_set,List.length_cons,List.length_nil]);omega
 have g55:v51.toNat+(v52.length-v51.toNat)=v52.length:=by (try simp only [List.length_take,List.length_drop,List.length_append,List.length_set,List.length_cons,List.length_nil]);omega
 have g56:v51.toNat≤v52.length:=by (try simp only [List.length_take,List.length_drop,List.length_append,List.length_set,List.length_cons,List.length_nil]);omega
 obtain ⟨g57,h⟩:=ck_some h;try simp -implicitDefEqProofs only [go_sem] at g57
 have g58:0+(v51.toNat)≤(v52.take v51.toNat).length:=by (try simp only [List.length_take,List.length_drop,List.length_append,List.length_set,List.length_cons,List.length_nil]);omega
 have g59:v51.toNat≤(((v52.take v51.toNat).drop 0).take v52.length).length:=by (try simp only [List.length_take,List.length_drop,List.length_append,List.length_set,List.length_cons,List.length_nil]);omega
 all_goals cases h;simp -implicitDefEqProofs only [go_sem,i104,c104, *]
theorem call105:CL 105 [[0],[0]]:=evCall0 fn105 rfl rfl rfl
theorem callz105:CZ 105 [[0]] [[0],[0]]:=evCallFz0 fn105 rfl rfl rfl
attribute [go_sem] call105 callz105
theorem e105 (a0:Int)(a1:Acn)(r:Bool)(h:m105 a0 a1=some r):evFL T 105 [nI a0,.tp .imm 2 [[nI a1.kind,nI a1.n]] 0 0] []=some (.bool r,[]):=by
 unfold m105 at h;rw [ev fn105 rfl];cases h;simp -implicitDefEqProofs only [go_sem,i105,c105]
@[go_sem] theorem call62:CL 62 [[0,0],[0,0,0,1,0,0,0,1]]:=evCall0 fn62 rfl rfl rfl
theorem e62_4 (r13:Int)(p15:Bool)(a0:Acn)(p5:Prefix)(r3:Route)(o:List Int)(h:m62_4 r13 p15 a0 r3=some o):evCL T 0 k62_4 (frOf 71 (upd (upd (upd (upd (upd anyF 2 (.ptr 0 0 0)) 4 (.ptr 1 0 0)) 6 (.ptr 4 0 0)) 7 (nI r13)) 37 (.bool p15))) [some ⟨.box,2,[[nI a0.kind,nI a0.n]]⟩,some ⟨.box,8,[[nI p5.addr,nI p5.len,nI 0,.sl 2 0 0,nI 0,nI 0,nI 0,.sl 3 0 0]]⟩,some ⟨.arr,1,[]⟩,some ⟨.arr,1,[]⟩,some ⟨.box,8,[[nI r3.prefix_.addr,nI r3.prefix_.len,nI r3.attrs.origin,.sl 5 0 r3.attrs.path.length,nI r3.attrs.next,nI r3.attrs.med,nI r3.attrs.pref,.sl 6 0 r3.attrs.comms.length]]⟩,some ⟨.arr,1,r3.attrs.path.map nInt⟩,some ⟨.arr,1,r3.attrs.comms.map nInt⟩]=some (.normal,frOf 71 (upd (upd anyF 4 (.ptr 0 0 0)) 6 (.ptr 3 0 0)),[some ⟨.box,8,[[nI p5.addr,nI p5.len,nI 0,.sl 1 0 0,nI 0,nI 0,nI 0,.sl 2 0 0]]⟩,some ⟨.arr,1,[]⟩,some ⟨.arr,1,[]⟩,some ⟨.box,8,[[nI r3.prefix_.addr,nI r3.prefix_.len,nI r3.attrs.origin,.sl 4 0 r3.attrs.path.length,nI r3.attrs.next,nI r3.attrs.med,nI r3.attrs.pref,.sl 5 0 o.length]]⟩,some ⟨.arr,1,r3.attrs.path.map nInt⟩,some ⟨.arr,1,o.map nInt⟩]):=by
 unfold m62_4 at h
 rcases brx h with ⟨b16,h⟩|⟨b16,h⟩
 rotate_left
 obtain ⟨v17,q18,h⟩:=bnd_some h;obtain ⟨g19,g20,g21,g22⟩:=ins_row nInt q18;(try simp -implicitDefEqProofs only [go_sem,g20] at g19);(try simp -implicitDefEqProofs only [go_sem,g20] at g20);try simp -implicitDefEqProofs only [go_sem,g20] at g21
 all_goals cases h;simp -implicitDefEqProofs only [go_sem,k62_4, *]
theorem e62_6 (p31:Bool)(a0:Acn)(p5:Prefix)(r3:Route)(o:List Int)(h:m62_6 p31 a0 r3=some o):evCL T 0 k62_6 (frOf 71 (upd (upd (upd (upd anyF 2 (.ptr 0 0 0)) 4 (.ptr 1 0 0)) 6 (.ptr 4 0 0)) 57 (.bool p31))) [some ⟨.box,2,[[nI a0.kind,nI a0.n]]⟩,some ⟨.box,8,[[nI p5.addr,nI p5.len,nI 0,.sl 2 0 0,nI 0,nI 0,nI 0,.sl 3 0 0]]⟩,some ⟨.arr,1,[]⟩,some ⟨.arr,1,[]⟩,some ⟨.box,8,[[nI r3.prefix_.addr,nI r3.prefix_.len,nI r3.attrs.origin,.sl 5 0 r3.attrs.path.length,nI r3.attrs.next,nI r3.attrs.med,nI r3.attrs.pref,.sl 6 0 r3.attrs.comms.length]]⟩,some ⟨.arr,1,r3.attrs.path.map nInt⟩,some ⟨.arr,1,r3.attrs.comms.map nInt⟩]=some (.normal,frOf 71 (upd (upd anyF 4 (.ptr 0 0 0)) 6 (.ptr 3 0 0)),[some ⟨.box,8,[[nI p5.addr,nI p5.len,nI 0,.sl 1 0 0,nI 0,nI 0,nI 0,.sl 2 0 0]]⟩,some ⟨.arr,1,[]⟩,some ⟨.arr,1,[]⟩,some ⟨.box,8,[[nI r3.prefix_.addr,nI r3.prefix_.len,nI r3.attrs.origin,.sl 4 0 o.length,nI r3.attrs.next,nI r3.attrs.med,nI r3.attrs.pref,.sl 5 0 r3.attrs.comms.length]]⟩,some ⟨.arr,1,o.map nInt⟩,some ⟨.arr,1,r3.attrs.comms.map nInt⟩]):=by
 unfold m62_6 at h
 rcases brx h with ⟨b32,h⟩|⟨b32,h⟩
 rotate_left
 obtain ⟨v33,q34,h⟩:=bnd_some h;obtain ⟨g35,g36,g37,g38⟩:=ins_row nInt q34;(try simp -implicitDefEqProofs only [go_sem,g36] at g35);(try simp -implicitDefEqProofs only [go_sem,g36] at g36);try simp -implicitDefEqProofs only [go_sem,g36] at g37
 all_goals cases h;simp -implicitDefEqProofs only [go_sem,k62_6, *]
theorem e62_5 (a0:Acn)(p26:Bool)(p5:Prefix)(r3:Route)(o:(List Int×List Int))(h:m62_5 a0 p26 r3=some o):evCL T 0 k62_5 (frOf 71 (upd (upd (upd (upd (upd anyF 2 (.ptr 0 0 0)) 4 (.ptr 1 0 0)) 6 (.ptr 4 0 0)) 12 (nI a0.kind)) 48 (.bool p26))) [some ⟨.box,2,[[nI a0.kind,nI a0.n]]⟩,some ⟨.box,8,[[nI p5.addr,nI p5.len,nI 0,.sl 2 0 0,nI 0,nI 0,nI 0,.sl 3 0 0]]⟩,some ⟨.arr,1,[]⟩,some ⟨.arr,1,[]⟩,some ⟨.box,8,[[nI r3.prefix_.addr,nI r3.prefix_.len,nI r3.attrs.origin,.sl 5 0 r3.attrs.path.length,nI r3.attrs.next,nI r3.attrs.med,nI r3.attrs.pref,.sl 6 0 r3.attrs.comms.length]]⟩,some ⟨.arr,1,r3.attrs.path.map nInt⟩,some ⟨.arr,1,r3.attrs.comms.map nInt⟩]=some (.normal,frOf 71 (upd (upd anyF 4 (.ptr 0 0 0)) 6 (.ptr 3 0 0)),[some ⟨.box,8,[[nI p5.addr,nI p5.len,nI 0,.sl 1 0 0,nI 0,nI 0,nI 0,.sl 2 0 0]]⟩,some ⟨.arr,1,[]⟩,some ⟨.arr,1,[]⟩,some ⟨.box,8,[[nI r3.prefix_.addr,nI r3.prefix_.len,nI r3.attrs.origin,.sl 4 0 o.1.length,nI r3.attrs.next,nI r3.attrs.med,nI r3.attrs.pref,.sl 5 0 o.2.length]]⟩,some ⟨.arr,1,o.1.map nInt⟩,some ⟨.arr,1,o.2.map nInt⟩]):=by
 unfold m62_5 at h
 rcases brx h with ⟨b27,h⟩|⟨b27,h⟩
 obtain ⟨v41,w40,h⟩:=bcall (e62_6 (eqI a0.kind 5) a0 p5 r3) h;try simp -implicitDefEqProofs only [go_sem] at w40
 rotate_left
 obtain ⟨r30,w29,h⟩:=bcall (e104 r3.attrs.comms (fun y0=>m105 y0 a0) 105 [.tp .imm 2 [[nI a0.kind,nI a0.n]] 0 0] ⟨⟨fun S=>by simp -implicitDefEqProofs only [go_sem],fun _ _ _ _ _ _=>by simp -implicitDefEqProofs only [go_sem]⟩,fun y0 r h=>⟨fun S=>by simp -implicitDefEqProofs only [go_sem,e105 y0 a0 r h],fun S=>by simp -implicitDefEqProofs only [go_sem,e105 y0 a0 r h]⟩⟩) h
 try simp -implicitDefEqProofs only [go_sem] at w29
 all_goals cases h;simp -implicitDefEqProofs only [go_sem,k62_5, *]
theorem e62_3 (a0:Acn)(p9:Bool)(p5:Prefix)(r3:Route)(o:(List Int×List Int))(h:m62_3 a0 p9 r3=some o):evCL T 0 k62_3 (frOf 71 (upd (upd (upd (upd (upd anyF 2 (.ptr 0 0 0)) 4 (.ptr 1 0 0)) 6 (.ptr 4 0 0)) 12 (nI a0.kind)) 25 (.bool p9))) [some ⟨.box,2,[[nI a0.kind,nI a0.n]]⟩,some ⟨.box,8,[[nI p5.addr,nI p5.len,nI 0,.sl 2 0 0,nI 0,nI 0,nI 0,.sl 3 0 0]]⟩,some ⟨.arr,1,[]⟩,some ⟨.arr,1,[]⟩,some ⟨.box,8,[[nI r3.prefix_.addr,nI r3.prefix_.len,nI r3.attrs.origin,.sl 5 0 r3.attrs.path.length,nI r3.attrs.next,nI r3.attrs.med,nI r3.attrs.pref,.sl 6 0 r3.attrs.comms.length]]⟩,some ⟨.arr,1,r3.attrs.path.map nInt⟩,some ⟨.arr,1,r3.attrs.comms.map nInt⟩]=some (.normal,frOf 71 (upd (upd anyF 4 (.ptr 0 0 0)) 6 (.ptr 3 0 0)),[some ⟨.box,8,[[nI p5.addr,nI p5.len,nI 0,.sl 1 0 0,nI 0,nI 0,nI 0,.sl 2 0 0]]⟩,some ⟨.arr,1,[]⟩,some ⟨.arr,1,[]⟩,some ⟨.box,8,[[nI r3.prefix_.addr,nI r3.prefix_.len,nI r3.attrs.origin,.sl 4 0 o.1.length,nI r3.attrs.next,nI r3.attrs.med,nI r3.attrs.pref,.sl 5 0 o.2.length]]⟩,some ⟨.arr,1,o.1.map nInt⟩,some ⟨.arr,1,o.2.map nInt⟩]):=by
 unfold m62_3 at h
 rcases brx h with ⟨b10,h⟩|⟨b10,h⟩
 obtain ⟨⟨v44,v45⟩,w43,h⟩:=bcall (e62_5 a0 (eqI a0.kind 4) p5 r3) h;replace h:=sel2_some h;try simp -implicitDefEqProofs only [go_sem] at w43
 rotate_left
 obtain ⟨⟨r13,r14⟩,w12,h⟩:=bcall (e102 r3.attrs.comms a0.n) h;replace h:=sel2_some h;obtain ⟨v25,w24,h⟩:=bcall (e62_4 r13 (!r14) a0 p5 r3) h;(try simp -implicitDefEqProofs only [go_sem] at w12);try simp -implicitDefEqProofs only [go_sem] at w24
 all_goals cases h;simp -implicitDefEqProofs only [go_sem,k62_3, *]
theorem e62_2 (a0:Acn)(p7:Bool)(p5:Prefix)(r3:Route)(o:(Int×List Int×List Int))(h:m62_2 a0 p7 r3=some o):evCL T 0 k62_2 (frOf 71 (upd (upd (upd (upd (upd anyF 2 (.ptr 0 0 0)) 4 (.ptr 1 0 0)) 6 (.ptr 4 0 0)) 12 (nI a0.kind)) 19 (.bool p7))) [some ⟨.box,2,[[nI a0.kind,nI a0.n]]⟩,some ⟨.box,8,[[nI p5.addr,nI p5.len,nI 0,.sl 2 0 0,nI 0,nI 0,nI 0,.sl 3 0 0]]⟩,some ⟨.arr,1,[]⟩,some ⟨.arr,1,[]⟩,some ⟨.box,8,[[nI r3.prefix_.addr,nI r3.prefix_.len,nI r3.attrs.origin,.sl 5 0 r3.attrs.path.length,nI r3.attrs.next,nI r3.attrs.med,nI r3.attrs.pref,.sl 6 0 r3.attrs.comms.length]]⟩,some ⟨.arr,1,r3.attrs.path.map nInt⟩,some ⟨.arr,1,r3.attrs.comms.map nInt⟩]=some (.normal,frOf 71 (upd (upd anyF 4 (.ptr 0 0 0)) 6 (.ptr 3 0 0)),[some ⟨.box,8,[[nI p5.addr,nI p5.len,nI 0,.sl 1 0 0,nI 0,nI 0,nI 0,.sl 2 0 0]]⟩,some ⟨.arr,1,[]⟩,some ⟨.arr,1,[]⟩,some ⟨.box,8,[[nI r3.prefix_.addr,nI r3.prefix_.len,nI r3.attrs.origin,.sl 4 0 o.2.1.length,nI r3.attrs.next,nI o.1,nI r3.attrs.pref,.sl 5 0 o.2.2.length]]⟩,some ⟨.arr,1,o.2.1.map nInt⟩,some ⟨.arr,1,o.2.2.map nInt⟩]):=by
 unfold m62_2 at h
 rcases brx h with ⟨b8,h⟩|⟨b8,h⟩
 obtain ⟨⟨v48,v49⟩,w47,h⟩:=bcall (e62_3 a0 (eqI a0.kind 3) p5 r3) h;replace h:=sel2_some h;try simp -implicitDefEqProofs only [go_sem] at w47
 all_goals cases h;simp -implicitDefEqProofs only [go_sem,k62_2, *]
theorem e62_1 (a0:Acn)(p4:Bool)(p5:Prefix)(r3:Route)(o:(Int×Int×List Int×List Int))(h:m62_1 a0 p4 r3=some o):evCL T 0 k62_1 (frOf 71 (upd (upd (upd (upd (upd anyF 2 (.ptr 0 0 0)) 4 (.ptr 1 0 0)) 6 (.ptr 4 0 0)) 12 (nI a0.kind)) 13 (.bool p4))) [some ⟨.box,2,[[nI a0.kind,nI a0.n]]⟩,some ⟨.box,8,[[nI p5.addr,nI p5.len,nI 0,.sl 2 0 0,nI 0,nI 0,nI 0,.sl 3 0 0]]⟩,some ⟨.arr,1,[]⟩,some ⟨.arr,1,[]⟩,some ⟨.box,8,[[nI r3.prefix_.addr,nI r3.prefix_.len,nI r3.attrs.origin,.sl 5 0 r3.attrs.path.length,nI r3.attrs.next,nI r3.attrs.med,nI r3.attrs.pref,.sl 6 0 r3.attrs.comms.length]]⟩,some ⟨.arr,1,r3.attrs.path.map nInt⟩,some ⟨.arr,1,r3.attrs.comms.map nInt⟩]=some (.normal,frOf 71 (upd (upd anyF 4 (.ptr 0 0 0)) 6 (.ptr 3 0 0)),[some ⟨.box,8,[[nI p5.addr,nI p5.len,nI 0,.sl 1 0 0,nI 0,nI 0,nI 0,.sl 2 0 0]]⟩,some ⟨.arr,1,[]⟩,some ⟨.arr,1,[]⟩,some ⟨.box,8,[[nI r3.prefix_.addr,nI r3.prefix_.len,nI r3.attrs.origin,.sl 4 0 o.2.2.1.length,nI r3.attrs.next,nI o.1,nI o.2.1,.sl 5 0 o.2.2.2.length]]⟩,some ⟨.arr,1,o.2.2.1.map nInt⟩,some ⟨.arr,1,o.2.2.2.map nInt⟩]):=by
 unfold m62_1 at h
 rcases brx h with ⟨b6,h⟩|⟨b6,h⟩
 obtain ⟨⟨v52,v53,v54⟩,w51,h⟩:=bcall (e62_2 a0 (eqI a0.kind 2) p5 r3) h;replace h:=sel3_some h;try simp -implicitDefEqProofs only [go_sem] at w51
 all_goals cases h;simp -implicitDefEqProofs only [go_sem,k62_1, *]
theorem e62 (a0:Acn)(a1:Route)(r:(Route×Bool))(h:m62 a0 a1=some r):evFL T 62 [.agg [nI a0.kind,nI a0.n],.agg (nRou .imm a1)] []=some (.tup [.agg [nI r.1.prefix_.addr,nI r.1.prefix_.len,nI r.1.attrs.origin,.sl 0 0 r.1.attrs.path.length,nI r.1.attrs.next,nI r.1.attrs.med,nI r.1.attrs.pref,.sl 1 0 r.1.attrs.comms.length],.bool r.2],[some ⟨.arr,1,r.1.attrs.path.map nInt⟩,some ⟨.arr,1,r.1.attrs.comms.map nInt⟩]):=by
 unfold m62 at h;rw [ev fn62 rfl];obtain ⟨r3,w2,h⟩:=bcall (e60 a1) h;obtain ⟨⟨v57,v58,v59,v60⟩,w56,h⟩:=bcall (e62_1 a0 (eqI a0.kind 1) (⟨0,0⟩:Prefix) r3) h;replace h:=sel4_some h;(try simp -implicitDefEqProofs only [go_sem] at w2);obtain ⟨r63,w62,h⟩:=bcall (e33 (⟨r3.prefix_,(⟨r3.attrs.origin,v59,r3.attrs.next,v57,v58,v60⟩:Attrs)⟩:Route)) h;(try simp -implicitDefEqProofs only [go_sem] at w56 w62);cases h;simp -implicitDefEqProofs only [go_sem,i62,c62,w2,w56,w62]
@[go_sem] theorem call34:CL 34 [[5,0],[0,0,0,1,0,0,0,1]]:=evCall0 fn34 rfl rfl rfl
theorem e34_1 (a0:Policy)(p4:Prefix)(r3:Route)(o:Int)(h:m34_1 a0=some o):evCL T 0 k34_1 (frOf 55 (upd (upd (upd (upd (upd anyF 2 (.ptr 0 0 0)) 4 (.ptr 1 0 0)) 6 (.ptr 4 0 0)) 7 (nI 2)) 17 (.bool a0.accept))) [some ⟨.box,2,[(nPol .imm a0)]⟩,some ⟨.box,8,[[nI p4.addr,nI p4.len,nI 0,.sl 2 0 0,nI 0,nI 0,nI 0,.sl 3 0 0]]⟩,some ⟨.arr,1,[]⟩,some ⟨.arr,1,[]⟩,some ⟨.box,8,[[nI r3.prefix_.addr,nI r3.prefix_.len,nI r3.attrs.origin,.sl 5 0 r3.attrs.path.length,nI r3.attrs.next,nI r3.attrs.med,nI r3.attrs.pref,.sl 6 0 r3.attrs.comms.length]]⟩,some ⟨.arr,1,r3.attrs.path.map nInt⟩,some ⟨.arr,1,r3.attrs.comms.map nInt⟩]=some (.normal,frOf 55 (upd (upd (upd (upd anyF 2 (.ptr 0 0 0)) 4 (.ptr 1 0 0)) 6 (.ptr 4 0 0)) 7 (nI o)),[some ⟨.box,2,[(nPol .imm a0)]⟩,some ⟨.box,8,[[nI p4.addr,nI p4.len,nI 0,.sl 2 0 0,nI 0,nI 0,nI 0,.sl 3 0 0]]⟩,some ⟨.arr,1,[]⟩,some ⟨.arr,1,[]⟩,some ⟨.box,8,[[nI r3.prefix_.addr,nI r3.prefix_.len,nI r3.attrs.origin,.sl 5 0 r3.attrs.path.length,nI r3.attrs.next,nI r3.attrs.med,nI r3.attrs.pref,.sl 6 0 r3.attrs.comms.length]]⟩,some ⟨.arr,1,r3.attrs.path.map nInt⟩,some ⟨.arr,1,r3.attrs.comms.map nInt⟩]):=by
 unfold m34_1 at h
 rcases brx h with ⟨b5,h⟩|⟨b5,h⟩
 all_goals cases h;simp -implicitDefEqProofs only [go_sem,k34_1,b5]
theorem e34_10 (v8:Int)(a0:Policy)(p9:Int)(s97:Int)(x106:Term)(p115:Int)(s136:Int)(r153:Bool)(p10:Prefix)(s137:Prefix)(s138:Int)(s139:Int)(s140:Int)(s141:Int)(s142:List Int)(s143:List Int)(r152:Route)(o:(Prefix×Int×Int×Int×Int×List Int×List Int))(h:m34_10 r153 s137 s138 s139 s140 s141 s142 s143 r152=some o):evCL T 0 k34_10 (frOf 55 (upd (upd (upd (upd (upd (upd (upd (upd (upd (upd (upd (upd anyF 4 (.ptr 0 0 0)) 6 (.ptr 3 0 0)) 7 (nI v8)) 9 (.ptr 6 0 0)) 12 (.ptr 7 0 0)) 19 (.ts .imm 5 (a0.terms.map (nTer .imm)))) 20 (nI p9)) 21 (nI s97)) 30 (.ts .imm 2 (x106.acts.map nAcn))) 31 (nI p115)) 32 (nI s136)) 42 (.bool r153))) [some ⟨.box,8,[[nI p10.addr,nI p10.len,nI 0,.sl 1 0 0,nI 0,nI 0,nI 0,.sl 2 0 0]]⟩,some ⟨.arr,1,[]⟩,some ⟨.arr,1,[]⟩,some ⟨.box,8,[[nI s137.addr,nI s137.len,nI s138,.sl 4 0 s142.length,nI s139,nI s140,nI s141,.sl 5 0 s143.length]]⟩,some ⟨.arr,1,s142.map nInt⟩,some ⟨.arr,1,s143.map nInt⟩,some ⟨.box,5,[(nTer .imm x106)]⟩,some ⟨.box,8,[[nI r152.prefix_.addr,nI r152.prefix_.len,nI r152.attrs.origin,.sl 8 0 r152.attrs.path.length,nI r152.attrs.next,nI r152.attrs.med,nI r152.attrs.pref,.sl 9 0 r152.attrs.comms.length]]⟩,some ⟨.arr,1,r152.attrs.path.map nInt⟩,some ⟨.arr,1,r152.attrs.comms.map nInt⟩]=some (.normal,frOf 55 (upd (upd (upd (upd (upd (upd (upd (upd (upd (upd anyF 4 (.ptr 0 0 0)) 6 (.ptr 3 0 0)) 7 (nI v8)) 9 (.ptr 6 0 0)) 19 (.ts .imm 5 (a0.terms.map (nTer .imm)))) 20 (nI p9)) 21 (nI s97)) 30 (.ts .imm 2 (x106.acts.map nAcn))) 31 (nI p115)) 32 (nI s136)),[some ⟨.box,8,[[nI p10.addr,nI p10.len,nI 0,.sl 1 0 0,nI 0,nI 0,nI 0,.sl 2 0 0]]⟩,some ⟨.arr,1,[]⟩,some ⟨.arr,1,[]⟩,some ⟨.box,8,[[nI o.1.addr,nI o.1.len,nI o.2.1,.sl 4 0 o.2.2.2.2.2.1.length,nI o.2.2.1,nI o.2.2.2.1,nI o.2.2.2.2.1,.sl 5 0 o.2.2.2.2.2.2.length]]⟩,some ⟨.arr,1,o.2.2.2.2.2.1.map nInt⟩,some ⟨.arr,1,o.2.2.2.2.2.2.map nInt⟩,some ⟨.box,5,[(nTer .imm x106)]⟩]):=by
 unfold m34_10 at h
 rcases brx h with ⟨b154,h⟩|⟨b154,h⟩
 all_goals cases h;simp -implicitDefEqProofs only [go_sem,k34_10,b154]
@[go_sem] noncomputable def X34_8 (v8:Int)(a0:Policy)(p9:Int)(s97:Int)(x106:Term)(p10:Prefix)(o:(Prefix×Int×Int×Int×Int×List Int×List Int)):Ex×Fr×St :=
 (.exit 2,frOf 55 (upd (upd (upd (upd (upd (upd (upd anyF 4 (.ptr 0 0 0)) 6 (.ptr 3 0 0)) 7 (nI v8)) 9 (.ptr 6 0 0)) 19 (.ts .imm 5 (a0.terms.map (nTer .imm)))) 20 (nI p9)) 21 (nI s97)),[some ⟨.box,8,[[nI p10.addr,nI p10.len,nI 0,.sl 1 0 0,nI 0,nI 0,nI 0,.sl 2 0 0]]⟩,some ⟨.arr,1,[]⟩,some ⟨.arr,1,[]⟩,some ⟨.box,8,[[nI o.1.addr,nI o.1.len,nI o.2.1,.sl 4 0 o.2.2.2.2.2.1.length,nI o.2.2.1,nI o.2.2.2.1,nI o.2.2.2.2.1,.sl 5 0 o.2.2.2.2.2.2.length]]⟩,some ⟨.arr,1,o.2.2.2.2.2.1.map nInt⟩,some ⟨.arr,1,o.2.2.2.2.2.2.map nInt⟩,some ⟨.box,5,[(nTer .imm x106)]⟩])
@[go_sem] noncomputable def E34_8 (v8:Int)(a0:Policy)(p9:Int)(s97:Int)(x106:Term)(p115:Int)(p10:Prefix)(s:(Int×Prefix×Int×Int×Int×Int×List Int×List Int)):Fr×St:=(frOf 55 (upd (upd (upd (upd (upd (upd (upd (upd (upd (upd anyF 4 (.ptr 0 0 0)) 6 (.ptr 3 0 0)) 7 (nI v8)) 9 (.ptr 6 0 0)) 19 (.ts .imm 5 (a0.terms.map (nTer .imm)))) 20 (nI p9)) 21 (nI s97)) 30 (.ts .imm 2 (x106.acts.map nAcn))) 31 (nI p115)) 32 (nI s.1)),[some ⟨.box,8,[[nI p10.addr,nI p10.len,nI 0,.sl 1 0 0,nI 0,nI 0,nI 0,.sl 2 0 0]]⟩,some ⟨.arr,1,[]⟩,some ⟨.arr,1,[]⟩,some ⟨.box,8,[[nI s.2.1.addr,nI s.2.1.len,nI s.2.2.1,.sl 4 0 s.2.2.2.2.2.2.1.length,nI s.2.2.2.1,nI s.2.2.2.2.1,nI s.2.2.2.2.2.1,.sl 5 0 s.2.2.2.2.2.2.2.length]]⟩,some ⟨.arr,1,s.2.2.2.2.2.2.1.map nInt⟩,some ⟨.arr,1,s.2.2.2.2.2.2.2.map nInt⟩,some ⟨.box,5,[(nTer .imm x106)]⟩])
theorem e34_8 (v8:Int)(a0:Policy)(p9:Int)(s97:Int)(x106:Term)(p115:Int)(p10:Prefix):LW T 0 k34_8b (m34_8b x106 p115) (E34_8 v8 a0 p9 s97 x106 p115 p10) (X34_8 v8 a0 p9 s97 x106 p10):=by
 refine lwk nofun fun s o h=>?_
 unfold m34_8b at h;obtain ⟨s136,s137,s138,s139,s140,s141,s142,s143⟩:=s;replace h:=sel8_some h
 rcases brx h with ⟨b144,h⟩|⟨b144,h⟩
 rotate_left
 obtain ⟨x145,g147,g148,g149,h⟩:=bidx nAcn h;obtain ⟨⟨r152,r153⟩,w151,h⟩:=bcall (e62 x145 (⟨s137,(⟨s138,s142,s139,s140,s141,s143⟩:Attrs)⟩:Route)) h;replace h:=sel2_some h;obtain ⟨⟨v157,v158,v159,v160,v161,v162,v163⟩,w156,h⟩:=bcall (e34_10 v8 a0 p9 s97 x106 p115 s136 r153 p10 s137 s138 s139 s140 s141 s142 s143 r152) h;replace h:=sel7_some h;(try simp -implicitDefEqProofs only [go_sem] at g148 g149 w151);try simp -implicitDefEqProofs only [go_sem] at w156
 all_goals cases h;simp -implicitDefEqProofs only [go_sem,k34_8b, *]
@[go_sem] noncomputable def X34_7 (v8:Int)(a0:Policy)(p9:Int)(s97:Int)(p10:Prefix)(o:((Prefix×Int×Int×Int×Int×List Int×List Int) ⊕ (Int×Prefix×Int×Int×Int×Int×List Int×List Int))):Ex×Fr×St :=
 match o with
 | .inl o=>(.normal,frOf 55 (upd (upd (upd (upd (upd (upd anyF 4 (.ptr 0 0 0)) 6 (.ptr 3 0 0)) 7 (nI v8)) 19 (.ts .imm 5 (a0.terms.map (nTer .imm)))) 20 (nI p9)) 21 (nI s97)),[some ⟨.box,8,[[nI p10.addr,nI p10.len,nI 0,.sl 1 0 0,nI 0,nI 0,nI 0,.sl 2 0 0]]⟩,some ⟨.arr,1,[]⟩,some ⟨.arr,1,[]⟩,some ⟨.box,8,[[nI o.1.addr,nI o.1.len,nI o.2.1,.sl 4 0 o.2.2.2.2.2.1.length,nI o.2.2.1,nI o.2.2.2.1,nI o.2.2.2.2.1,.sl 5 0 o.2.2.2.2.2.2.length]]⟩,some ⟨.arr,1,o.2.2.2.2.2.1.map nInt⟩,some ⟨.arr,1,o.2.2.2.2.2.2.map nInt⟩])
 | .inr o=>(.exit 0,frOf 55 (upd (upd (upd anyF 4 (.ptr 0 0 0)) 6 (.ptr 3 0 0)) 7 (nI o.1)),[some ⟨.box,8,[[nI p10.addr,nI p10.len,nI 0,.sl 1 0 0,nI 0,nI 0,nI 0,.sl 2 0 0]]⟩,some ⟨.arr,1,[]⟩,some ⟨.arr,1,[]⟩,some ⟨.box,8,[[nI o.2.1.addr,nI o.2.1.len,nI o.2.2.1,.sl 4 0 o.2.2.2.2.2.2.1.length,nI o.2.2.2.1,nI o.2.2.2.2.1,nI o.2.2.2.2.2.1,.sl 5 0 o.2.2.2.2.2.2.2.length]]⟩,some ⟨.arr,1,o.2.2.2.2.2.2.1.map nInt⟩,some ⟨.arr,1,o.2.2.2.2.2.2.2.map nInt⟩])
theorem e34_7 (v8:Int)(a0:Policy)(p9:Int)(s97:Int)(p10:Prefix)(s98:Prefix)(s99:Int)(s100:Int)(s101:Int)(s102:Int)(s103:List Int)(s104:List Int)(o:((Prefix×Int×Int×Int×Int×List Int×List Int) ⊕ (Int×Prefix×Int×Int×Int×Int×List Int×List Int)))(h:m34_7 a0 s97 s98 s99 s100 s101 s102 s103 s104=some o):evCL T 0 k34_7 (frOf 55 (upd (upd (upd (upd (upd (upd anyF 4 (.ptr 0 0 0)) 6 (.ptr 3 0 0)) 7 (nI v8)) 19 (.ts .imm 5 (a0.terms.map (nTer .imm)))) 20 (nI p9)) 21 (nI s97))) [some ⟨.box,8,[[nI p10.addr,nI p10.len,nI 0,.sl 1 0 0,nI 0,nI 0,nI 0,.sl 2 0 0]]⟩,some ⟨.arr,1,[]⟩,some ⟨.arr,1,[]⟩,some ⟨.box,8,[[nI s98.addr,nI s98.len,nI s99,.sl 4 0 s103.length,nI s100,nI s101,nI s102,.sl 5 0 s104.length]]⟩,some ⟨.arr,1,s103.map nInt⟩,some ⟨.arr,1,s104.map nInt⟩]=some (X34_7 v8 a0 p9 s97 p10 o):=by
 unfold m34_7 at h;obtain ⟨x106,g108,g109,g110,h⟩:=bidx (nTer .imm) h;obtain ⟨r113,w112,h⟩:=bcall (e61 x106 (⟨s98,(⟨s99,s103,s100,s101,s102,s104⟩:Attrs)⟩:Route)) h;try simp -implicitDefEqProofs only [go_sem] at g109 g110 w112
 rcases brx h with ⟨b114,h⟩|⟨b114,h⟩
 rotate_left
 obtain ⟨⟨v166,v167,v168,v169,v170,v171,v172⟩,w165,h⟩:=bcall (e34_8 v8 a0 p9 s97 x106 (↑x106.acts.length:Int) p10 (0,s98,s99,s100,s101,s102,s103,s104)) h;replace h:=sel7_some h;try simp -implicitDefEqProofs only [go_sem] at w165
 rcases brx h with ⟨b173,h⟩|⟨b173,h⟩
 all_goals cases h;simp -implicitDefEqProofs only [go_sem,k34_7, *]
@[go_sem] noncomputable def X34_2 (p10:Prefix)(o:(Int×Prefix×Int×Int×Int×Int×List Int×List Int)):Ex×Fr×St :=
 (.exit 0,frOf 55 (upd (upd (upd anyF 4 (.ptr 0 0 0)) 6 (.ptr 3 0 0)) 7 (nI o.1)),[some ⟨.box,8,[[nI p10.addr,nI p10.len,nI 0,.sl 1 0 0,nI 0,nI 0,nI 0,.sl 2 0 0]]⟩,some ⟨.arr,1,[]⟩,some ⟨.arr,1,[]⟩,some ⟨.box,8,[[nI o.2.1.addr,nI o.2.1.len,nI o.2.2.1,.sl 4 0 o.2.2.2.2.2.2.1.length,nI o.2.2.2.1,nI o.2.2.2.2.1,nI o.2.2.2.2.2.1,.sl 5 0 o.2.2.2.2.2.2.2.length]]⟩,some ⟨.arr,1,o.2.2.2.2.2.2.1.map nInt⟩,some ⟨.arr,1,o.2.2.2.2.2.2.2.map nInt⟩])
@[go_sem] noncomputable def E34_2 (v8:Int)(a0:Policy)(p9:Int)(p10:Prefix)(s:(Int×Prefix×Int×Int×Int×Int×List Int×List Int)):Fr×St:=(frOf 55 (upd (upd (upd (upd (upd (upd anyF 4 (.ptr 0 0 0)) 6 (.ptr 3 0 0)) 7 (nI v8)) 19 (.ts .imm 5 (a0.terms.map (nTer .imm)))) 20 (nI p9)) 21 (nI s.1)),[some ⟨.box,8,[[nI p10.addr,nI p10.len,nI 0,.sl 1 0 0,nI 0,nI 0,nI 0,.sl 2 0 0]]⟩,some ⟨.arr,1,[]⟩,some ⟨.arr,1,[]⟩,some ⟨.box,8,[[nI s.2.1.addr,nI s.2.1.len,nI s.2.2.1,.sl 4 0 s.2.2.2.2.2.2.1.length,nI s.2.2.2.1,nI s.2.2.2.2.1,nI s.2.2.2.2.2.1,.sl 5 0 s.2.2.2.2.2.2.2.length]]⟩,some ⟨.arr,1,s.2.2.2.2.2.2.1.map nInt⟩,some ⟨.arr,1,s.2.2.2.2.2.2.2.map nInt⟩])
theorem e34_2 (v8:Int)(a0:Policy)(p9:Int)(p10:Prefix):LW T 0 k34_2b (m34_2b v8 a0 p9) (E34_2 v8 a0 p9 p10) (X34_2 p10):=by
 refine lwk nofun fun s o h=>?_
 unfold m34_2b at h;obtain ⟨s97,s98,s99,s100,s101,s102,s103,s104⟩:=s;replace h:=sel8_some h
 rcases brx h with ⟨b105,h⟩|⟨b105,h⟩
 rotate_left
 (try simp -implicitDefEqProofs only [go_sem,k34_2b,b105]);obtain ⟨o,w175,h⟩:=bcall (e34_7 v8 a0 p9 s97 p10 s98 s99 s100 s101 s102 s103 s104) h
 rcases o with ⟨v176,v177,v178,v179,v180,v181,v182⟩|⟨v183,v184,v185,v186,v187,v188,v189,v190⟩
 replace h:=selS_l h;replace h:=sel7_some h;try simp -implicitDefEqProofs only [go_sem] at w175
 rotate_left
 replace h:=selS_r h;replace h:=sel8_some h;try simp -implicitDefEqProofs only [go_sem] at w175
 all_goals cases h;simp -implicitDefEqProofs only [go_sem,k34_2b, *]
theorem e34 (a0:Policy)(a1:Route)(r:(Route×Int))(h:m34 a0 a1=some r):evFL T 34 [.agg (nPol .imm a0),.agg (nRou .imm a1)] []=some (.tup [.agg [nI r.1.prefix_.addr,nI r.1.prefix_.len,nI r.1.attrs.origin,.sl 0 0 r.1.attrs.path.length,nI r.1.attrs.next,nI r.1.attrs.med,nI r.1.attrs.pref,.sl 1 0 r.1.attrs.comms.length],nI r.2],[some ⟨.arr,1,r.1.attrs.path.map nInt⟩,some ⟨.arr,1,r.1.attrs.comms.map nInt⟩]):=by
 unfold m34 at h;rw [ev fn34 rfl];obtain ⟨r3,w2,h⟩:=bcall (e60 a1) h;obtain ⟨v8,w7,h⟩:=bcall (e34_1 a0 (⟨0,0⟩:Prefix) r3) h;(try simp -implicitDefEqProofs only [go_sem] at w2);obtain ⟨⟨v193,v194,v195,v196,v197,v198,v199,v200⟩,w192,h⟩:=bcall (e34_2 v8 a0 (↑a0.terms.length:Int) (⟨0,0⟩:Prefix) (0,r3.prefix_,r3.attrs.origin,r3.attrs.next,r3.attrs.med,r3.attrs.pref,r3.attrs.path,r3.attrs.comms)) h;replace h:=sel8_some h;(try simp -implicitDefEqProofs only [go_sem] at w7);try simp -implicitDefEqProofs only [go_sem] at w192
 rcases brx h with ⟨b201,h⟩|⟨b201,h⟩
 all_goals cases h;simp -implicitDefEqProofs only [go_sem,i34,c34,w2,w7,w192,b201]
@[go_sem] theorem calls19 (args:List AV)(S:St):evCall (T.at true) (evFL T) 19 args S=lendC (evFL T 19) S (lendAll S [[5,0],[8]] args):=evCall0 fns19 rfl rfl rfl args S
theorem e19_1 (a1:List Route)(a0:Policy)(o:Bool)(h:m19_1 a1 a0=some o):evCL T 0 k19_1 (frOf 44 (upd (upd anyF 1 (.ts .imm 8 (a1.map (nRou .imm)))) 2 (.ptr 0 0 0))) [some ⟨.box,2,[(nPol .imm a0)]⟩]=some (.normal,frOf 44 (upd (upd (upd anyF 1 (.ts .imm 8 (a1.map (nRou .imm)))) 2 (.ptr 0 0 0)) 22 (.bool o)),[some ⟨.box,2,[(nPol .imm a0)]⟩]):=by
 unfold m19_1 at h;obtain ⟨r3,w2,h⟩:=bcall (e32 a0) h;try simp -implicitDefEqProofs only [go_sem] at w2
 rcases brx h with ⟨b4,h⟩|⟨b4,h⟩
 rotate_left
 try simp -implicitDefEqProofs only [go_sem,k19_1,w2,b4]
 rcases brx h with ⟨b5,h⟩|⟨b5,h⟩
 obtain ⟨r8,w7,h⟩:=bcall (e41 a1 (fun y0=>m42 y0) 42 [] ⟨⟨fun S=>by simp -implicitDefEqProofs only [go_sem],fun _ _ _ _ _ _=>by simp -implicitDefEqProofs only [go_sem]⟩,fun y0 r h=>⟨fun S=>by simp -implicitDefEqProofs only [go_sem,e42 y0 r h],fun S=>by simp -implicitDefEqProofs only [go_sem,e42 y0 r h]⟩⟩) h
 try simp -implicitDefEqProofs only [go_sem] at w7
 all_goals cases h;simp -implicitDefEqProofs only [go_sem,k19_1, *]
theorem e19_4 (a1:List Route)(p13:Int)(s29:Int)(p41:Bool)(a0:Policy)(s30:List Route)(r39:Route)(o:List Route)(h:m19_4 p41 s30 r39=some o):evCL T 0 k19_4 (frOf 44 (upd (upd (upd (upd (upd (upd (upd anyF 2 (.ptr 0 0 0)) 6 (.sl 1 0 s30.length)) 9 (.ptr 2 0 0)) 24 (.ts .imm 8 (a1.map (nRou .imm)))) 25 (nI p13)) 26 (nI s29)) 37 (.bool p41))) [some ⟨.box,2,[(nPol .imm a0)]⟩,some ⟨.arr,8,s30.map (nRou .own)⟩,some ⟨.box,8,[[nI r39.prefix_.addr,nI r39.prefix_.len,nI r39.attrs.origin,.sl 3 0 r39.attrs.path.length,nI r39.attrs.next,nI r39.attrs.med,nI r39.attrs.pref,.sl 4 0 r39.attrs.comms.length]]⟩,some ⟨.arr,1,r39.attrs.path.map nInt⟩,some ⟨.arr,1,r39.attrs.comms.map nInt⟩]=some (.normal,frOf 44 (upd (upd (upd (upd (upd anyF 2 (.ptr 0 0 0)) 6 (.sl 1 0 o.length)) 24 (.ts .imm 8 (a1.map (nRou .imm)))) 25 (nI p13)) 26 (nI s29)),[some ⟨.box,2,[(nPol .imm a0)]⟩,some ⟨.arr,8,o.map (nRou .own)⟩]):=by
 unfold m19_4 at h
 rcases brx h with ⟨b42,h⟩|⟨b42,h⟩
 rotate_left
 obtain ⟨g43,h⟩:=ck_some h;try simp -implicitDefEqProofs only [go_sem] at g43
 all_goals cases h;simp -implicitDefEqProofs only [go_sem,k19_4, *]
@[go_sem] noncomputable def X19_2 (o:List Route):Ex×Fr×St :=
 (.exit 0,frOf 44 (upd anyF 6 (.sl 0 0 o.length)),[some ⟨.arr,8,o.map (nRou .own)⟩])
@[go_sem] noncomputable def E19_2 (a1:List Route)(p13:Int)(a0:Policy)(s:(Int×List Route)):Fr×St:=(frOf 44 (upd (upd (upd (upd (upd anyF 2 (.ptr 0 0 0)) 6 (.sl 1 0 s.2.length)) 24 (.ts .imm 8 (a1.map (nRou .imm)))) 25 (nI p13)) 26 (nI s.1)),[some ⟨.box,2,[(nPol .imm a0)]⟩,some ⟨.arr,8,s.2.map (nRou .own)⟩])
theorem e19_2 (a1:List Route)(p13:Int)(a0:Policy):LW T 0 k19_2b (m19_2b a1 p13 a0) (E19_2 a1 p13 a0) X19_2:=by
 refine lwk nofun fun s o h=>?_
 unfold m19_2b at h;obtain ⟨s29,s30⟩:=s;replace h:=sel2_some h
 rcases brx h with ⟨b31,h⟩|⟨b31,h⟩
 rotate_left
 obtain ⟨x32,g34,g35,g36,h⟩:=bidx (nRou .imm) h;obtain ⟨⟨r39,r40⟩,w38,h⟩:=bcall (e34 a0 x32) h;replace h:=sel2_some h;obtain ⟨v46,w45,h⟩:=bcall (e19_4 a1 p13 s29 (eqI r40 1) a0 s30 r39) h;(try simp -implicitDefEqProofs only [go_sem] at g35 g36 w38);try simp -implicitDefEqProofs only [go_sem] at w45
 all_goals cases h;simp -implicitDefEqProofs only [go_sem,k19_2b, *]
theorem e19 (a0:Policy)(a1:List Route)(r:((List Route)×Bool))(h:m19 a0 a1=some r):evFL T 19 [.agg (nPol .imm a0),.ts .imm 8 (a1.map (nRou .imm))] []=some (.tup [.sl 0 0 r.1.length,.bool r.2],[some ⟨.arr,8,r.1.map (nRou .own)⟩]):=by
 unfold m19 at h;rw [ev fn19 rfl];obtain ⟨v11,w10,h⟩:=bcall (e19_1 a1 a0) h;try simp -implicitDefEqProofs only [go_sem] at w10
 rcases brx h with ⟨b12,h⟩|⟨b12,h⟩
 obtain ⟨v49,w48,h⟩:=bcall (e19_2 a1 (↑a1.length:Int) a0 (0,[])) h;try simp -implicitDefEqProofs only [go_sem] at w48
 all_goals cases h;simp -implicitDefEqProofs only [go_sem,i19,c19, *]
@[go_sem] theorem call35:CL 35 [[0,0],[0,0]]:=evCall0 fn35 rfl rfl rfl
theorem e35 (a0:Prefix)(a1:Prefix)(r:Bool)(h:m35 a0 a1=some r):evFL T 35 [.agg (nPre a0),.agg (nPre a1)] []=some (.bool r,[]):=by
 unfold m35 at h;rw [ev fn35 rfl]
 rcases brx h with ⟨b1,h⟩|⟨b1,h⟩
 rotate_left
 try simp -implicitDefEqProofs only [go_sem,i35,c35,b1]
 rcases brx h with ⟨b2,h⟩|⟨b2,h⟩
 all_goals cases h;simp -implicitDefEqProofs only [go_sem,i35,c35, *]
@[go_sem] theorem call63:CL 63 [[1],[1]]:=evCall0 fn63 rfl rfl rfl
@[go_sem] noncomputable def X63_1 (o:(Unit ⊕ Unit)):Ex×Fr×St :=
 match o with
 | .inl o=>(.exit 0,frOf 26 (anyF),[])
 | .inr o=>(.ret,frOf 26 (upd anyF 4 (.bool false)),[])
@[go_sem] noncomputable def E63_1 (a0:List Int)(a1:List Int)(s:Int):Fr×St:=(frOf 26 (upd (upd (upd anyF 0 (.ts .imm 1 (a0.map nInt))) 1 (.ts .imm 1 (a1.map nInt))) 5 (nI s)),[])
theorem e63_1 (a0:List Int)(a1:List Int):LW T 0 k63_1b (m63_1b a0 a1) (E63_1 a0 a1) X63_1:=by
 refine lwk (by rintro (b | b)<;>nofun) fun s o h=>?_
 unfold m63_1b at h
 revert h
 generalize s=s14;intro h
 rcases brx h with ⟨b15,h⟩|⟨b15,h⟩
 rotate_left
 obtain ⟨x16,g18,g19,g20,h⟩:=bidx nInt h;obtain ⟨x21,g23,g24,g25,h⟩:=bidx nInt h;try simp -implicitDefEqProofs only [go_sem] at g19 g20 g24 g25
 rcases brx h with ⟨b26,h⟩|⟨b26,h⟩
 all_goals cases h;simp -implicitDefEqProofs only [go_sem,k63_1b, *]
theorem e63 (a0:List Int)(a1:List Int)(r:Bool)(h:m63 a0 a1=some r):evFL T 63 [.ts .imm 1 (a0.map nInt),.ts .imm 1 (a1.map nInt)] []=some (.bool r,[]):=by
 unfold m63 at h;rw [ev fn63 rfl]
 rcases brx h with ⟨b1,h⟩|⟨b1,h⟩
 rotate_left
 (try simp -implicitDefEqProofs only [go_sem,i63,c63,b1]);obtain ⟨o,w28,h⟩:=bcall (e63_1 a0 a1 0) h
 rcases o with ⟨⟩|⟨⟩
 replace h:=selS_l h;try simp -implicitDefEqProofs only [go_sem] at w28
 rotate_left
 replace h:=selS_r h;try simp -implicitDefEqProofs only [go_sem] at w28
 all_goals cases h;simp -implicitDefEqProofs only [go_sem,i63,c63, *]
@[go_sem] theorem call36:CL 36 [[0,1,0,0,0,1],[0,1,0,0,0,1]]:=evCall0 fn36 rfl rfl rfl
theorem e36 (a0:Attrs)(a1:Attrs)(r:Bool)(h:m36 a0 a1=some r):evFL T 36 [.agg (nAtt .imm a0),.agg (nAtt .imm a1)] []=some (.bool r,[]):=by
 unfold m36 at h;rw [ev fn36 rfl]
 rcases brx h with ⟨b1,h⟩|⟨b1,h⟩
 rotate_left
 obtain ⟨r4,w3,h⟩:=bcall (e63 a0.path a1.path) h;try simp -implicitDefEqProofs only [go_sem] at w3
 rcases brx h with ⟨b5,h⟩|⟨b5,h⟩
 rotate_left
 try simp -implicitDefEqProofs only [go_sem,i36,c36,b1,w3,b5]
 rcases brx h with ⟨b6,h⟩|⟨b6,h⟩
 rotate_left
 try simp -implicitDefEqProofs only [go_sem,i36,c36,b1,w3,b5,b6]
 rcases brx h with ⟨b7,h⟩|⟨b7,h⟩
 rotate_left
 try simp -implicitDefEqProofs only [go_sem,i36,c36,b1,w3,b5,b6,b7]
 rcases brx h with ⟨b8,h⟩|⟨b8,h⟩
 rotate_left
 obtain ⟨r11,w10,h⟩:=bcall (e63 a0.comms a1.comms) h;try simp -implicitDefEqProofs only [go_sem] at w10
 rcases brx h with ⟨b12,h⟩|⟨b12,h⟩
 all_goals cases h;simp -implicitDefEqProofs only [go_sem,i36,c36, *]
@[go_sem] theorem callz11:CZ 11 [[0]] [[0,0,0,1,0,0,0,1],[0,0,0,1,0,0,0,1]]:=evCallFz0 fn11 rfl rfl rfl
theorem e11 (a0:Route)(a1:Route)(r:Bool)(h:m11 a0 a1=some r):evFL T 11 [.agg (nRou .imm a0),.agg (nRou .imm a1)] []=some (.bool r,[]):=by
 unfold m11 at h;rw [ev fn11 rfl];obtain ⟨r3,w2,h⟩:=bcall (e35 a0.prefix_ a1.prefix_) h;try simp -implicitDefEqProofs only [go_sem] at w2
 rcases brx h with ⟨b4,h⟩|⟨b4,h⟩
 rotate_left
 obtain ⟨r7,w6,h⟩:=bcall (e36 a0.attrs a1.attrs) h;try simp -implicitDefEqProofs only [go_sem] at w6
 rcases brx h with ⟨b8,h⟩|⟨b8,h⟩
 all_goals cases h;simp -implicitDefEqProofs only [go_sem,i11,c11, *]
@[go_sem] theorem calls20 (args:List AV)(S:St):evCall (T.at true) (evFL T) 20 args S=lendC (evFL T 20) S (lendAll S [[8],[8]] args):=evCall0 fns20 rfl rfl rfl args S
@[go_sem] noncomputable def X20_1 (o:(Unit ⊕ Unit)):Ex×Fr×St :=
 match o with
 | .inl o=>(.exit 0,frOf 27 (anyF),[])
 | .inr o=>(.ret,frOf 27 (upd anyF 4 (.bool false)),[])
@[go_sem] noncomputable def E20_1 (a0:List Route)(a1:List Route)(s:Int):Fr×St:=(frOf 27 (upd (upd (upd anyF 0 (.ts .imm 8 (a0.map (nRou .imm)))) 1 (.ts .imm 8 (a1.map (nRou .imm)))) 5 (nI s)),[])
theorem e20_1 (a0:List Route)(a1:List Route):LW T 0 k20_1b (m20_1b a0 a1) (E20_1 a0 a1) X20_1:=by
 refine lwk (by rintro (b | b)<;>nofun) fun s o h=>?_
 unfold m20_1b at h
 revert h
 generalize s=s17;intro h
 rcases brx h with ⟨b18,h⟩|⟨b18,h⟩
 rotate_left
 obtain ⟨x19,g21,g22,g23,h⟩:=bidx (nRou .imm) h;obtain ⟨x24,g26,g27,g28,h⟩:=bidx (nRou .imm) h;obtain ⟨r31,w30,h⟩:=bcall (e11 x19 x24) h;try simp -implicitDefEqProofs only [go_sem] at g22 g23 g27 g28 w30
 rcases brx h with ⟨b32,h⟩|⟨b32,h⟩
 all_goals cases h;simp -implicitDefEqProofs only [go_sem,k20_1b, *]
theorem e20 (a0:List Route)(a1:List Route)(r:Bool)(h:m20 a0 a1=some r):evFL T 20 [.ts .imm 8 (a0.map (nRou .imm)),.ts .imm 8 (a1.map (nRou .imm))] []=some (.bool r,[]):=by
 unfold m20 at h;rw [ev fn20 rfl]
 rcases brx h with ⟨b1,h⟩|⟨b1,h⟩
 rotate_left
 (try simp -implicitDefEqProofs only [go_sem,i20,c20,b1]);obtain ⟨o,w34,h⟩:=bcall (e20_1 a0 a1 0) h
 rcases o with ⟨⟩|⟨⟩
 replace h:=selS_l h;try simp -implicitDefEqProofs only [go_sem] at w34
 rotate_left
 replace h:=selS_r h;try simp -implicitDefEqProofs only [go_sem] at w34
 all_goals cases h;simp -implicitDefEqProofs only [go_sem,i20,c20, *]
@[go_sem] theorem callz136:CZ 136 [[0]] [[0,0,0,0],[0,0,0,0]]:=evCallFz0 fn136 rfl rfl rfl
theorem e136 (a0:Range)(a1:Range)(r:Bool)(h:m136 a0 a1=some r):evFL T 136 [.agg (nRan a0),.agg (nRan a1)] []=some (.bool r,[]):=by
 unfold m136 at h;rw [ev fn136 rfl];obtain ⟨r3,w2,h⟩:=bcall (e35 a0.prefix_ a1.prefix_) h;try simp -implicitDefEqProofs only [go_sem] at w2
 rcases brx h with ⟨b4,h⟩|⟨b4,h⟩
 rotate_left
 try simp -implicitDefEqProofs only [go_sem,i136,c136,w2,b4]
 rcases brx h with ⟨b5,h⟩|⟨b5,h⟩
 rotate_left
 try simp -implicitDefEqProofs only [go_sem,i136,c136,w2,b4,b5]
 rcases brx h with ⟨b6,h⟩|⟨b6,h⟩
 all_goals cases h;simp -implicitDefEqProofs only [go_sem,i136,c136, *]
@[go_sem] theorem call106:CL 106 [[4],[4]]:=evCall0 fn106 rfl rfl rfl
@[go_sem] noncomputable def X106_1 (o:(Unit ⊕ Unit)):Ex×Fr×St :=
 match o with
 | .inl o=>(.exit 0,frOf 27 (anyF),[])
 | .inr o=>(.ret,frOf 27 (upd anyF 4 (.bool false)),[])
@[go_sem] noncomputable def E106_1 (a0:List Range)(a1:List Range)(s:Int):Fr×St:=(frOf 27 (upd (upd (upd anyF 0 (.ts .imm 4 (a0.map nRan))) 1 (.ts .imm 4 (a1.map nRan))) 5 (nI s)),[])
theorem e106_1 (a0:List Range)(a1:List Range):LW T 0 k106_1b (m106_1b a0 a1) (E106_1 a0 a1) X106_1:=by
 refine lwk (by rintro (b | b)<;>nofun) fun s o h=>?_
 unfold m106_1b at h
 revert h
 generalize s=s17;intro h
 rcases brx h with ⟨b18,h⟩|⟨b18,h⟩
 rotate_left
 obtain ⟨x19,g21,g22,g23,h⟩:=bidx nRan h;obtain ⟨x24,g26,g27,g28,h⟩:=bidx nRan h;obtain ⟨r31,w30,h⟩:=bcall (e136 x19 x24) h;try simp -implicitDefEqProofs only [go_sem] at g22 g23 g27 g28 w30
 rcases brx h with ⟨b32,h⟩|⟨b32,h⟩
 all_goals cases h;simp -implicitDefEqProofs only [go_sem,k106_1b, *]
theorem e106 (a0:List Range)(a1:List Range)(r:Bool)(h:m106 a0 a1=some r):evFL T 106 [.ts .imm 4 (a0.map nRan),.ts .imm 4 (a1.map nRan)] []=some (.bool r,[]):=by
 unfold m106 at h;rw [ev fn106 rfl]
 rcases brx h with ⟨b1,h⟩|⟨b1,h⟩
 rotate_left
 (try simp -implicitDefEqProofs only [go_sem,i106,c106,b1]);obtain ⟨o,w34,h⟩:=bcall (e106_1 a0 a1 0) h
 rcases o with ⟨⟩|⟨⟩
 replace h:=selS_l h;try simp -implicitDefEqProofs only [go_sem] at w34
 rotate_left
 replace h:=selS_r h;try simp -implicitDefEqProofs only [go_sem] at w34
 all_goals cases h;simp -implicitDefEqProofs only [go_sem,i106,c106, *]
@[go_sem] theorem callz137:CZ 137 [[0]] [[0,0],[0,0]]:=evCallFz0 fn137 rfl rfl rfl
theorem e137 (a0:ReCell)(a1:ReCell)(r:Bool)(h:m137 a0 a1=some r):evFL T 137 [.agg [nI a0.kind,nI a0.n],.agg [nI a1.kind,nI a1.n]] []=some (.bool r,[]):=by
 unfold m137 at h;rw [ev fn137 rfl]
 rcases brx h with ⟨b1,h⟩|⟨b1,h⟩
 rotate_left
 try simp -implicitDefEqProofs only [go_sem,i137,c137,b1]
 rcases brx h with ⟨b2,h⟩|⟨b2,h⟩
 all_goals cases h;simp -implicitDefEqProofs only [go_sem,i137,c137, *]
@[go_sem] theorem call107:CL 107 [[2],[2]]:=evCall0 fn107 rfl rfl rfl
@[go_sem] noncomputable def X107_1 (o:(Unit ⊕ Unit)):Ex×Fr×St :=
 match o with
 | .inl o=>(.exit 0,frOf 27 (anyF),[])
 | .inr o=>(.ret,frOf 27 (upd anyF 4 (.bool false)),[])
@[go_sem] noncomputable def E107_1 (a0:List ReCell)(a1:List ReCell)(s:Int):Fr×St:=(frOf 27 (upd (upd (upd anyF 0 (.ts .imm 2 (a0.map nReC))) 1 (.ts .imm 2 (a1.map nReC))) 5 (nI s)),[])
theorem e107_1 (a0:List ReCell)(a1:List ReCell):LW T 0 k107_1b (m107_1b a0 a1) (E107_1 a0 a1) X107_1:=by
 refine lwk (by rintro (b | b)<;>nofun) fun s o h=>?_
 unfold m107_1b at h
 revert h
 generalize s=s17;intro h
 rcases brx h with ⟨b18,h⟩|⟨b18,h⟩
 rotate_left
 obtain ⟨x19,g21,g22,g23,h⟩:=bidx nReC h;obtain ⟨x24,g26,g27,g28,h⟩:=bidx nReC h;obtain ⟨r31,w30,h⟩:=bcall (e137 x19 x24) h;try simp -implicitDefEqProofs only [go_sem] at g22 g23 g27 g28 w30
 rcases brx h with ⟨b32,h⟩|⟨b32,h⟩
 all_goals cases h;simp -implicitDefEqProofs only [go_sem,k107_1b, *]
theorem e107 (a0:List ReCell)(a1:List ReCell)(r:Bool)(h:m107 a0 a1=some r):evFL T 107 [.ts .imm 2 (a0.map nReC),.ts .imm 2 (a1.map nReC)] []=some (.bool r,[]):=by
 unfold m107 at h;rw [ev fn107 rfl]
 rcases brx h with ⟨b1,h⟩|⟨b1,h⟩
 rotate_left
 (try simp -implicitDefEqProofs only [go_sem,i107,c107,b1]);obtain ⟨o,w34,h⟩:=bcall (e107_1 a0 a1 0) h
 rcases o with ⟨⟩|⟨⟩
 replace h:=selS_l h;try simp -implicitDefEqProofs only [go_sem] at w34
 rotate_left
 replace h:=selS_r h;try simp -implicitDefEqProofs only [go_sem] at w34
 all_goals cases h;simp -implicitDefEqProofs only [go_sem,i107,c107, *]
@[go_sem] theorem callz138:CZ 138 [[0]] [[0,0],[0,0]]:=evCallFz0 fn138 rfl rfl rfl
theorem e138 (a0:Acn)(a1:Acn)(r:Bool)(h:m138 a0 a1=some r):evFL T 138 [.agg [nI a0.kind,nI a0.n],.agg [nI a1.kind,nI a1.n]] []=some (.bool r,[]):=by
 unfold m138 at h;rw [ev fn138 rfl]
 rcases brx h with ⟨b1,h⟩|⟨b1,h⟩
 rotate_left
 try simp -implicitDefEqProofs only [go_sem,i138,c138,b1]
 rcases brx h with ⟨b2,h⟩|⟨b2,h⟩
 all_goals cases h;simp -implicitDefEqProofs only [go_sem,i138,c138, *]
@[go_sem] theorem call108:CL 108 [[2],[2]]:=evCall0 fn108 rfl rfl rfl
@[go_sem] noncomputable def X108_1 (o:(Unit ⊕ Unit)):Ex×Fr×St :=
 match o with
 | .inl o=>(.exit 0,frOf 27 (anyF),[])
 | .inr o=>(.ret,frOf 27 (upd anyF 4 (.bool false)),[])
@[go_sem] noncomputable def E108_1 (a0:List Acn)(a1:List Acn)(s:Int):Fr×St:=(frOf 27 (upd (upd (upd anyF 0 (.ts .imm 2 (a0.map nAcn))) 1 (.ts .imm 2 (a1.map nAcn))) 5 (nI s)),[])
theorem e108_1 (a0:List Acn)(a1:List Acn):LW T 0 k108_1b (m108_1b a0 a1) (E108_1 a0 a1) X108_1:=by
 refine lwk (by rintro (b | b)<;>nofun) fun s o h=>?_
 unfold m108_1b at h
 revert h
 generalize s=s17;intro h
 rcases brx h with ⟨b18,h⟩|⟨b18,h⟩
 rotate_left
 obtain ⟨x19,g21,g22,g23,h⟩:=bidx nAcn h;obtain ⟨x24,g26,g27,g28,h⟩:=bidx nAcn h;obtain ⟨r31,w30,h⟩:=bcall (e138 x19 x24) h;try simp -implicitDefEqProofs only [go_sem] at g22 g23 g27 g28 w30
 rcases brx h with ⟨b32,h⟩|⟨b32,h⟩
 all_goals cases h;simp -implicitDefEqProofs only [go_sem,k108_1b, *]
theorem e108 (a0:List Acn)(a1:List Acn)(r:Bool)(h:m108 a0 a1=some r):evFL T 108 [.ts .imm 2 (a0.map nAcn),.ts .imm 2 (a1.map nAcn)] []=some (.bool r,[]):=by
 unfold m108 at h;rw [ev fn108 rfl]
 rcases brx h with ⟨b1,h⟩|⟨b1,h⟩
 rotate_left
 (try simp -implicitDefEqProofs only [go_sem,i108,c108,b1]);obtain ⟨o,w34,h⟩:=bcall (e108_1 a0 a1 0) h
 rcases o with ⟨⟩|⟨⟩
 replace h:=selS_l h;try simp -implicitDefEqProofs only [go_sem] at w34
 rotate_left
 replace h:=selS_r h;try simp -implicitDefEqProofs only [go_sem] at w34
 all_goals cases h;simp -implicitDefEqProofs only [go_sem,i108,c108, *]
@[go_sem] theorem callz64:CZ 64 [[0]] [[4,2,0,2,0],[4,2,0,2,0]]:=evCallFz0 fn64 rfl rfl rfl
theorem e64 (a0:Term)(a1:Term)(r:Bool)(h:m64 a0 a1=some r):evFL T 64 [.agg (nTer .imm a0),.agg (nTer .imm a1)] []=some (.bool r,[]):=by
 unfold m64 at h;rw [ev fn64 rfl];obtain ⟨r3,w2,h⟩:=bcall (e106 a0.ranges a1.ranges) h;try simp -implicitDefEqProofs only [go_sem] at w2
 rcases brx h with ⟨b4,h⟩|⟨b4,h⟩
 rotate_left
 obtain ⟨r7,w6,h⟩:=bcall (e107 a0.path a1.path) h;try simp -implicitDefEqProofs only [go_sem] at w6
 rcases brx h with ⟨b8,h⟩|⟨b8,h⟩
 rotate_left
 try simp -implicitDefEqProofs only [go_sem,i64,c64,w2,b4,w6,b8]
 rcases brx h with ⟨b9,h⟩|⟨b9,h⟩
 rotate_left
 obtain ⟨r12,w11,h⟩:=bcall (e108 a0.acts a1.acts) h;try simp -implicitDefEqProofs only [go_sem] at w11
 rcases brx h with ⟨b13,h⟩|⟨b13,h⟩
 rotate_left
 try simp -implicitDefEqProofs only [go_sem,i64,c64,w2,b4,w6,b8,b9,w11,b13]
 rcases brx h with ⟨b14,h⟩|⟨b14,h⟩
 all_goals cases h;simp -implicitDefEqProofs only [go_sem,i64,c64, *]
@[go_sem] theorem call37:CL 37 [[5],[5]]:=evCall0 fn37 rfl rfl rfl
@[go_sem] noncomputable def X37_1 (o:(Unit ⊕ Unit)):Ex×Fr×St :=
 match o with
 | .inl o=>(.exit 0,frOf 27 (anyF),[])
 | .inr o=>(.ret,frOf 27 (upd anyF 4 (.bool false)),[])
@[go_sem] noncomputable def E37_1 (a0:List Term)(a1:List Term)(s:Int):Fr×St:=(frOf 27 (upd (upd (upd anyF 0 (.ts .imm 5 (a0.map (nTer .imm)))) 1 (.ts .imm 5 (a1.map (nTer .imm)))) 5 (nI s)),[])
theorem e37_1 (a0:List Term)(a1:List Term):LW T 0 k37_1b (m37_1b a0 a1) (E37_1 a0 a1) X37_1:=by
 refine lwk (by rintro (b | b)<;>nofun) fun s o h=>?_
 unfold m37_1b at h
 revert h
 generalize s=s17;intro h
 rcases brx h with ⟨b18,h⟩|⟨b18,h⟩
 rotate_left
 obtain ⟨x19,g21,g22,g23,h⟩:=bidx (nTer .imm) h;obtain ⟨x24,g26,g27,g28,h⟩:=bidx (nTer .imm) h;obtain ⟨r31,w30,h⟩:=bcall (e64 x19 x24) h;try simp -implicitDefEqProofs only [go_sem] at g22 g23 g27 g28 w30
 rcases brx h with ⟨b32,h⟩|⟨b32,h⟩
 all_goals cases h;simp -implicitDefEqProofs only [go_sem,k37_1b, *]
theorem e37 (a0:List Term)(a1:List Term)(r:Bool)(h:m37 a0 a1=some r):evFL T 37 [.ts .imm 5 (a0.map (nTer .imm)),.ts .imm 5 (a1.map (nTer .imm))] []=some (.bool r,[]):=by
 unfold m37 at h;rw [ev fn37 rfl]
 rcases brx h with ⟨b1,h⟩|⟨b1,h⟩
 rotate_left
 (try simp -implicitDefEqProofs only [go_sem,i37,c37,b1]);obtain ⟨o,w34,h⟩:=bcall (e37_1 a0 a1 0) h
 rcases o with ⟨⟩|⟨⟩
 replace h:=selS_l h;try simp -implicitDefEqProofs only [go_sem] at w34
 rotate_left
 replace h:=selS_r h;try simp -implicitDefEqProofs only [go_sem] at w34
 all_goals cases h;simp -implicitDefEqProofs only [go_sem,i37,c37, *]
@[go_sem] theorem callsz12 (args:List AV)(S:St):evCallFz (T.at true) (evFL T) 12 args S=lendZ (evFL T 12) S [[0]] (lendAll S [[5,0],[5,0]] args):=evCallFz0 fns12 rfl rfl rfl args S
theorem e12 (a0:Policy)(a1:Policy)(r:Bool)(h:m12 a0 a1=some r):evFL T 12 [.agg (nPol .imm a0),.agg (nPol .imm a1)] []=some (.bool r,[]):=by
 unfold m12 at h;rw [ev fn12 rfl];obtain ⟨r3,w2,h⟩:=bcall (e37 a0.terms a1.terms) h;try simp -implicitDefEqProofs only [go_sem] at w2
 rcases brx h with ⟨b4,h⟩|⟨b4,h⟩
 rotate_left
 try simp -implicitDefEqProofs only [go_sem,i12,c12,w2,b4]
 rcases brx h with ⟨b5,h⟩|⟨b5,h⟩
 all_goals cases h;simp -implicitDefEqProofs only [go_sem,i12,c12, *]
@[go_sem] theorem calls65 (args:List AV)(S:St):evCall (T.at true) (evFL T) 65 args S=c3A false true (evFL T 65) (rawAll S [[4],[0]] args):=evCall3_g fns65 rfl (fun h=>absurd h.1 (by decide)) args S
@[go_sem] noncomputable def X65_1 (o:(Int×List Range)):Ex×Fr×St :=
 (.exit 0,frOf 43 (upd anyF 1 (nI o.1)),[some ⟨.arr,4,o.2.map nRan⟩])
@[go_sem] noncomputable def E65_1 (s:(Int×Int×List Range)):Fr×St:=(frOf 43 (upd (upd (upd anyF 0 (.sl 0 0 s.2.2.length)) 1 (nI s.1)) 5 (nI s.2.1)),[some ⟨.arr,4,s.2.2.map nRan⟩])
theorem e65_1 :LW T 1 k65_1b m65_1b (E65_1) (X65_1):=by
 refine lwk nofun fun s o h=>?_
 unfold m65_1b at h;obtain ⟨s7,s8,s9⟩:=s;replace h:=sel3_some h
 rcases brx h with ⟨b10,h⟩|⟨b10,h⟩
 rotate_left
 obtain ⟨x11,g13,g14,g15,h⟩:=bidx nRan h;try simp -implicitDefEqProofs only [go_sem] at g14 g15
 all_goals cases h;simp -implicitDefEqProofs only [go_sem,k65_1b, *]
theorem e65 (a0:List Range)(a1:Int)(r:(Int×List Range))(h:m65 a0 a1=some r):evFL T 65 [.sl 0 0 a0.length,nI a1] [some ⟨.arr,4,a0.map nRan⟩]=some (nI r.1,[some ⟨.arr,4,r.2.map nRan⟩]):=by
 unfold m65 at h;rw [ev fn65 rfl];obtain ⟨⟨v18,v19⟩,w17,h⟩:=bcall (e65_1 (a1,0,a0)) h;replace h:=sel2_some h;(try simp -implicitDefEqProofs only [go_sem] at w17);cases h;simp -implicitDefEqProofs only [go_sem,i65,c65,w17]
@[go_sem] theorem calls66 (args:List AV)(S:St):evCall (T.at true) (evFL T) 66 args S=c3A false true (evFL T 66) (rawAll S [[2],[0]] args):=evCall3_g fns66 rfl (fun h=>absurd h.1 (by decide)) args S
@[go_sem] noncomputable def X66_1 (o:(Int×List ReCell)):Ex×Fr×St :=
 (.exit 0,frOf 27 (upd anyF 1 (nI o.1)),[some ⟨.arr,2,o.2.map nReC⟩])
@[go_sem] noncomputable def E66_1 (s:(Int×Int×List ReCell)):Fr×St:=(frOf 27 (upd (upd (upd anyF 0 (.sl 0 0 s.2.2.length)) 1 (nI s.1)) 5 (nI s.2.1)),[some ⟨.arr,2,s.2.2.map nReC⟩])
theorem e66_1 :LW T 1 k66_1b m66_1b (E66_1) (X66_1):=by
 refine lwk nofun fun s o h=>?_
 unfold m66_1b at h;obtain ⟨s7,s8,s9⟩:=s;replace h:=sel3_some h
 rcases brx h with ⟨b10,h⟩|⟨b10,h⟩
 rotate_left
 obtain ⟨x11,g13,g14,g15,h⟩:=bidx nReC h;try simp -implicitDefEqProofs only [go_sem] at g14 g15
 all_goals cases h;simp -implicitDefEqProofs only [go_sem,k66_1b, *]
theorem e66 (a0:List ReCell)(a1:Int)(r:(Int×List ReCell))(h:m66 a0 a1=some r):evFL T 66 [.sl 0 0 a0.length,nI a1] [some ⟨.arr,2,a0.map nReC⟩]=some (nI r.1,[some ⟨.arr,2,r.2.map nReC⟩]):=by
 unfold m66 at h;rw [ev fn66 rfl];obtain ⟨⟨v18,v19⟩,w17,h⟩:=bcall (e66_1 (a1,0,a0)) h;replace h:=sel2_some h;(try simp -implicitDefEqProofs only [go_sem] at w17);cases h;simp -implicitDefEqProofs only [go_sem,i66,c66,w17]
@[go_sem] theorem calls67 (args:List AV)(S:St):evCall (T.at true) (evFL T) 67 args S=c3A false true (evFL T 67) (rawAll S [[2],[0]] args):=evCall3_g fns67 rfl (fun h=>absurd h.1 (by decide)) args S
@[go_sem] noncomputable def X67_1 (o:(Int×List Acn)):Ex×Fr×St :=
 (.exit 0,frOf 27 (upd anyF 1 (nI o.1)),[some ⟨.arr,2,o.2.map nAcn⟩])
@[go_sem] noncomputable def E67_1 (s:(Int×Int×List Acn)):Fr×St:=(frOf 27 (upd (upd (upd anyF 0 (.sl 0 0 s.2.2.length)) 1 (nI s.1)) 5 (nI s.2.1)),[some ⟨.arr,2,s.2.2.map nAcn⟩])
theorem e67_1 :LW T 1 k67_1b m67_1b (E67_1) (X67_1):=by
 refine lwk nofun fun s o h=>?_
 unfold m67_1b at h;obtain ⟨s7,s8,s9⟩:=s;replace h:=sel3_some h
 rcases brx h with ⟨b10,h⟩|⟨b10,h⟩
 rotate_left
 obtain ⟨x11,g13,g14,g15,h⟩:=bidx nAcn h;try simp -implicitDefEqProofs only [go_sem] at g14 g15
 all_goals cases h;simp -implicitDefEqProofs only [go_sem,k67_1b, *]
theorem e67 (a0:List Acn)(a1:Int)(r:(Int×List Acn))(h:m67 a0 a1=some r):evFL T 67 [.sl 0 0 a0.length,nI a1] [some ⟨.arr,2,a0.map nAcn⟩]=some (nI r.1,[some ⟨.arr,2,r.2.map nAcn⟩]):=by
 unfold m67 at h;rw [ev fn67 rfl];obtain ⟨⟨v18,v19⟩,w17,h⟩:=bcall (e67_1 (a1,0,a0)) h;replace h:=sel2_some h;(try simp -implicitDefEqProofs only [go_sem] at w17);cases h;simp -implicitDefEqProofs only [go_sem,i67,c67,w17]
@[go_sem] theorem calls38 (args:List AV)(S:St):evCall (T.at true) (evFL T) 38 args S=c3A true true (evFL T 38) (rawAll S [[5],[0]] args):=evCall3_g fns38 rfl (fun h=>absurd h.2 (by decide)) args S
@[go_sem] noncomputable def X38_1 (o:(Int×List Term)):Ex×Fr×St :=
 (.exit 0,frOf 48 (upd anyF 1 (nI o.1)),[some ⟨.arr,5,o.2.map (nTer .own)⟩])
@[go_sem] noncomputable def E38_1 (s:(Int×Int×List Term)):Fr×St:=(frOf 48 (upd (upd (upd anyF 0 (.sl 0 0 s.2.2.length)) 1 (nI s.1)) 5 (nI s.2.1)),[some ⟨.arr,5,s.2.2.map (nTer .own)⟩])
theorem e38_1 :LW (T.at true) 1 k38_1b m38_1b (E38_1) (X38_1):=by
 refine lwk nofun fun s o h=>?_
 unfold m38_1b at h;obtain ⟨s22,s23,s24⟩:=s;replace h:=sel3_some h
 rcases brx h with ⟨b25,h⟩|⟨b25,h⟩
 · cases h;simp -implicitDefEqProofs only [go_sem,k38_1b,b25]
 · obtain ⟨x26,g28,g29,g30,h⟩:=bidx (nTer .own) h;obtain ⟨⟨r33,r34⟩,w32,h⟩:=bcall (e65 x26.ranges s22) h;replace h:=sel2_some h;(try simp -implicitDefEqProofs only [go_sem] at g29 g30 w32);obtain ⟨g35,h⟩:=ck_some h;obtain ⟨⟨r38,r39⟩,w37,h⟩:=bcall (e66 x26.path r33) h;replace h:=sel2_some h;(try simp -implicitDefEqProofs only [go_sem] at g35);(try simp -implicitDefEqProofs only [go_sem,g35] at w37);obtain ⟨g40,h⟩:=ck_some h;obtain ⟨⟨r43,r44⟩,w42,h⟩:=bcall (e67 x26.acts (wadd .i64 r38 1)) h;replace h:=sel2_some h;(try simp -implicitDefEqProofs only [go_sem] at g40);(try simp -implicitDefEqProofs only [go_sem,g35,g40] at w42);obtain ⟨g45,h⟩:=ck_some h;(try simp -implicitDefEqProofs only [go_sem] at g45);cases h;simp -implicitDefEqProofs only [go_sem,k38_1b,b25,g28,g29,g30,w32,g35,take_of_len_map g35,w37,g40,take_of_len_map g40,w42,g45,take_of_len_map g45]
theorem e38 (a0:List Term)(a1:Int)(r:(Int×List Term))(h:m38 a0 a1=some r):evFL T 38 [.sl 0 0 a0.length,nI a1] [some ⟨.arr,5,a0.map (nTer .own)⟩]=some (nI r.1,[some ⟨.arr,5,r.2.map (nTer .own)⟩]):=by
 unfold m38 at h;rw [evFL_atS fn38 (Nat.le_of_ble_eq_true rfl) rfl (.inl rfl) ⟨rfl,rfl⟩];obtain ⟨⟨v48,v49⟩,w47,h⟩:=bcall (e38_1 (a1,0,a0)) h;replace h:=sel2_some h;(try simp -implicitDefEqProofs only [go_sem] at w47);cases h;simp -implicitDefEqProofs only [go_sem,i38,c38,w47]
@[go_sem] theorem calls13 (args:List AV)(S:St):evCall (T.at true) (evFL T) 13 args S=c3A true true (evFL T 13) (rawAll S [[5,0],[0]] args):=evCall3_g fns13 rfl (fun h=>absurd h.2 (by decide)) args S
theorem e13 (a0:Policy)(a1:Int)(r:(Int×List Term))(h:m13 a0 a1=some r):evFL T 13 [.agg [.sl 0 0 a0.terms.length,.bool a0.accept],nI a1] [some ⟨.arr,5,a0.terms.map (nTer .own)⟩]=some (nI r.1,[some ⟨.arr,5,r.2.map (nTer .own)⟩]):=by
 unfold m13 at h;rw [evFL_atS fn13 (Nat.le_of_ble_eq_true rfl) rfl (.inl rfl) ⟨rfl,rfl⟩];obtain ⟨⟨r3,r4⟩,w2,h⟩:=bcall (e38 a0.terms a1) h;replace h:=sel2_some h;(try simp -implicitDefEqProofs only [go_sem] at w2);obtain ⟨g5,h⟩:=ck_some h;(try simp -implicitDefEqProofs only [go_sem] at g5);cases h;simp -implicitDefEqProofs only [go_sem,i13,c13,w2,g5,take_of_len_map g5]
@[go_sem] theorem calls43 (args:List AV)(S:St):evCall (T.at true) (evFL T) 43 args S=c3A false true (evFL T 43) (rawAll S [[1],[0]] args):=evCall3_g fns43 rfl (fun h=>absurd h.1 (by decide)) args S
@[go_sem] noncomputable def X43_1 (o:(Int×List Int)):Ex×Fr×St :=
 (.exit 0,frOf 19 (upd anyF 1 (nI o.1)),[some ⟨.arr,1,o.2.map nInt⟩])
@[go_sem] noncomputable def E43_1 (s:(Int×Int×List Int)):Fr×St:=(frOf 19 (upd (upd (upd anyF 0 (.sl 0 0 s.2.2.length)) 1 (nI s.1)) 5 (nI s.2.1)),[some ⟨.arr,1,s.2.2.map nInt⟩])
theorem e43_1 :LW T 1 k43_1b m43_1b (E43_1) (X43_1):=by
 refine lwk nofun fun s o h=>?_
 unfold m43_1b at h;obtain ⟨s7,s8,s9⟩:=s;replace h:=sel3_some h
 rcases brx h with ⟨b10,h⟩|⟨b10,h⟩
 rotate_left
 obtain ⟨x11,g13,g14,g15,h⟩:=bidx nInt h;try simp -implicitDefEqProofs only [go_sem] at g14 g15
 all_goals cases h;simp -implicitDefEqProofs only [go_sem,k43_1b, *]
theorem e43 (a0:List Int)(a1:Int)(r:(Int×List Int))(h:m43 a0 a1=some r):evFL T 43 [.sl 0 0 a0.length,nI a1] [some ⟨.arr,1,a0.map nInt⟩]=some (nI r.1,[some ⟨.arr,1,r.2.map nInt⟩]):=by
 unfold m43 at h;rw [ev fn43 rfl];obtain ⟨⟨v18,v19⟩,w17,h⟩:=bcall (e43_1 (a1,0,a0)) h;replace h:=sel2_some h;(try simp -implicitDefEqProofs only [go_sem] at w17);cases h;simp -implicitDefEqProofs only [go_sem,i43,c43,w17]
@[go_sem] theorem calls21 (args:List AV)(S:St):evCall (T.at true) (evFL T) 21 args S=c3A true true (evFL T 21) (rawAll S [[8],[0]] args):=evCall3_g fns21 rfl (fun h=>absurd h.2 (by decide)) args S
@[go_sem] noncomputable def X21_1 (o:(Int×List Route)):Ex×Fr×St :=
 (.exit 0,frOf 77 (upd anyF 1 (nI o.1)),[some ⟨.arr,8,o.2.map (nRou .own)⟩])
@[go_sem] noncomputable def E21_1 (s:(Int×Int×List Route)):Fr×St:=(frOf 77 (upd (upd (upd anyF 0 (.sl 0 0 s.2.2.length)) 1 (nI s.1)) 5 (nI s.2.1)),[some ⟨.arr,8,s.2.2.map (nRou .own)⟩])
theorem e21_1 :LW (T.at true) 1 k21_1b m21_1b (E21_1) (X21_1):=by
 refine lwk nofun fun s o h=>?_
 unfold m21_1b at h;obtain ⟨s17,s18,s19⟩:=s;replace h:=sel3_some h
 rcases brx h with ⟨b20,h⟩|⟨b20,h⟩
 · cases h;simp -implicitDefEqProofs only [go_sem,k21_1b,b20]
 · obtain ⟨x21,g23,g24,g25,h⟩:=bidx (nRou .own) h;obtain ⟨⟨r28,r29⟩,w27,h⟩:=bcall (e43 x21.attrs.path (wadd .i64 (wadd .i64 (wadd .i64 s17 1) 1) 1)) h;replace h:=sel2_some h;(try simp -implicitDefEqProofs only [go_sem] at g24 g25 w27);obtain ⟨g30,h⟩:=ck_some h;obtain ⟨⟨r33,r34⟩,w32,h⟩:=bcall (e43 x21.attrs.comms (wadd .i64 (wadd .i64 (wadd .i64 r28 1) 1) 1)) h;replace h:=sel2_some h;(try simp -implicitDefEqProofs only [go_sem] at g30);(try simp -implicitDefEqProofs only [go_sem,g30] at w32);obtain ⟨g35,h⟩:=ck_some h;(try simp -implicitDefEqProofs only [go_sem] at g35);cases h;simp -implicitDefEqProofs only [go_sem,k21_1b,b20,g23,g24,g25,w27,g30,take_of_len_map g30,w32,g35,take_of_len_map g35]
theorem e21 (a0:List Route)(a1:Int)(r:(Int×List Route))(h:m21 a0 a1=some r):evFL T 21 [.sl 0 0 a0.length,nI a1] [some ⟨.arr,8,a0.map (nRou .own)⟩]=some (nI r.1,[some ⟨.arr,8,r.2.map (nRou .own)⟩]):=by
 unfold m21 at h;rw [evFL_atS fn21 (Nat.le_of_ble_eq_true rfl) rfl (.inl rfl) ⟨rfl,rfl⟩];obtain ⟨⟨v38,v39⟩,w37,h⟩:=bcall (e21_1 (a1,0,a0)) h;replace h:=sel2_some h;(try simp -implicitDefEqProofs only [go_sem] at w37);cases h;simp -implicitDefEqProofs only [go_sem,i21,c21,w37]
@[go_sem] theorem call44:CL 44 [[1],[0]]:=evCall0 fn44 rfl rfl rfl
@[go_sem] noncomputable def X44_1 (o:(Int ⊕ Unit)):Ex×Fr×St :=
 match o with
 | .inl o=>(.exit 0,frOf 21 (upd anyF 1 (nI o)),[])
 | .inr o=>(.ret,frOf 21 (upd anyF 4 (nI (-1))),[])
@[go_sem] noncomputable def E44_1 (a0:List Int)(s:(Int×Int)):Fr×St:=(frOf 21 (upd (upd (upd anyF 0 (.ts .imm 1 (a0.map nInt))) 1 (nI s.1)) 5 (nI s.2)),[])
theorem e44_1 (a0:List Int):LW T 0 k44_1b (m44_1b a0) (E44_1 a0) X44_1:=by
 refine lwk (by rintro (b | b)<;>nofun) fun s o h=>?_
 unfold m44_1b at h;obtain ⟨s8,s9⟩:=s;replace h:=sel2_some h
 rcases brx h with ⟨b10,h⟩|⟨b10,h⟩
 rotate_left
 obtain ⟨x11,g13,g14,g15,h⟩:=bidx nInt h;try simp -implicitDefEqProofs only [go_sem] at g14 g15
 rcases brx h with ⟨b16,h⟩|⟨b16,h⟩
 all_goals cases h;simp -implicitDefEqProofs only [go_sem,k44_1b, *]
theorem e44 (a0:List Int)(a1:Int)(r:Int)(h:m44 a0 a1=some r):evFL T 44 [.ts .imm 1 (a0.map nInt),nI a1] []=some (nI r,[]):=by
 unfold m44 at h;rw [ev fn44 rfl];(try simp -implicitDefEqProofs only [go_sem,i44,c44]);obtain ⟨o,w18,h⟩:=bcall (e44_1 a0 (a1,0)) h
 rcases o with v19|⟨⟩
 replace h:=selS_l h;try simp -implicitDefEqProofs only [go_sem] at w18
 rotate_left
 replace h:=selS_r h;try simp -implicitDefEqProofs only [go_sem] at w18
 all_goals cases h;simp -implicitDefEqProofs only [go_sem,i44,c44,w18]
@[go_sem] theorem calls22 (args:List AV)(S:St):evCall (T.at true) (evFL T) 22 args S=lendC (evFL T 22) S (lendAll S [[8],[0]] args):=evCall0 fns22 rfl rfl rfl args S
@[go_sem] noncomputable def X22_1 (o:(Int ⊕ Unit)):Ex×Fr×St :=
 match o with
 | .inl o=>(.exit 0,frOf 93 (upd anyF 1 (nI o)),[])
 | .inr o=>(.ret,frOf 93 (upd anyF 4 (nI (-1))),[])
@[go_sem] noncomputable def E22_1 (a0:List Route)(s:(Int×Int)):Fr×St:=(frOf 93 (upd (upd (upd anyF 0 (.ts .imm 8 (a0.map (nRou .imm)))) 1 (nI s.1)) 5 (nI s.2)),[])
theorem e22_1 (a0:List Route):LW T 0 k22_1b (m22_1b a0) (E22_1 a0) X22_1:=by
 refine lwk (by rintro (b | b)<;>nofun) fun s o h=>?_
 unfold m22_1b at h;obtain ⟨s21,s22⟩:=s;replace h:=sel2_some h
 rcases brx h with ⟨b23,h⟩|⟨b23,h⟩
 rotate_left
 obtain ⟨x24,g26,g27,g28,h⟩:=bidx (nRou .imm) h;try simp -implicitDefEqProofs only [go_sem] at g27 g28
 rcases brx h with ⟨b29,h⟩|⟨b29,h⟩
 rotate_left
 try simp -implicitDefEqProofs only [go_sem,k22_1b,b23,g26,g27,g28,b29]
 rcases brx h with ⟨b30,h⟩|⟨b30,h⟩
 rotate_left
 try simp -implicitDefEqProofs only [go_sem,k22_1b,b23,g26,g27,g28,b29,b30]
 rcases brx h with ⟨b31,h⟩|⟨b31,h⟩
 rotate_left
 obtain ⟨r34,w33,h⟩:=bcall (e44 x24.attrs.path (wadd .i64 (wadd .i64 (wadd .i64 s21 1) 1) 1)) h;try simp -implicitDefEqProofs only [go_sem] at w33
 rcases brx h with ⟨b35,h⟩|⟨b35,h⟩
 try simp -implicitDefEqProofs only [go_sem,k22_1b,b23,g26,g27,g28,b29,b30,b31,w33,b35]
 rcases brx h with ⟨b36,h⟩|⟨b36,h⟩
 rotate_left
 try simp -implicitDefEqProofs only [go_sem,k22_1b,b23,g26,g27,g28,b29,b30,b31,w33,b35,b36]
 rcases brx h with ⟨b37,h⟩|⟨b37,h⟩
 rotate_left
 try simp -implicitDefEqProofs only [go_sem,k22_1b,b23,g26,g27,g28,b29,b30,b31,w33,b35,b36,b37]
 rcases brx h with ⟨b38,h⟩|⟨b38,h⟩
 rotate_left
 obtain ⟨r41,w40,h⟩:=bcall (e44 x24.attrs.comms (wadd .i64 (wadd .i64 (wadd .i64 r34 1) 1) 1)) h;try simp -implicitDefEqProofs only [go_sem] at w40
 rcases brx h with ⟨b42,h⟩|⟨b42,h⟩
 all_goals cases h;simp -implicitDefEqProofs only [go_sem,k22_1b, *]
theorem e22 (a0:List Route)(a1:Int)(r:Int)(h:m22 a0 a1=some r):evFL T 22 [.ts .imm 8 (a0.map (nRou .imm)),nI a1] []=some (nI r,[]):=by
 unfold m22 at h;rw [ev fn22 rfl];(try simp -implicitDefEqProofs only [go_sem,i22,c22]);obtain ⟨o,w44,h⟩:=bcall (e22_1 a0 (a1,0)) h
 rcases o with v45|⟨⟩
 replace h:=selS_l h;try simp -implicitDefEqProofs only [go_sem] at w44
 rotate_left
 replace h:=selS_r h;try simp -implicitDefEqProofs only [go_sem] at w44
 all_goals cases h;simp -implicitDefEqProofs only [go_sem,i22,c22,w44]
theorem e4_1 (a1:List Route)(r18:Bool)(r26:Bool)(a0:Policy)(r17:List Route)(r11:Policy)(r14:List Route)(r25:List Route)(o:Bool)(h:m4_1 r18 r26 r17 r25=some o):evCL (T.at true) 0 k4_1 (frOf 119 (upd (upd (upd (upd (upd (upd (upd (upd anyF 1 (.ts .imm 8 (a1.map (nRou .imm)))) 2 (.ptr 0 0 0)) 6 (.sl 1 0 r17.length)) 7 (.bool r18)) 8 (.ptr 2 0 0)) 9 (.sl 4 0 r14.length)) 10 (.sl 5 0 r25.length)) 11 (.bool r26))) [some ⟨.box,2,[(nPol .imm a0)]⟩,some ⟨.arr,8,r17.map (nRou .own)⟩,some ⟨.box,2,[[.sl 3 0 r11.terms.length,.bool r11.accept]]⟩,some ⟨.arr,5,r11.terms.map (nTer .own)⟩,some ⟨.arr,8,r14.map (nRou .own)⟩,some ⟨.arr,8,r25.map (nRou .own)⟩]=some (.normal,frOf 119 (upd (upd (upd (upd (upd (upd (upd (upd (upd anyF 1 (.ts .imm 8 (a1.map (nRou .imm)))) 2 (.ptr 0 0 0)) 6 (.sl 1 0 r17.length)) 7 (.bool r18)) 8 (.ptr 2 0 0)) 9 (.sl 4 0 r14.length)) 10 (.sl 5 0 r25.length)) 11 (.bool r26)) 53 (.bool o)),[some ⟨.box,2,[(nPol .imm a0)]⟩,some ⟨.arr,8,r17.map (nRou .own)⟩,some ⟨.box,2,[[.sl 3 0 r11.terms.length,.bool r11.accept]]⟩,some ⟨.arr,5,r11.terms.map (nTer .own)⟩,some ⟨.arr,8,r14.map (nRou .own)⟩,some ⟨.arr,8,r25.map (nRou .own)⟩]):=by
 unfold m4_1 at h;obtain ⟨r29,w28,h⟩:=bcall (e20 r25 r17) h;try simp -implicitDefEqProofs only [go_sem] at w28
 rcases brx h with ⟨b30,h⟩|⟨b30,h⟩
 all_goals cases h;simp -implicitDefEqProofs only [go_sem,k4_1,w28,b30]
theorem e4_2 (a1:List Route)(r18:Bool)(r26:Bool)(r54:Int)(a0:Policy)(r17:List Route)(r25:List Route)(o:Bool)(h:m4_2 r18 r26 r54 r17 r25=some o):evCL (T.at true) 0 k4_2 (frOf 119 (upd (upd (upd (upd (upd (upd (upd anyF 1 (.ts .imm 8 (a1.map (nRou .imm)))) 2 (.ptr 0 0 0)) 6 (.sl 1 0 r17.length)) 7 (.bool r18)) 10 (.sl 2 0 r25.length)) 11 (.bool r26)) 12 (nI r54))) [some ⟨.box,2,[(nPol .imm a0)]⟩,some ⟨.arr,8,r17.map (nRou .own)⟩,some ⟨.arr,8,r25.map (nRou .own)⟩]=some (.normal,frOf 119 (upd (upd (upd (upd (upd (upd anyF 1 (.ts .imm 8 (a1.map (nRou .imm)))) 2 (.ptr 0 0 0)) 6 (.sl 1 0 r17.length)) 7 (.bool r18)) 10 (.sl 2 0 r25.length)) 82 (.bool o)),[some ⟨.box,2,[(nPol .imm a0)]⟩,some ⟨.arr,8,r17.map (nRou .own)⟩,some ⟨.arr,8,r25.map (nRou .own)⟩]):=by
 unfold m4_2 at h
 rcases brx h with ⟨b57,h⟩|⟨b57,h⟩
 obtain ⟨r60,w59,h⟩:=bcall (e20 r25 r17) h;try simp -implicitDefEqProofs only [go_sem] at w59
 rcases brx h with ⟨b61,h⟩|⟨b61,h⟩
 all_goals cases h;simp -implicitDefEqProofs only [go_sem,k4_2, *]
theorem e4_3 (r18:Bool)(r68:Int)(r26:Bool)(r17:List Route)(r69:List Route)(r25:List Route)(o:Bool)(h:m4_3 r18 r26 r17 r25=some o):evCL (T.at true) 0 k4_3 (frOf 119 (upd (upd (upd (upd (upd (upd anyF 6 (.sl 0 0 r17.length)) 7 (.bool r18)) 10 (.sl 1 0 r69.length)) 13 (nI r68)) 15 (.sl 2 0 r25.length)) 16 (.bool r26))) [some ⟨.arr,8,r17.map (nRou .own)⟩,some ⟨.arr,8,r69.map (nRou .own)⟩,some ⟨.arr,8,r25.map (nRou .own)⟩]=some (.normal,frOf 119 (upd (upd (upd anyF 10 (.sl 0 0 r69.length)) 13 (nI r68)) 110 (.bool o)),[some ⟨.arr,8,r69.map (nRou .own)⟩]):=by
 unfold m4_3 at h;obtain ⟨r84,w83,h⟩:=bcall (e20 r25 r17) h;try simp -implicitDefEqProofs only [go_sem] at w83
 rcases brx h with ⟨b85,h⟩|⟨b85,h⟩
 all_goals cases h;simp -implicitDefEqProofs only [go_sem,k4_3,w83,b85]
theorem e4 (a0:Policy)(a1:List Route)(r:Bool)(h:m4 a0 a1=some r):evFL T 4 [.agg (nPol .imm a0),.ts .imm 8 (a1.map (nRou .imm))] []=some (.bool r,[]):=by
 unfold m4 at h;rw [evFL_atS fn4 (Nat.le_of_ble_eq_true rfl) rfl (.inr rfl) ⟨rfl,rfl⟩];obtain ⟨r3,w2,h⟩:=bcall (e5 a0 1048576) h;try simp -implicitDefEqProofs only [go_sem] at w2
 rcases brx h with ⟨b4,h⟩|⟨b4,h⟩
 obtain ⟨r7,w6,h⟩:=bcall (e16 a1 r3) h;try simp -implicitDefEqProofs only [go_sem] at w6
 rcases brx h with ⟨b8,h⟩|⟨b8,h⟩
 obtain ⟨r11,w10,h⟩:=bcall (e8 a0) h;obtain ⟨r14,w13,h⟩:=bcall (e18 a1) h;obtain ⟨⟨r17,r18⟩,w16,h⟩:=bcall (e17 r11 r14) h;replace h:=sel2_some h;obtain ⟨⟨r25,r26⟩,w24,h⟩:=bcall (e19 r11 r14) h;replace h:=sel2_some h;obtain ⟨v33,w32,h⟩:=bcall (e4_1 a1 r18 r26 a0 r17 r11 r14 r25) h;(try simp -implicitDefEqProofs only [go_sem] at w10 w13 w16 w24);try simp -implicitDefEqProofs only [go_sem] at w32
 rcases brx h with ⟨b34,h⟩|⟨b34,h⟩
 obtain ⟨r39,w38,h⟩:=bcall (e12 r11 r11) h;try simp -implicitDefEqProofs only [go_sem] at w38
 rcases brx h with ⟨b40,h⟩|⟨b40,h⟩
 rotate_left
 obtain ⟨r45,w44,h⟩:=bcall (e20 r14 r14) h;try simp -implicitDefEqProofs only [go_sem] at w44
 rcases brx h with ⟨b46,h⟩|⟨b46,h⟩
 rotate_left
 obtain ⟨⟨r49,r50⟩,w48,h⟩:=bcall (e13 r11 1) h;replace h:=sel2_some h;(try simp -implicitDefEqProofs only [go_sem] at w48);obtain ⟨g51,h⟩:=ck_some h;obtain ⟨⟨r54,r55⟩,w53,h⟩:=bcall (e21 r14 r49) h;replace h:=sel2_some h;(try simp -implicitDefEqProofs only [go_sem] at g51);(try simp -implicitDefEqProofs only [go_sem,g51] at w53);obtain ⟨g56,h⟩:=ck_some h;obtain ⟨v64,w63,h⟩:=bcall (e4_2 a1 r18 r26 r54 a0 r17 r25) h;(try simp -implicitDefEqProofs only [go_sem] at g56);try simp -implicitDefEqProofs only [go_sem,g51,g56] at w63
 rcases brx h with ⟨b65,h⟩|⟨b65,h⟩
 obtain ⟨⟨r68,r69⟩,w67,h⟩:=bcall (e21 r25 1) h;replace h:=sel2_some h;(try simp -implicitDefEqProofs only [go_sem,g51,g56] at w67);obtain ⟨g70,h⟩:=ck_some h;obtain ⟨r73,w72,h⟩:=bcall (e22 r69 1) h;(try simp -implicitDefEqProofs only [go_sem] at g70);try simp -implicitDefEqProofs only [go_sem,g51,g56,g70] at w72
 rcases brx h with ⟨b74,h⟩|⟨b74,h⟩
 try simp -implicitDefEqProofs only [go_sem,i4,c4,w2,b4,w6,b8,w10,w13,w16,w24,w32,b34,w38,b40,w44,b46,w48,g51,take_of_len_map g51,w53,g56,take_of_len_map g56,w63,b65,w67,g70,take_of_len_map g70,w72,b74]
 rcases brx h with ⟨b75,h⟩|⟨b75,h⟩
 cases h;simp -implicitDefEqProofs only [go_sem,i4,c4,w2,b4,w6,b8,w10,w13,w16,w24,w32,b34,w38,b40,w44,b46,w48,g51,take_of_len_map g51,w53,g56,take_of_len_map g56,w63,b65,w67,g70,take_of_len_map g70,w72,b74,b75];obtain ⟨v88,w87,h⟩:=bcall (e4_3 r18 r68 r26 r17 r69 r25) h;try simp -implicitDefEqProofs only [go_sem,g51,g56,g70] at w87
 rcases brx h with ⟨b89,h⟩|⟨b89,h⟩
 cases h;simp -implicitDefEqProofs only [go_sem,i4,c4,w2,b4,w6,b8,w10,w13,w16,w24,w32,b34,w38,b40,w44,b46,w48,g51,take_of_len_map g51,w53,g56,take_of_len_map g56,w63,b65,w67,g70,take_of_len_map g70,w72,b74,b75,w87,b89];cases h;simp -implicitDefEqProofs only [go_sem,i4,c4,w2,b4,w6,b8,w10,w13,w16,w24,w32,b34,w38,b40,w44,b46,w48,g51,take_of_len_map g51,w53,g56,take_of_len_map g56,w63,b65,w67,g70,take_of_len_map g70,w72,b74,b75,w87,b89];cases h;simp -implicitDefEqProofs only [go_sem,i4,c4,w2,b4,w6,b8,w10,w13,w16,w24,w32,b34,w38,b40,w44,b46,w48,g51,take_of_len_map g51,w53,g56,take_of_len_map g56,w63,b65,w67,g70,take_of_len_map g70,w72,b74];cases h;simp -implicitDefEqProofs only [go_sem,i4,c4,w2,b4,w6,b8,w10,w13,w16,w24,w32,b34,w38,b40,w44,b46,w48,g51,take_of_len_map g51,w53,g56,take_of_len_map g56,w63,b65]
 all_goals cases h;simp -implicitDefEqProofs only [go_sem,i4,c4, *]
end Go.Pi.YthidbgihjhkjaaaGreat.FilterRoutes
