/- no condition -/
import Derived.Test.YtichbkallidkcaaPiE
import Derived.Test.YtichbkallidkcaaProg
import Derived.Test.YtichbkallidkcaaPiD
set_option linter.all false
namespace Go.Pi.Ytichbkallidkcaa.SppOf
open Go Go.Proofs Go.Pi
set_option maxRecDepth 100000
attribute [go_sem] Nat.reduceLT Nat.reduceAdd Nat.reduceSub Nat.reduceMul Nat.reduceEqDiff Nat.reduceBEq Nat.reduceLeDiff Int.reduceToNat Int.reduceLT Int.reduceLE Int.reduceEq reduceCtorEq
attribute [go_sem] reduceIte
def c11:PC:=(sq (.reg [pK 4 0]) (sq (.reg [pM 5 1,pM 6 0,pE 7 6 22,pO 8 .sub 3 5 7 3,pA 1 8]) (sq (sq (.reg [pM 9 1,pB 10 .lss 3 9 0 3]) (cd 10 (sq (.reg [pK 4 (-1)]) .ret) .skip)) (sq (.reg [pM 11 1,pA 4 11]) .ret))))
def i11:FnI:=⟨12,[(.tmp 4)],c11,0,[[3],[0]],[[0]],false,false,0,false⟩
def c40:PC:=(sq (.reg [pX 1 65 0,pG 2 63]) (sq (.reg [pG 3 63]) (sq (.reg [pF 4 65 1 0,pL 5 3 4,pF 6 63 3 0,⟨none,(.store 3 (.tmp 6) (.tmp 5)),none⟩]) (sq (.reg [pF 7 65 1 1,pL 8 3 7,pF 9 63 3 1,⟨none,(.store 3 (.tmp 9) (.tmp 8)),none⟩]) (sq (.reg [pF 10 65 1 2,pL 11 3 10,pF 12 63 3 2,⟨none,(.store 3 (.tmp 12) (.tmp 11)),none⟩]) (sq (.reg [pL 13 63 3,⟨none,(.store 63 (.tmp 2) (.tmp 13)),none⟩]) .ret))))))
def i40:FnI:=⟨14,[(.cell 2 63)],c40,0,[[0,0,0]],[[0,0,0]],false,false,0,false⟩
def k13_1b:PC:=(sq (sq (.reg [pM 8 4,pM 9 0,pE 10 9 22,pO 11 .lss 3 8 10 3]) (cd 11 .skip (.pre ⟨[3],[.old 0],[],[]⟩ (.exit 0)))) (sq (.block 1 (.reg [pM 14 3,pM 15 4,pM 16 0,pM 17 4,pI 18 22 16 17,pL 19 65 18,pC 20 40 19 65,pI 21 25 14 15,⟨none,(.store 63 (.tmp 21) (.tmp 20)),none⟩])) (.post (.reg [pM 12 4,pB 13 .add 3 12 1 3,pA 4 13]) ⟨[0,3,4],[.old 0],[],[]⟩)))
def c13:PC:=(sq (.reg [pS 2]) (sq (.reg [pM 5 0,pE 6 5 22,⟨(some 7),(.makeSlice 25 (.tmp 6) (.tmp 6)),none⟩,pA 3 7]) (sq (sq (.reg [pK 4 0]) (.block 0 (.pre ⟨[0,3,4],[.old 0],[],[]⟩ (.loop k13_1b)))) (sq (.reg [pM 22 3,pA 2 22]) .ret))))
def i13:FnI:=⟨23,[(.tmp 2)],c13,0,[[3]],[[3]],false,false,0,false⟩
def k39_1:PC:=(.post (.reg [pM 7 0,pM 8 1,pO 9 .geq 3 7 8 3,pM 10 9,⟨(some 11),(.move (.tmp 0)),(some (10,true))⟩,⟨(some 12),(.move (.tmp 2)),(some (10,true))⟩,⟨(some 13),(.binOp .leq 3 (.tmp 11) (.tmp 12) 3),(some (10,true))⟩,pP 14 10 13,pA 6 14]) ⟨[6],[],[],[]⟩)
def c39:PC:=(sq (.reg [pN 6 false]) (sq (.pre ⟨[0,1,2],[],[],[]⟩ k39_1) .ret))
def i39:FnI:=⟨15,[(.tmp 6)],c39,0,[[0],[0],[0]],[[0]],false,false,0,false⟩
def k12_1:PC:=(.post (.reg [pM 9 0,⟨(some 10),(.call { callee:=(.value (.func 39)),args:=#[(.tmp 9),(.const (.int .i64 1)),(.const (.int .i64 5))],argTypes:=#[3,3,3] }),none⟩,pU 11 4 10,pM 12 11,⟨(some 13),(.move (.tmp 1)),(some (12,false))⟩,⟨(some 14),(.call { callee:=(.builtin .len),args:=#[(.tmp 13)],argTypes:=#[25] }),(some (12,false))⟩,⟨(some 15),(.binOp .gtr 3 (.tmp 14) (.const (.int .i64 15)) 3),(some (12,false))⟩,pQ 16 12 15]) ⟨[0,1,16],[],[],[]⟩)
def k12_7:PC:=(.post (.reg [pF 24 63 6 0,pL 25 3 24,pB 26 .lss 3 25 0 3,pM 27 26,⟨(some 28),(.fieldAddr 63 (.tmp 6) 0),(some (27,false))⟩,⟨(some 29),(.load 3 (.tmp 28)),(some (27,false))⟩,⟨(some 30),(.fieldAddr 63 (.tmp 6) 1),(some (27,false))⟩,⟨(some 31),(.load 3 (.tmp 30)),(some (27,false))⟩,⟨(some 32),(.binOp .geq 3 (.tmp 29) (.tmp 31) 3),(some (27,false))⟩,pQ 33 27 32,pM 34 33,⟨(some 35),(.fieldAddr 63 (.tmp 6) 1),(some (34,false))⟩,⟨(some 36),(.load 3 (.tmp 35)),(some (34,false))⟩,⟨(some 37),(.move (.tmp 0)),(some (34,false))⟩,⟨(some 38),(.binOp .gtr 3 (.tmp 36) (.tmp 37) 3),(some (34,false))⟩,pQ 39 34 38,pM 40 39,⟨(some 41),(.fieldAddr 63 (.tmp 6) 2),(some (40,false))⟩,⟨(some 42),(.load 3 (.tmp 41)),(some (40,false))⟩,⟨(some 43),(.call { callee:=(.value (.func 39)),args:=#[(.tmp 42),(.const (.int .i64 1)),(.const (.int .i64 3))],argTypes:=#[3,3,3] }),(some (40,false))⟩,⟨(some 44),(.unOp .not 4 (.tmp 43)),(some (40,false))⟩,pQ 45 40 44]) ⟨[0,1,5,6,17,18,19,45],[.old 0],[],[]⟩)
def k12_10:PC:=(.post (.reg [pF 54 63 8 0,pL 55 3 54,pF 56 63 6 0,pL 57 3 56,pO 58 .eql 3 55 57 3,pM 59 58,⟨(some 60),(.fieldAddr 63 (.tmp 8) 1),(some (59,true))⟩,⟨(some 61),(.load 3 (.tmp 60)),(some (59,true))⟩,⟨(some 62),(.fieldAddr 63 (.tmp 6) 1),(some (59,true))⟩,⟨(some 63),(.load 3 (.tmp 62)),(some (59,true))⟩,⟨(some 64),(.binOp .eql 3 (.tmp 61) (.tmp 63) 3),(some (59,true))⟩,pP 65 59 64]) ⟨[0,1,6,17,18,19,48,49,50,65],[.old 0],[],[]⟩)
def k12_8b:PC:=(sq (.reg [pO 51 .lss 3 50 49 3]) (sq (cd 51 .skip (.pre ⟨[0,1,17,18,19],[],[],[]⟩ (.exit 2))) (sq (.block 3 (sq (.reg [pI 52 25 48 50,pL 53 63 52,pG 8 63,⟨none,(.store 63 (.tmp 8) (.tmp 53)),none⟩]) (sq (.pre ⟨[0,1,6,8,17,18,19,48,49,50],[.old 0,.old 1],[],[]⟩ k12_10) (cd 65 (sq (.reg [pN 4 false]) (.pre ⟨[4],[],[],[]⟩ .ret)) .skip)))) (.post (.reg [pB 66 .add 3 50 1 3,pM 50 66]) ⟨[0,1,6,17,18,19,48,49,50],[.old 0],[],[]⟩))))
def k12_2b:PC:=(sq (.reg [pO 20 .lss 3 19 18 3]) (sq (cd 20 .skip (.pre ⟨[],[],[],[]⟩ (.exit 0))) (sq (.block 1 (sq (.reg [pM 21 19,pI 22 25 17 19,pL 23 63 22,pG 6 63,pA 5 21,⟨none,(.store 63 (.tmp 6) (.tmp 23)),none⟩]) (sq (sq (.pre ⟨[0,1,5,6,17,18,19],[.old 0],[],[]⟩ k12_7) (cd 45 (sq (.reg [pN 4 false]) (.pre ⟨[4],[],[],[]⟩ .ret)) .skip)) (sq (.reg [pM 46 1,pM 47 5,⟨(some 48),(.slice 25 (.tmp 46) none (some (.tmp 47)) none),none⟩,pE 49 48 25,pV 50 0]) (.block 2 (.pre ⟨[0,1,6,17,18,19,48,49,50],[.old 0],[],[]⟩ (.loop k12_8b))))))) (.post (.reg [pB 67 .add 3 19 1 3,pM 19 67]) ⟨[0,1,17,18,19],[],[],[]⟩))))
def c12:PC:=(sq (.reg [pN 4 false]) (sq (sq (.pre ⟨[0,1],[],[],[]⟩ k12_1) (cd 16 (sq (.reg [pN 4 false]) .ret) .skip)) (sq (sq (.reg [pM 17 1,pE 18 17 25,pV 19 0]) (.block 0 (.pre ⟨[0,1,17,18,19],[],[],[]⟩ (.loop k12_2b)))) (sq (.reg [pN 4 true]) .ret))))
def i12:FnI:=⟨68,[(.tmp 4)],c12,0,[[0],[3]],[[0]],false,false,0,false⟩
def k45_4:PC:=(.post (.reg [pF 15 63 8 0,pL 16 3 15,pM 17 1,pO 18 .eql 3 16 17 3,pM 19 18,⟨(some 20),(.fieldAddr 63 (.tmp 8) 1),(some (19,true))⟩,⟨(some 21),(.load 3 (.tmp 20)),(some (19,true))⟩,⟨(some 22),(.move (.tmp 2)),(some (19,true))⟩,⟨(some 23),(.binOp .eql 3 (.tmp 21) (.tmp 22) 3),(some (19,true))⟩,pP 24 19 23]) ⟨[1,2,8,9,10,11,24],[.old 0],[],[]⟩)
def k45_5:PC:=(.post (.reg [pF 27 63 8 0,pL 28 3 27,pM 29 2,pO 30 .eql 3 28 29 3,pM 31 30,⟨(some 32),(.fieldAddr 63 (.tmp 8) 1),(some (31,true))⟩,⟨(some 33),(.load 3 (.tmp 32)),(some (31,true))⟩,⟨(some 34),(.move (.tmp 1)),(some (31,true))⟩,⟨(some 35),(.binOp .eql 3 (.tmp 33) (.tmp 34) 3),(some (31,true))⟩,pP 36 31 35]) ⟨[1,2,8,9,10,11,36],[.old 0],[],[]⟩)
def k45_1b:PC:=(sq (.reg [pO 12 .lss 3 11 10 3]) (sq (cd 12 .skip (.pre ⟨[],[],[],[]⟩ (.exit 0))) (sq (.block 1 (sq (.reg [pI 13 25 9 11,pL 14 63 13,pG 8 63,⟨none,(.store 63 (.tmp 8) (.tmp 14)),none⟩]) (sq (sq (.pre ⟨[1,2,8,9,10,11],[.old 0],[],[]⟩ k45_4) (cd 24 (sq (.reg [pF 25 63 8 2,pL 26 3 25,pA 6 26]) (.pre ⟨[6],[],[],[]⟩ .ret)) .skip)) (sq (.pre ⟨[1,2,8,9,10,11],[.old 0],[],[]⟩ k45_5) (cd 36 (sq (.reg [pF 37 63 8 2,pL 38 3 37,⟨(some 39),(.binOp .sub 3 (.const (.int .i64 4)) (.tmp 38) 3),none⟩,pA 6 39]) (.pre ⟨[6],[],[],[]⟩ .ret)) .skip))))) (.post (.reg [pB 40 .add 3 11 1 3,pM 11 40]) ⟨[1,2,9,10,11],[],[],[]⟩))))
def c45:PC:=(sq (.reg [pK 6 0]) (sq (sq (.reg [pM 9 0,pE 10 9 25,pV 11 0]) (.block 0 (.pre ⟨[1,2,9,10,11],[],[],[]⟩ (.loop k45_1b)))) (sq (.reg [pK 6 0]) .ret)))
def i45:FnI:=⟨41,[(.tmp 6)],c45,0,[[3],[0],[0]],[[0]],false,false,0,false⟩
def k54_4:PC:=(.post (.reg [pM 25 5,pM 26 25,⟨(some 27),(.move (.tmp 7)),(some (26,true))⟩,⟨(some 28),(.binOp .neq 3 (.tmp 27) (.const (.int .i64 1)) 3),(some (26,true))⟩,pP 29 26 28]) ⟨[0,1,5,6,7,29],[],[],[]⟩)
def k54_5:PC:=(.post (.reg [pM 30 5,pM 31 30,⟨(some 32),(.move (.tmp 7)),(some (31,false))⟩,⟨(some 33),(.binOp .neq 3 (.tmp 32) (.const (.int .i64 3)) 3),(some (31,false))⟩,pQ 34 31 33,pA 5 34]) ⟨[0,1,5,6],[],[],[]⟩)
def k54_1b:PC:=(sq (sq (.reg [pM 8 6,pM 9 1,pE 10 9 36,pO 11 .lss 3 8 10 3]) (cd 11 .skip (.pre ⟨[],[],[],[]⟩ (.exit 0)))) (sq (.block 1 (sq (.fz [pM 14 0,pM 15 1,pM 16 6,pB 17 .sub 3 16 1 3,pI 18 36 15 17,pL 19 3 18,pM 20 1,pM 21 6,pI 22 36 20 21,pL 23 3 22,pC3 24 45 14 19 23 25 3 3,pA 7 24]) (sq (sq (.pre ⟨[0,1,5,6,7],[],[],[]⟩ k54_4) (cd 29 (sq (.reg [pN 4 false]) (.pre ⟨[4],[],[],[]⟩ .ret)) .skip)) (.pre ⟨[0,1,5,6,7],[],[],[]⟩ k54_5)))) (.post (.reg [pM 12 6,pB 13 .add 3 12 1 3,pA 6 13]) ⟨[0,1,5,6],[],[],[]⟩)))
def c54:PC:=(sq (.reg [pN 4 false]) (sq (.reg [pN 5 false]) (sq (sq (.reg [pK 6 1]) (.block 0 (.pre ⟨[0,1,5,6],[],[],[]⟩ (.loop k54_1b)))) (sq (.reg [pN 4 true]) .ret))))
def i54:FnI:=⟨35,[(.tmp 4)],c54,0,[[3],[1]],[[0]],false,false,0,false⟩
def k47_1b:PC:=(sq (.reg [pO 10 .lss 3 9 8 3]) (sq (cd 10 .skip (.pre ⟨[],[],[],[]⟩ (.exit 0))) (sq (.block 1 (sq (.reg [pI 11 36 7 9,pL 12 3 11,pA 6 12]) (sq (.reg [pM 13 6,pM 14 1,pO 15 .eql 3 13 14 3]) (cd 15 (sq (.reg [pN 4 true]) (.pre ⟨[4],[],[],[]⟩ .ret)) .skip)))) (.post (.reg [pB 16 .add 3 9 1 3,pM 9 16]) ⟨[1,7,8,9],[],[],[]⟩))))
def c47:PC:=(sq (.reg [pN 4 false]) (sq (sq (.reg [pM 7 0,pE 8 7 36,pV 9 0]) (.block 0 (.pre ⟨[1,7,8,9],[],[],[]⟩ (.loop k47_1b)))) (sq (.reg [pN 4 false]) .ret)))
def i47:FnI:=⟨17,[(.tmp 4)],c47,0,[[1],[0]],[[0]],false,false,0,false⟩
def k60_1:PC:=(.post (.reg [pM 19 2,pE 20 19 36,pB 21 .gtr 3 20 1 3,pM 22 21,⟨(some 23),(.move (.tmp 1)),(some (22,true))⟩,⟨(some 24),(.move (.tmp 2)),(some (22,true))⟩,⟨(some 25),(.call { callee:=(.value (.func 54)),args:=#[(.tmp 23),(.tmp 24)],argTypes:=#[25,36] }),(some (22,true))⟩,pP 26 22 25]) ⟨[2,3,26],[.old 2,.old 3],[0,1],[]⟩)
def k60_2:PC:=(cd 26 (.post (.reg [pM 27 3,⟨(some 28),(.buildSlice 36 0 #[]),none⟩,pM 29 2,⟨(some 30),(.call { callee:=(.builtin .append),args:=#[(.tmp 28),(.tmp 29)],argTypes:=#[36,36] }),none⟩,⟨(some 31),(.buildSlice 83 1 #[(0,(.tmp 30))]),none⟩,⟨(some 32),(.call { callee:=(.builtin .append),args:=#[(.tmp 27),(.tmp 31)],argTypes:=#[83,83] }),none⟩,pA 3 32]) ⟨[3],[.old 7],[0,1],[]⟩) (.post .skip ⟨[3],[.old 3],[0,1],[]⟩))
def k60_6:PC:=(.post (.reg [pM 39 1,pM 40 9,pM 41 10,pC3 42 45 39 40 41 25 3 3,pB 43 .neq 3 42 0 3,pM 44 43,⟨(some 45),(.move (.tmp 2)),(some (44,true))⟩,⟨(some 46),(.move (.tmp 10)),(some (44,true))⟩,⟨(some 47),(.call { callee:=(.value (.func 47)),args:=#[(.tmp 45),(.tmp 46)],argTypes:=#[36,3] }),(some (44,true))⟩,⟨(some 48),(.unOp .not 4 (.tmp 47)),(some (44,true))⟩,pP 49 44 48]) ⟨[0,1,2,3,9,10,49],[.old 2,.old 3],[0,1],[]⟩)
def k60_7:PC:=(cd 49 (.post (.reg [pM 50 0,pM 51 1,⟨(some 52),(.buildSlice 36 0 #[]),none⟩,pM 53 2,⟨(some 54),(.call { callee:=(.builtin .append),args:=#[(.tmp 52),(.tmp 53)],argTypes:=#[36,36] }),none⟩,pM 55 10,⟨(some 56),(.buildSlice 36 1 #[(0,(.tmp 55))]),none⟩,⟨(some 57),(.call { callee:=(.builtin .append),args:=#[(.tmp 54),(.tmp 56)],argTypes:=#[36,36] }),none⟩,pM 58 3,⟨(some 59),(.call { callee:=(.value (.func 60)),args:=#[(.tmp 50),(.tmp 51),(.tmp 57),(.tmp 58)],argTypes:=#[3,25,36,83] }),none⟩,pA 3 59]) ⟨[0,1,2,3,9,10],[.old 2,.old 8],[0,1],[]⟩) (.post .skip ⟨[0,1,2,3,9,10],[.old 2,.old 3],[0,1],[]⟩))
def k60_3b:PC:=(sq (sq (.reg [pM 34 10,pM 35 0,pO 36 .leq 3 34 35 3]) (cd 36 .skip (.pre ⟨[3],[.old 3],[0,1],[]⟩ (.exit 0)))) (sq (.block 1 (sq (.pre ⟨[0,1,2,3,9,10],[.old 2,.old 3],[0,1],[]⟩ k60_6) (.pre ⟨[0,1,2,3,9,10,49],[.old 2,.old 3],[0,1],[]⟩ k60_7))) (.post (.reg [pM 37 10,pB 38 .add 3 37 1 3,pA 10 38]) ⟨[0,1,2,3,9,10],[.old 2,.old 3],[0,1],[]⟩)))
def c60:PC:=(sq (.reg [pS 8]) (sq (.reg [pM 11 2,pM 12 2,pE 13 12 36,pB 14 .sub 3 13 1 3,pI 15 36 11 14,pL 16 3 15,pA 9 16]) (sq (sq (.reg [pM 17 9,pB 18 .eql 3 17 0 3]) (cd 18 (sq (sq (.pre ⟨[1,2,3],[.old 0,.old 1],[0,1],[]⟩ k60_1) (.pre ⟨[2,3,26],[.old 2,.old 3],[0,1],[]⟩ k60_2)) (sq (.reg [pM 33 3,pA 8 33]) (.pre ⟨[8],[.old 2],[0,1],[]⟩ .ret))) .skip)) (sq (sq (.reg [pK 10 0]) (.block 0 (.pre ⟨[0,1,2,3,9,10],[.old 0,.old 1],[0,1],[]⟩ (.loop k60_3b)))) (sq (.reg [pM 60 3,pA 8 60]) (.pre ⟨[8],[.old 2],[0,1],[]⟩ .ret))))))
def i60:FnI:=⟨61,[(.tmp 8)],c60,3,[[0],[3],[1],[1]],[[1]],false,true,2,false⟩
def k61_1b:PC:=(sq (.reg [pO 45 .lss 3 44 43 3]) (sq (cd 45 .skip (.pre ⟨[],[],[],[]⟩ (.exit 0))) (sq (.block 1 (sq (.reg [pM 46 44,pA 9 46]) (sq (.fz [pM 47 1,pM 48 9,pI 49 36 47 48,pL 50 3 49,pM 51 2,pM 52 9,pI 53 36 51 52,pL 54 3 53,pO 55 .neq 3 50 54 3]) (cd 55 (sq (.fz [pM 56 1,pM 57 9,pI 58 36 56 57,pL 59 3 58,pM 60 2,pM 61 9,pI 62 36 60 61,pL 63 3 62,pO 64 .lss 3 59 63 3,pA 6 64]) (.pre ⟨[6],[],[],[]⟩ .ret)) .skip)))) (.post (.reg [pB 65 .add 3 44 1 3,pM 44 65]) ⟨[1,2,43,44],[],[],[]⟩))))
def c61:PC:=(sq (.reg [pN 6 false]) (sq (.fz [pM 10 0,pM 11 1,⟨(some 12),(.indexAddr 36 (.tmp 11) (.const (.int .i64 0))),none⟩,pL 13 3 12,pM 14 1,⟨(some 15),(.indexAddr 36 (.tmp 14) (.const (.int .i64 1))),none⟩,pL 16 3 15,pC3 17 45 10 13 16 25 3 3,pA 7 17]) (sq (.fz [pM 18 0,pM 19 2,⟨(some 20),(.indexAddr 36 (.tmp 19) (.const (.int .i64 0))),none⟩,pL 21 3 20,pM 22 2,⟨(some 23),(.indexAddr 36 (.tmp 22) (.const (.int .i64 1))),none⟩,pL 24 3 23,pC3 25 45 18 21 24 25 3 3,pA 8 25]) (sq (sq (.reg [pM 26 7,pM 27 8,pO 28 .neq 3 26 27 3]) (cd 28 (sq (.reg [pM 29 7,pM 30 8,pO 31 .lss 3 29 30 3,pA 6 31]) .ret) .skip)) (sq (sq (.reg [pM 32 1,pE 33 32 36,pM 34 2,pE 35 34 36,pO 36 .neq 3 33 35 3]) (cd 36 (sq (.reg [pM 37 1,pE 38 37 36,pM 39 2,pE 40 39 36,pO 41 .lss 3 38 40 3,pA 6 41]) .ret) .skip)) (sq (sq (.reg [pM 42 1,pE 43 42 36,pV 44 0]) (.block 0 (.pre ⟨[1,2,43,44],[],[],[]⟩ (.loop k61_1b)))) (sq (.reg [pN 6 false]) .ret)))))))
def i61:FnI:=⟨66,[(.tmp 6)],c61,0,[[3],[1],[1]],[[0]],false,false,0,false⟩
def k91_1b:PC:=(sq (.reg [pO 14 .lss 3 13 12 3]) (sq (cd 14 .skip (.pre ⟨[],[],[],[]⟩ (.exit 0))) (sq (.block 1 (sq (.reg [pM 15 13,pA 5 15]) (sq (.fz [pM 16 0,pM 17 5,pI 18 36 16 17,pL 19 3 18,pM 20 1,pM 21 5,pI 22 36 20 21,pL 23 3 22,pO 24 .neq 3 19 23 3]) (cd 24 (sq (.reg [pN 4 false]) (.pre ⟨[4],[],[],[]⟩ .ret)) .skip)))) (.post (.reg [pB 25 .add 3 13 1 3,pM 13 25]) ⟨[0,1,12,13],[],[],[]⟩))))
def c91:PC:=(sq (.reg [pN 4 false]) (sq (sq (.reg [pM 6 0,pE 7 6 36,pM 8 1,pE 9 8 36,pO 10 .neq 3 7 9 3]) (cd 10 (sq (.reg [pN 4 false]) .ret) .skip)) (sq (sq (.reg [pM 11 0,pE 12 11 36,pV 13 0]) (.block 0 (.pre ⟨[0,1,12,13],[],[],[]⟩ (.loop k91_1b)))) (sq (.reg [pN 4 true]) .ret))))
def i91:FnI:=⟨26,[(.tmp 4)],c91,0,[[1],[1]],[[0]],false,false,0,false⟩
def k75_1b:PC:=(sq (.reg [pO 17 .lss 3 16 15 3]) (sq (cd 17 .skip (.pre ⟨[],[],[],[]⟩ (.exit 0))) (sq (.block 1 (sq (.reg [pM 18 16,pI 19 83 14 16,pL 20 36 19,pA 7 18,pA 8 20]) (sq (.reg [pM 21 8,pM 22 2,pC2 23 91 21 22 36 36]) (cd 23 (sq (.reg [pM 24 7,pA 6 24]) (.pre ⟨[6],[],[],[]⟩ .ret)) .skip)))) (.post (.reg [pB 25 .add 3 16 1 3,pM 16 25]) ⟨[2,14,15,16],[],[],[]⟩))))
def c75:PC:=(sq (.reg [pX 3 51 0,pK 6 0]) (sq (sq (.reg [pF 9 51 3 0,pL 10 49 9,pM 11 1,pB 12 .sub 3 11 1 3,pI 13 49 10 12,pL 14 83 13,pE 15 14 83,pV 16 0]) (.block 0 (.pre ⟨[2,14,15,16],[],[],[]⟩ (.loop k75_1b)))) (sq (.reg [pK 6 (-1)]) .ret)))
def i75:FnI:=⟨26,[(.tmp 6)],c75,0,[[1],[0],[1]],[[0]],false,false,0,false⟩
def k74_1:PC:=(.post (.reg [pM 13 2,pE 14 13 36,pB 15 .lss 3 14 2 3,pM 16 15,⟨(some 17),(.move (.tmp 2)),(some (16,false))⟩,⟨(some 18),(.indexAddr 36 (.tmp 17) (.const (.int .i64 0))),(some (16,false))⟩,⟨(some 19),(.load 3 (.tmp 18)),(some (16,false))⟩,⟨(some 20),(.move (.tmp 1)),(some (16,false))⟩,⟨(some 21),(.binOp .neq 3 (.tmp 19) (.tmp 20) 3),(some (16,false))⟩,pQ 22 16 21,pM 23 22,⟨(some 24),(.move (.tmp 2)),(some (23,false))⟩,⟨(some 25),(.move (.tmp 2)),(some (23,false))⟩,⟨(some 26),(.call { callee:=(.builtin .len),args:=#[(.tmp 25)],argTypes:=#[36] }),(some (23,false))⟩,⟨(some 27),(.binOp .sub 3 (.tmp 26) (.const (.int .i64 1)) 3),(some (23,false))⟩,⟨(some 28),(.indexAddr 36 (.tmp 24) (.tmp 27)),(some (23,false))⟩,⟨(some 29),(.load 3 (.tmp 28)),(some (23,false))⟩,⟨(some 30),(.binOp .neq 3 (.tmp 29) (.const (.int .i64 0)) 3),(some (23,false))⟩,pQ 31 23 30]) ⟨[2,3,7,31],[.old 0],[],[]⟩)
def k74_4:PC:=(.post (.reg [pM 39 9,pB 40 .lss 3 39 0 3,pM 41 40,⟨(some 42),(.move (.tmp 9)),(some (41,false))⟩,⟨(some 43),(.move (.tmp 7)),(some (41,false))⟩,⟨(some 44),(.binOp .gtr 3 (.tmp 42) (.tmp 43) 3),(some (41,false))⟩,pQ 45 41 44,pM 46 45,⟨(some 47),(.move (.tmp 2)),(some (46,false))⟩,⟨(some 48),(.move (.tmp 8)),(some (46,false))⟩,⟨(some 49),(.slice 36 (.tmp 47) none (some (.tmp 48)) none),(some (46,false))⟩,⟨(some 50),(.move (.tmp 9)),(some (46,false))⟩,⟨(some 51),(.call { callee:=(.value (.func 47)),args:=#[(.tmp 49),(.tmp 50)],argTypes:=#[36,3] }),(some (46,false))⟩,pQ 52 46 51,pM 53 52,⟨(some 54),(.move (.tmp 9)),(some (53,false))⟩,⟨(some 55),(.binOp .eql 3 (.tmp 54) (.const (.int .i64 0)) 3),(some (53,false))⟩,⟨(some 56),(.move (.tmp 55)),(some (53,false))⟩,⟨(some 57),(.move (.tmp 8)),(some (56,true))⟩,⟨(some 58),(.move (.tmp 2)),(some (56,true))⟩,⟨(some 59),(.call { callee:=(.builtin .len),args:=#[(.tmp 58)],argTypes:=#[36] }),(some (56,true))⟩,⟨(some 60),(.binOp .sub 3 (.tmp 59) (.const (.int .i64 1)) 3),(some (56,true))⟩,⟨(some 61),(.binOp .lss 3 (.tmp 57) (.tmp 60) 3),(some (56,true))⟩,⟨(some 62),(.pick (.tmp 56) (.tmp 61) (.const (.bool false))),(some (53,false))⟩,pQ 63 53 62]) ⟨[2,3,7,32,33,34,63],[.old 0],[],[]⟩)
def k74_2b:PC:=(sq (.reg [pO 35 .lss 3 34 33 3]) (sq (cd 35 .skip (.pre ⟨[2,3],[.old 0],[],[]⟩ (.exit 0))) (sq (.block 1 (sq (.reg [pM 36 34,pI 37 36 32 34,pL 38 3 37,pA 8 36,pA 9 38]) (sq (.pre ⟨[2,3,7,8,9,32,33,34],[.old 0],[],[]⟩ k74_4) (cd 63 (sq (.reg [pN 6 false]) (.pre ⟨[6],[],[],[]⟩ .ret)) .skip)))) (.post (.reg [pB 64 .add 3 34 1 3,pM 34 64]) ⟨[2,3,7,32,33,34],[.old 0],[],[]⟩))))
def k74_5:PC:=(.post (.fz [pM 65 2,pE 66 65 36,pB 67 .eql 3 66 2 3,pM 68 67,⟨(some 69),(.load 51 (.tmp 3)),(some (68,false))⟩,⟨(some 70),(.move (.tmp 2)),(some (68,false))⟩,⟨(some 71),(.indexAddr 36 (.tmp 70) (.const (.int .i64 1))),(some (68,false))⟩,⟨(some 72),(.load 3 (.tmp 71)),(some (68,false))⟩,⟨(some 73),(.move (.tmp 2)),(some (68,false))⟩,⟨(some 74),(.slice 36 (.tmp 73) (some (.const (.int .i64 1))) none none),(some (68,false))⟩,⟨(some 75),(.call { callee:=(.value (.func 75)),args:=#[(.tmp 69),(.tmp 72),(.tmp 74)],argTypes:=#[51,3,36] }),(some (68,false))⟩,⟨(some 76),(.binOp .geq 3 (.tmp 75) (.const (.int .i64 0)) 3),(some (68,false))⟩,pQ 77 68 76,pA 6 77]) ⟨[6],[],[],[]⟩)
def c74:PC:=(sq (.reg [pX 3 51 0,pN 6 false]) (sq (.reg [pF 10 51 3 0,pL 11 49 10,pE 12 11 49,pA 7 12]) (sq (sq (.pre ⟨[1,2,3,7],[.old 0],[],[]⟩ k74_1) (cd 31 (sq (.reg [pN 6 false]) .ret) .skip)) (sq (sq (.reg [pM 32 2,pE 33 32 36,pV 34 0]) (.block 0 (.pre ⟨[2,3,7,32,33,34],[.old 0],[],[]⟩ (.loop k74_2b)))) (sq (.pre ⟨[2,3],[.old 0],[],[]⟩ k74_5) .ret)))))
def i74:FnI:=⟨78,[(.tmp 6)],c74,0,[[1],[0],[1]],[[0]],false,false,0,false⟩
def k62_7:PC:=(.post (.reg [pL 30 51 1,pM 31 3,pB 32 .add 3 31 1 3,pM 33 6,pC3 34 74 30 32 33 51 3 36,pU 35 4 34,pM 36 35,⟨(some 37),(.load 51 (.tmp 1)),(some (36,false))⟩,⟨(some 38),(.move (.tmp 3)),(some (36,false))⟩,⟨(some 39),(.binOp .add 3 (.tmp 38) (.const (.int .i64 1)) 3),(some (36,false))⟩,⟨(some 40),(.move (.tmp 6)),(some (36,false))⟩,⟨(some 41),(.call { callee:=(.value (.func 75)),args:=#[(.tmp 37),(.tmp 39),(.tmp 40)],argTypes:=#[51,3,36] }),(some (36,false))⟩,⟨(some 42),(.move (.tmp 5)),(some (36,false))⟩,⟨(some 43),(.binOp .neq 3 (.tmp 41) (.tmp 42) 3),(some (36,false))⟩,pQ 44 36 43]) ⟨[1,3,13,14,15,23,24,25,44],[.old 0],[],[]⟩)
def k62_5b:PC:=(sq (.reg [pO 26 .lss 3 25 24 3]) (sq (cd 26 .skip (.pre ⟨[1,13,14,15],[.old 0],[],[]⟩ (.exit 2))) (sq (.block 3 (sq (.reg [pM 27 25,pI 28 83 23 25,pL 29 36 28,pA 5 27,pA 6 29]) (sq (.pre ⟨[1,3,5,6,13,14,15,23,24,25],[.old 0],[],[]⟩ k62_7) (cd 44 (sq (.reg [pN 2 false]) (.pre ⟨[2],[],[],[]⟩ .ret)) .skip)))) (.post (.reg [pB 45 .add 3 25 1 3,pM 25 45]) ⟨[1,3,13,14,15,23,24,25],[.old 0],[],[]⟩))))
def k62_1b:PC:=(sq (.reg [pO 16 .lss 3 15 14 3]) (sq (cd 16 .skip (.pre ⟨[],[],[],[]⟩ (.exit 0))) (sq (.block 1 (sq (.reg [pM 17 15,pI 18 49 13 15,pL 19 83 18,pA 3 17,pA 4 19]) (sq (sq (.reg [pM 20 4,pE 21 20 83,pB 22 .gtr 3 21 6 3]) (cd 22 (sq (.reg [pN 2 false]) (.pre ⟨[2],[],[],[]⟩ .ret)) .skip)) (sq (.reg [pM 23 4,pE 24 23 83,pV 25 0]) (.block 2 (.pre ⟨[1,3,13,14,15,23,24,25],[.old 0],[],[]⟩ (.loop k62_5b))))))) (.post (.reg [pB 46 .add 3 15 1 3,pM 15 46]) ⟨[1,13,14,15],[.old 0],[],[]⟩))))
def c62:PC:=(sq (.reg [pX 1 51 0,pN 2 false]) (sq (sq (.reg [pF 7 51 1 0,pL 8 49 7,pE 9 8 49,⟨(some 10),(.call { callee:=(.value (.func 39)),args:=#[(.tmp 9),(.const (.int .i64 1)),(.const (.int .i64 5))],argTypes:=#[3,3,3] }),none⟩,pU 11 4 10]) (cd 11 (sq (.reg [pN 2 false]) .ret) .skip)) (sq (sq (.reg [pF 12 51 1 0,pL 13 49 12,pE 14 13 49,pV 15 0]) (.block 0 (.pre ⟨[1,13,14,15],[.old 0],[],[]⟩ (.loop k62_1b)))) (sq (.reg [pN 2 true]) .ret))))
def i62:FnI:=⟨47,[(.tmp 2)],c62,0,[[1]],[[0]],false,false,0,false⟩
def k29_15:PC:=(.post (.reg [pM 33 11,pM 34 8,pE 35 34 83,pO 36 .lss 3 33 35 3,pM 37 36,⟨(some 38),(.move (.tmp 1)),(some (37,true))⟩,⟨(some 39),(.move (.tmp 8)),(some (37,true))⟩,⟨(some 40),(.move (.tmp 11)),(some (37,true))⟩,⟨(some 41),(.indexAddr 83 (.tmp 39) (.tmp 40)),(some (37,true))⟩,⟨(some 42),(.load 36 (.tmp 41)),(some (37,true))⟩,⟨(some 43),(.move (.tmp 10)),(some (37,true))⟩,⟨(some 44),(.call { callee:=(.value (.func 61)),args:=#[(.tmp 38),(.tmp 42),(.tmp 43)],argTypes:=#[25,36,36] }),(some (37,true))⟩,pP 45 37 44]) ⟨[0,1,4,6,7,8,10,11,27,28,29,45],[.old 0,.old 1,.old 2,.old 3],[],[]⟩)
def k29_13b:PC:=(sq (sq (.pre ⟨[0,1,4,6,7,8,10,11,27,28,29],[.old 0,.old 1,.old 2,.old 3],[],[]⟩ k29_15) (cd 45 .skip (.pre ⟨[0,1,4,6,7,8,10,11,27,28,29],[.old 0,.old 1,.old 2,.old 3],[],[]⟩ (.exit 4)))) (.block 5 (.post (.reg [pM 46 11,pB 47 .add 3 46 1 3,pA 11 47]) ⟨[0,1,4,6,7,8,10,11,27,28,29],[.old 0,.old 1,.old 2,.old 3],[],[]⟩)))
def k29_9b:PC:=(sq (.reg [pO 30 .lss 3 29 28 3]) (sq (cd 30 .skip (.pre ⟨[0,1,4,6,7,8],[.old 0,.old 1,.old 2,.old 3],[],[]⟩ (.exit 2))) (sq (.block 3 (sq (.reg [pI 31 83 27 29,pL 32 36 31,pA 10 32]) (sq (.reg [pK 11 0]) (sq (.block 4 (.pre ⟨[0,1,4,6,7,8,10,11,27,28,29],[.old 0,.old 1,.old 2,.old 3],[],[]⟩ (.loop k29_13b))) (sq (.reg [pS 12]) (sq (.reg [pM 48 12,pM 49 8,pM 50 11,⟨(some 51),(.slice 83 (.tmp 49) none (some (.tmp 50)) none),none⟩,⟨(some 52),(.call { callee:=(.builtin .append),args:=#[(.tmp 48),(.tmp 51)],argTypes:=#[83,83] }),none⟩,pA 12 52]) (sq (.reg [pM 53 12,pM 54 10,⟨(some 55),(.buildSlice 83 1 #[(0,(.tmp 54))]),none⟩,⟨(some 56),(.call { callee:=(.builtin .append),args:=#[(.tmp 53),(.tmp 55)],argTypes:=#[83,83] }),none⟩,pA 12 56]) (.reg [pM 57 12,pM 58 8,pM 59 11,⟨(some 60),(.slice 83 (.tmp 58) (some (.tmp 59)) none none),none⟩,⟨(some 61),(.call { callee:=(.builtin .append),args:=#[(.tmp 57),(.tmp 60)],argTypes:=#[83,83] }),none⟩,pA 8 61])))))))) (.post (.reg [pB 62 .add 3 29 1 3,pM 29 62]) ⟨[0,1,4,6,7,8,27,28,29],[.old 0,.old 1,.old 2,.old 3],[],[(8,4294967296,1)]⟩))))
def k29_1b:PC:=(sq (sq (.reg [pM 18 7,pM 19 0,pO 20 .leq 3 18 19 3]) (cd 20 .skip (.pre ⟨[4,6],[.old 0,.old 1,.old 2,.old 3],[],[]⟩ (.exit 0)))) (sq (.block 1 (sq (.reg [pS 8]) (sq (sq (.reg [pM 23 0,pM 24 1,pM 25 7,⟨(some 26),(.buildSlice 36 1 #[(0,(.tmp 25))]),none⟩,⟨(some 27),(.call { callee:=(.value (.func 60)),args:=#[(.tmp 23),(.tmp 24),(.tmp 26),(.const (.slice none 0 0))],argTypes:=#[3,25,36,83] }),none⟩,pE 28 27 83,pV 29 0]) (.block 2 (.pre ⟨[0,1,4,6,7,8,27,28,29],[.old 0,.old 1,.old 2,.old 3],[],[(8,4294967296,1),(27,4294967296,1)]⟩ (.loop k29_9b)))) (.reg [pF 63 51 6 0,pL 64 49 63,pM 65 8,⟨(some 66),(.buildSlice 49 1 #[(0,(.tmp 65))]),none⟩,⟨(some 67),(.call { callee:=(.builtin .append),args:=#[(.tmp 64),(.tmp 66)],argTypes:=#[49,49] }),none⟩,pF 68 51 6 0,⟨none,(.store 49 (.tmp 68) (.tmp 67)),none⟩])))) (.post (.reg [pM 21 7,pB 22 .add 3 21 1 3,pA 7 22]) ⟨[0,1,4,6,7],[.old 0,.old 1,.old 2,.old 5],[],[]⟩)))
def c29:PC:=(sq (.reg [pG 4 51,pN 5 false]) (sq (sq (.reg [pM 13 0,pM 14 1,pC2 15 12 13 14 3 25,pU 16 4 15]) (cd 16 (sq (.reg [⟨(some 17),(.build 51 #[]),none⟩,⟨none,(.store 51 (.tmp 4) (.tmp 17)),none⟩,pN 5 false]) .ret) .skip)) (sq (.reg [pG 6 51]) (sq (sq (.reg [pK 7 1]) (.block 0 (.pre ⟨[0,1,4,6,7],[.old 0,.nilB 0 0 1,.old 1,.nilB 1 0 1],[],[]⟩ (.loop k29_1b)))) (sq (sq (.reg [pL 69 51 6,pC 70 62 69 51,pU 71 4 70]) (cd 71 (sq (.reg [⟨(some 72),(.build 51 #[]),none⟩,⟨none,(.store 51 (.tmp 4) (.tmp 72)),none⟩,pN 5 false]) .ret) .skip)) (sq (.reg [pL 73 51 6,⟨none,(.store 51 (.tmp 4) (.tmp 73)),none⟩,pN 5 true]) .ret))))))
def i29:FnI:=⟨74,[(.cell 4 51),(.tmp 5)],c29,0,[[0],[3]],[[1],[0]],true,false,0,false⟩
def k41_1:PC:=(.post (.reg [pM 7 0,pM 8 1,pO 9 .geq 3 7 8 3,pM 10 9,⟨(some 11),(.move (.tmp 0)),(some (10,true))⟩,⟨(some 12),(.move (.tmp 2)),(some (10,true))⟩,⟨(some 13),(.binOp .leq 3 (.tmp 11) (.tmp 12) 3),(some (10,true))⟩,pP 14 10 13,pA 6 14]) ⟨[6],[],[],[]⟩)
def c41:PC:=(sq (.reg [pN 6 false]) (sq (.pre ⟨[0,1,2],[],[],[]⟩ k41_1) .ret))
def i41:FnI:=⟨15,[(.tmp 6)],c41,0,[[0],[0],[0]],[[0]],false,false,0,false⟩
def k70_1b:PC:=(sq (.reg [pO 9 .lss 3 8 7 3]) (sq (cd 9 .skip (.pre ⟨[],[],[],[]⟩ (.exit 0))) (sq (.block 1 (sq (.reg [pM 10 8,pA 5 10]) (sq (.reg [pM 11 1,pM 12 0,pM 13 5,pI 14 25 12 13,pL 15 63 14,⟨(some 16),(.call { callee:=(.value (.tmp 11)),args:=#[(.tmp 15)],argTypes:=#[63] }),none⟩]) (cd 16 (sq (.reg [pM 17 5,pA 4 17]) (.pre ⟨[4],[],[],[]⟩ .ret)) .skip)))) (.post (.reg [pB 18 .add 3 8 1 3,pM 8 18]) ⟨[0,1,7,8],[],[],[]⟩))))
def c70:PC:=(sq (.reg [pK 4 0]) (sq (sq (.reg [pM 6 0,pE 7 6 25,pV 8 0]) (.block 0 (.pre ⟨[0,1,7,8],[],[],[]⟩ (.loop k70_1b)))) (sq (.reg [pK 4 (-1)]) .ret)))
def i70:FnI:=⟨19,[(.tmp 4)],c70,0,[[3],[0]],[[0]],false,false,0,false⟩
def c42:PC:=(sq (.reg [pN 4 false]) (sq (.reg [pM 5 0,pM 6 1,pC2 7 70 5 6 25 67,pB 8 .geq 3 7 0 3,pA 4 8]) .ret))
def i42:FnI:=⟨9,[(.tmp 4)],c42,0,[[3],[0]],[[0]],false,false,0,false⟩
def k43_1:PC:=(.post (.reg [pF 4 63 1 0,pL 5 3 4,pF 6 63 2 0,pL 7 3 6,pO 8 .eql 3 5 7 3,pM 9 8,⟨(some 10),(.fieldAddr 63 (.tmp 1) 1),(some (9,true))⟩,⟨(some 11),(.load 3 (.tmp 10)),(some (9,true))⟩,⟨(some 12),(.fieldAddr 63 (.tmp 2) 1),(some (9,true))⟩,⟨(some 13),(.load 3 (.tmp 12)),(some (9,true))⟩,⟨(some 14),(.binOp .eql 3 (.tmp 11) (.tmp 13) 3),(some (9,true))⟩,pP 15 9 14,pA 3 15]) ⟨[3],[],[],[]⟩)
def c43:PC:=(sq (.reg [pX 2 63 0,pN 3 false]) (sq (.pre ⟨[1,2],[.old 0],[],[]⟩ k43_1) .ret))
def i43:FnI:=⟨16,[(.tmp 3)],c43,0,[[0,0,0],[0]],[[0]],false,false,0,false⟩
def k14_1:PC:=(.post (.reg [pM 7 0,⟨(some 8),(.call { callee:=(.value (.func 41)),args:=#[(.tmp 7),(.const (.int .i64 1)),(.const (.int .i64 5))],argTypes:=#[3,3,3] }),none⟩,pU 9 4 8,pM 10 9,⟨(some 11),(.move (.tmp 1)),(some (10,false))⟩,⟨(some 12),(.call { callee:=(.builtin .len),args:=#[(.tmp 11)],argTypes:=#[25] }),(some (10,false))⟩,⟨(some 13),(.binOp .gtr 3 (.tmp 12) (.const (.int .i64 15)) 3),(some (10,false))⟩,pQ 14 10 13]) ⟨[0,1,14],[],[],[]⟩)
def k14_4:PC:=(.post (.reg [pF 22 63 6 1,pL 23 3 22,pM 24 0,⟨(some 25),(.call { callee:=(.value (.func 41)),args:=#[(.tmp 23),(.const (.int .i64 1)),(.tmp 24)],argTypes:=#[3,3,3] }),none⟩,pU 26 4 25,pM 27 26,⟨(some 28),(.fieldAddr 63 (.tmp 6) 0),(some (27,false))⟩,⟨(some 29),(.load 3 (.tmp 28)),(some (27,false))⟩,⟨(some 30),(.fieldAddr 63 (.tmp 6) 1),(some (27,false))⟩,⟨(some 31),(.load 3 (.tmp 30)),(some (27,false))⟩,⟨(some 32),(.binOp .sub 3 (.tmp 31) (.const (.int .i64 1)) 3),(some (27,false))⟩,⟨(some 33),(.call { callee:=(.value (.func 41)),args:=#[(.tmp 29),(.const (.int .i64 0)),(.tmp 32)],argTypes:=#[3,3,3] }),(some (27,false))⟩,⟨(some 34),(.unOp .not 4 (.tmp 33)),(some (27,false))⟩,pQ 35 27 34,pM 36 35,⟨(some 37),(.fieldAddr 63 (.tmp 6) 2),(some (36,false))⟩,⟨(some 38),(.load 3 (.tmp 37)),(some (36,false))⟩,⟨(some 39),(.call { callee:=(.value (.func 41)),args:=#[(.tmp 38),(.const (.int .i64 1)),(.const (.int .i64 3))],argTypes:=#[3,3,3] }),(some (36,false))⟩,⟨(some 40),(.unOp .not 4 (.tmp 39)),(some (36,false))⟩,pQ 41 36 40,pM 42 41,⟨(some 43),(.move (.tmp 1)),(some (42,false))⟩,⟨(some 44),(.move (.tmp 5)),(some (42,false))⟩,⟨(some 45),(.slice 25 (.tmp 43) none (some (.tmp 44)) none),(some (42,false))⟩,⟨(some 46),(.makeFunc (.func 43) #[] #[(.tmp 6)]),(some (42,false))⟩,⟨(some 47),(.call { callee:=(.value (.func 42)),args:=#[(.tmp 45),(.tmp 46)],argTypes:=#[25,67] }),(some (42,false))⟩,pQ 48 42 47]) ⟨[0,1,15,16,17,48],[],[],[]⟩)
def k14_2b:PC:=(sq (.reg [pO 18 .lss 3 17 16 3]) (sq (cd 18 .skip (.pre ⟨[],[],[],[]⟩ (.exit 0))) (sq (.block 1 (sq (.reg [pM 19 17,pI 20 25 15 17,pL 21 63 20,pG 6 63,pA 5 19,⟨none,(.store 63 (.tmp 6) (.tmp 21)),none⟩]) (sq (.pre ⟨[0,1,5,6,15,16,17],[.old 0],[],[]⟩ k14_4) (cd 48 (sq (.reg [pN 4 false]) (.pre ⟨[4],[],[],[]⟩ .ret)) .skip)))) (.post (.reg [pB 49 .add 3 17 1 3,pM 17 49]) ⟨[0,1,15,16,17],[],[],[]⟩))))
def c14:PC:=(sq (.reg [pN 4 false]) (sq (sq (.pre ⟨[0,1],[],[],[]⟩ k14_1) (cd 14 (sq (.reg [pN 4 false]) .ret) .skip)) (sq (sq (.reg [pM 15 1,pE 16 15 25,pV 17 0]) (.block 0 (.pre ⟨[0,1,15,16,17],[],[],[]⟩ (.loop k14_2b)))) (sq (.reg [pN 4 true]) .ret))))
def i14:FnI:=⟨50,[(.tmp 4)],c14,0,[[0],[3]],[[0]],false,false,0,false⟩
def k46_4:PC:=(.post (.reg [pF 15 63 8 0,pL 16 3 15,pM 17 1,pO 18 .eql 3 16 17 3,pM 19 18,⟨(some 20),(.fieldAddr 63 (.tmp 8) 1),(some (19,true))⟩,⟨(some 21),(.load 3 (.tmp 20)),(some (19,true))⟩,⟨(some 22),(.move (.tmp 2)),(some (19,true))⟩,⟨(some 23),(.binOp .eql 3 (.tmp 21) (.tmp 22) 3),(some (19,true))⟩,pP 24 19 23]) ⟨[1,2,8,9,10,11,24],[.old 0],[],[]⟩)
def k46_5:PC:=(.post (.reg [pF 27 63 8 0,pL 28 3 27,pM 29 2,pO 30 .eql 3 28 29 3,pM 31 30,⟨(some 32),(.fieldAddr 63 (.tmp 8) 1),(some (31,true))⟩,⟨(some 33),(.load 3 (.tmp 32)),(some (31,true))⟩,⟨(some 34),(.move (.tmp 1)),(some (31,true))⟩,⟨(some 35),(.binOp .eql 3 (.tmp 33) (.tmp 34) 3),(some (31,true))⟩,pP 36 31 35]) ⟨[1,2,8,9,10,11,36],[.old 0],[],[]⟩)
def k46_1b:PC:=(sq (.reg [pO 12 .lss 3 11 10 3]) (sq (cd 12 .skip (.pre ⟨[],[],[],[]⟩ (.exit 0))) (sq (.block 1 (sq (.reg [pI 13 25 9 11,pL 14 63 13,pG 8 63,⟨none,(.store 63 (.tmp 8) (.tmp 14)),none⟩]) (sq (sq (.pre ⟨[1,2,8,9,10,11],[.old 0],[],[]⟩ k46_4) (cd 24 (sq (.reg [pF 25 63 8 2,pL 26 3 25,pA 6 26]) (.pre ⟨[6],[],[],[]⟩ .ret)) .skip)) (sq (.pre ⟨[1,2,8,9,10,11],[.old 0],[],[]⟩ k46_5) (cd 36 (sq (.reg [pF 37 63 8 2,pL 38 3 37,⟨(some 39),(.binOp .sub 3 (.const (.int .i64 4)) (.tmp 38) 3),none⟩,pA 6 39]) (.pre ⟨[6],[],[],[]⟩ .ret)) .skip))))) (.post (.reg [pB 40 .add 3 11 1 3,pM 11 40]) ⟨[1,2,9,10,11],[],[],[]⟩))))
def c46:PC:=(sq (.reg [pK 6 0]) (sq (sq (.reg [pM 9 0,pE 10 9 25,pV 11 0]) (.block 0 (.pre ⟨[1,2,9,10,11],[],[],[]⟩ (.loop k46_1b)))) (sq (.reg [pK 6 0]) .ret)))
def i46:FnI:=⟨41,[(.tmp 6)],c46,0,[[3],[0],[0]],[[0]],false,false,0,false⟩
def k56_4:PC:=(.post (.reg [pM 25 7,pB 26 .eql 3 25 0 3,pM 27 26,⟨(some 28),(.move (.tmp 5)),(some (27,false))⟩,⟨(some 29),(.move (.tmp 28)),(some (27,false))⟩,⟨(some 30),(.move (.tmp 7)),(some (29,true))⟩,⟨(some 31),(.binOp .neq 3 (.tmp 30) (.const (.int .i64 1)) 3),(some (29,true))⟩,⟨(some 32),(.pick (.tmp 29) (.tmp 31) (.const (.bool false))),(some (27,false))⟩,pQ 33 27 32]) ⟨[0,1,5,6,7,33],[],[],[]⟩)
def k56_5:PC:=(.post (.reg [pM 34 5,pM 35 34,⟨(some 36),(.move (.tmp 7)),(some (35,false))⟩,⟨(some 37),(.binOp .neq 3 (.tmp 36) (.const (.int .i64 3)) 3),(some (35,false))⟩,pQ 38 35 37,pA 5 38]) ⟨[0,1,5,6],[],[],[]⟩)
def k56_1b:PC:=(sq (sq (.reg [pM 8 6,pM 9 1,pE 10 9 36,pO 11 .lss 3 8 10 3]) (cd 11 .skip (.pre ⟨[],[],[],[]⟩ (.exit 0)))) (sq (.block 1 (sq (.fz [pM 14 0,pM 15 1,pM 16 6,pB 17 .sub 3 16 1 3,pI 18 36 15 17,pL 19 3 18,pM 20 1,pM 21 6,pI 22 36 20 21,pL 23 3 22,pC3 24 46 14 19 23 25 3 3,pA 7 24]) (sq (sq (.pre ⟨[0,1,5,6,7],[],[],[]⟩ k56_4) (cd 33 (sq (.reg [pN 4 false]) (.pre ⟨[4],[],[],[]⟩ .ret)) .skip)) (.pre ⟨[0,1,5,6,7],[],[],[]⟩ k56_5)))) (.post (.reg [pM 12 6,pB 13 .add 3 12 1 3,pA 6 13]) ⟨[0,1,5,6],[],[],[]⟩)))
def c56:PC:=(sq (.reg [pN 4 false]) (sq (.reg [pN 5 false]) (sq (sq (.reg [pK 6 1]) (.block 0 (.pre ⟨[0,1,5,6],[],[],[]⟩ (.loop k56_1b)))) (sq (.reg [pN 4 true]) .ret))))
def i56:FnI:=⟨39,[(.tmp 4)],c56,0,[[3],[1]],[[0]],false,false,0,false⟩
def k72_1b:PC:=(sq (.reg [pO 9 .lss 3 8 7 3]) (sq (cd 9 .skip (.pre ⟨[],[],[],[]⟩ (.exit 0))) (sq (.block 1 (sq (.reg [pM 10 8,pA 5 10]) (sq (.reg [pM 11 1,pM 12 0,pM 13 5,pI 14 36 12 13,pL 15 3 14,pO 16 .eql 3 11 15 3]) (cd 16 (sq (.reg [pM 17 5,pA 4 17]) (.pre ⟨[4],[],[],[]⟩ .ret)) .skip)))) (.post (.reg [pB 18 .add 3 8 1 3,pM 8 18]) ⟨[0,1,7,8],[],[],[]⟩))))
def c72:PC:=(sq (.reg [pK 4 0]) (sq (sq (.reg [pM 6 0,pE 7 6 36,pV 8 0]) (.block 0 (.pre ⟨[0,1,7,8],[],[],[]⟩ (.loop k72_1b)))) (sq (.reg [pK 4 (-1)]) .ret)))
def i72:FnI:=⟨19,[(.tmp 4)],c72,0,[[1],[0]],[[0]],false,false,0,false⟩
def c55:PC:=(sq (.reg [pN 4 false]) (sq (.reg [pM 5 0,pM 6 1,pC2 7 72 5 6 36 3,pB 8 .geq 3 7 0 3,pA 4 8]) .ret))
def i55:FnI:=⟨9,[(.tmp 4)],c55,0,[[1],[0]],[[0]],false,false,0,false⟩
def r49_1:List PO:=[pM 3 0,
 ⟨(some 4),(.binOp .eql 36 (.tmp 3) (.const (.slice none 0 0)) 36),none⟩]
def c49:PC:=(sq (.reg [pS 2]) (.amb [pM 3 0,⟨(some 4),(.binOp .eql 36 (.tmp 3) (.const (.slice none 0 0)) 36),none⟩] (.tmp 4) (sq (sq (.reg [pS 2]) (.pre ⟨[2],[.nilT 2 0 1],[],[]⟩ .ret)) .bad) (sq .skip (sq (.reg [⟨(some 5),(.buildSlice 36 0 #[]),none⟩,pM 6 0,⟨(some 7),(.call { callee:=(.builtin .append),args:=#[(.tmp 5),(.tmp 6)],argTypes:=#[36,36] }),none⟩,pA 2 7]) (.pre ⟨[2],[.old 1],[],[]⟩ .ret)))))
def i49:FnI:=⟨8,[(.tmp 2)],c49,0,[[1]],[[1]],false,false,0,false⟩
def k76_3:PC:=(cd 34 (.post (.reg [pM 35 0,pM 36 1,pM 37 2,pC 38 49 37 36,pM 39 9,⟨(some 40),(.buildSlice 36 1 #[(0,(.tmp 39))]),none⟩,⟨(some 41),(.call { callee:=(.builtin .append),args:=#[(.tmp 38),(.tmp 40)],argTypes:=#[36,36] }),none⟩,pM 42 3,⟨(some 43),(.call { callee:=(.value (.func 76)),args:=#[(.tmp 35),(.tmp 36),(.tmp 41),(.tmp 42)],argTypes:=#[3,25,36,83] }),none⟩,pA 3 43]) ⟨[0,1,2,3,27,28],[.old 2,.old 7],[0,1],[]⟩) (.post .skip ⟨[0,1,2,3,27,28],[.old 2,.old 3],[0,1],[]⟩))
def k76_1b:PC:=(sq (.reg [pO 29 .lss 3 28 27 3]) (sq (cd 29 .skip (.pre ⟨[3],[.old 3],[0,1],[]⟩ (.exit 0))) (sq (.block 1 (sq (.reg [pM 30 28,pA 9 30]) (sq (.reg [pM 31 2,pM 32 9,pC2 33 55 31 32 36 3,pU 34 4 33]) (.pre ⟨[0,1,2,3,9,27,28,34],[.old 2,.old 3],[0,1],[]⟩ k76_3)))) (.post (.reg [pB 44 .add 3 28 1 3,pM 28 44]) ⟨[0,1,2,3,27,28],[.old 2,.old 3],[0,1],[]⟩))))
def c76:PC:=(sq (.reg [pS 8]) (sq (sq (.reg [pM 10 1,pM 11 2,pC2 12 56 10 11 25 36,pU 13 4 12]) (cd 13 (sq (.reg [pM 14 3,pA 8 14]) (.pre ⟨[8],[.old 1],[0,1],[]⟩ .ret)) .skip)) (sq (sq (.reg [pM 15 2,pM 16 2,pE 17 16 36,pB 18 .sub 3 17 1 3,pI 19 36 15 18,pL 20 3 19,pB 21 .eql 3 20 0 3]) (cd 21 (sq (.reg [pM 22 3,pM 23 2,⟨(some 24),(.buildSlice 83 1 #[(0,(.tmp 23))]),none⟩,⟨(some 25),(.call { callee:=(.builtin .append),args:=#[(.tmp 22),(.tmp 24)],argTypes:=#[83,83] }),none⟩,pA 8 25]) (.pre ⟨[8],[.old 3],[0,1],[]⟩ .ret)) .skip)) (sq (sq (.reg [pM 26 0,pB 27 .add 3 26 1 3,pV 28 0]) (.block 0 (.pre ⟨[0,1,2,3,27,28],[.old 0,.old 1],[0,1],[]⟩ (.loop k76_1b)))) (sq (.reg [pM 45 3,pA 8 45]) (.pre ⟨[8],[.old 2],[0,1],[]⟩ .ret))))))
def i76:FnI:=⟨46,[(.tmp 8)],c76,3,[[0],[3],[1],[1]],[[1]],false,true,2,false⟩
def i77:FnI:=⟨14,[],.bad,6,[[1],[0]],[],false,false,83,false⟩
def ren77:Go.Shelf.Ren where
 f x:=if x=6 then 77 else if x=14 then 96 else if x=15 then 97 else if x=20 then 104 else if x=21 then 105 else if x=22 then 106 else if x=23 then 107 else if x=24 then 108 else if x=25 then 109 else if x=26 then 110 else if x=27 then 111 else if x=28 then 112 else if x=29 then 113 else if x=46 then 116 else if x=47 then 117 else if x=48 then 118 else if x=49 then 119 else if x=50 then 120 else if x=57 then 123 else x
 t x:=if x=0 then 0 else if x=3 then 3 else if x=4 then 4 else if x=5 then 5 else if x=9 then 9 else if x=22 then 83 else if x=24 then 36 else if x=25 then 100 else if x=39 then 108 else if x=45 then 115 else if x=46 then 116 else if x=50 then 29 else if x=53 then 122 else if x=55 then 77 else if x=66 then 126 else if x=70 then 130 else if x=76 then 136 else if x=77 then 137 else x
 g x:=x
theorem srl77:Go.Proofs.SlLaysF.n6 Try.prog ren77:=⟨by kernel_rfl,
 ⟨"slices.SortFunc[[][]int,[]int]", by decide, by kernel_rfl⟩,
 ⟨"slices.pdqsortCmpFunc[[]int]", by decide, by kernel_rfl⟩,
 by kernel_rfl,
 ⟨"slices.insertionSortCmpFunc[[]int]", by decide, by kernel_rfl⟩,
 ⟨"slices.heapSortCmpFunc[[]int]", by decide, by kernel_rfl⟩,
 ⟨"slices.breakPatternsCmpFunc[[]int]", by decide, by kernel_rfl⟩,
 ⟨"slices.choosePivotCmpFunc[[]int]", by decide, by kernel_rfl⟩,
 ⟨"slices.reverseRangeCmpFunc[[]int]", by decide, by kernel_rfl⟩,
 ⟨"slices.partialInsertionSortCmpFunc[[]int]", by decide, by kernel_rfl⟩,
 ⟨"slices.partitionEqualCmpFunc[[]int]", by decide, by kernel_rfl⟩,
 ⟨"slices.partitionCmpFunc[[]int]", by decide, by kernel_rfl⟩,
 by kernel_rfl,
 by kernel_rfl,
 ⟨"slices.siftDownCmpFunc[[]int]", by decide, by kernel_rfl⟩,
 by kernel_rfl,
 by kernel_rfl,
 ⟨"slices.medianAdjacentCmpFunc[[]int]", by decide, by kernel_rfl⟩,
 ⟨"slices.medianCmpFunc[[]int]", by decide, by kernel_rfl⟩,
 ⟨"slices.order2CmpFunc[[]int]", by decide, by kernel_rfl⟩,
 by kernel_rfl,
 agg_ofM (t:=ren77.t 0) (by kernel_rfl),
 size_ofS (t:=ren77.t 0) (by kernel_rfl),
 zero_ofS (t:=ren77.t 0) (by kernel_rfl),
 by kernel_rfl,
 agg_ofM (t:=ren77.t 3) (by kernel_rfl),
 size_ofS (t:=ren77.t 3) (by kernel_rfl),
 zero_ofS (t:=ren77.t 3) (by kernel_rfl),
 by kernel_rfl,
 agg_ofM (t:=ren77.t 4) (by kernel_rfl),
 size_ofS (t:=ren77.t 4) (by kernel_rfl),
 zero_ofS (t:=ren77.t 4) (by kernel_rfl),
 by kernel_rfl,
 agg_ofM (t:=ren77.t 5) (by kernel_rfl),
 size_ofS (t:=ren77.t 5) (by kernel_rfl),
 zero_ofS (t:=ren77.t 5) (by kernel_rfl),
 by kernel_rfl,
 agg_ofM (t:=ren77.t 9) (by kernel_rfl),
 size_ofS (t:=ren77.t 9) (by kernel_rfl),
 zero_ofS (t:=ren77.t 9) (by kernel_rfl),
 by kernel_rfl,
 agg_ofM (t:=ren77.t 22) (by kernel_rfl),
 size_ofS (t:=ren77.t 22) (by kernel_rfl),
 zero_ofS (t:=ren77.t 22) (by kernel_rfl),
 agg_ofM (t:=ren77.t 24) (by kernel_rfl),
 size_ofS (t:=ren77.t 24) (by kernel_rfl),
 by kernel_rfl,
 agg_ofM (t:=ren77.t 25) (by kernel_rfl),
 size_ofS (t:=ren77.t 25) (by kernel_rfl),
 zero_ofS (t:=ren77.t 25) (by kernel_rfl),
 by kernel_rfl,
 agg_ofM (t:=ren77.t 39) (by kernel_rfl),
 size_ofS (t:=ren77.t 39) (by kernel_rfl),
 zero_ofS (t:=ren77.t 39) (by kernel_rfl),
 by kernel_rfl,
 agg_ofM (t:=ren77.t 45) (by kernel_rfl),
 size_ofS (t:=ren77.t 45) (by kernel_rfl),
 zero_ofS (t:=ren77.t 45) (by kernel_rfl),
 by kernel_rfl,
 agg_ofM (t:=ren77.t 46) (by kernel_rfl),
 size_ofS (t:=ren77.t 46) (by kernel_rfl),
 zero_ofS (t:=ren77.t 46) (by kernel_rfl),
 by kernel_rfl,
 agg_ofM (t:=ren77.t 50) (by kernel_rfl),
 size_ofS (t:=ren77.t 50) (by kernel_rfl),
 zero_ofS (t:=ren77.t 50) (by kernel_rfl),
 by kernel_rfl,
 agg_ofM (t:=ren77.t 53) (by kernel_rfl),
 size_ofS (t:=ren77.t 53) (by kernel_rfl),
 zero_ofS (t:=ren77.t 53) (by kernel_rfl),
 by kernel_rfl,
 agg_ofM (t:=ren77.t 55) (by kernel_rfl),
 size_ofS (t:=ren77.t 55) (by kernel_rfl),
 zero_ofS (t:=ren77.t 55) (by kernel_rfl),
 by kernel_rfl,
 agg_ofM (t:=ren77.t 66) (by kernel_rfl),
 size_ofS (t:=ren77.t 66) (by kernel_rfl),
 zero_ofS (t:=ren77.t 66) (by kernel_rfl),
 by kernel_rfl,
 agg_ofM (t:=ren77.t 70) (by kernel_rfl),
 size_ofS (t:=ren77.t 70) (by kernel_rfl),
 zero_ofS (t:=ren77.t 70) (by kernel_rfl),
 by kernel_rfl,
 agg_ofM (t:=ren77.t 76) (by kernel_rfl),
 size_ofS (t:=ren77.t 76) (by kernel_rfl),
 zero_ofS (t:=ren77.t 76) (by kernel_rfl),
 by kernel_rfl,
 agg_ofM (t:=ren77.t 77) (by kernel_rfl),
 size_ofS (t:=ren77.t 77) (by kernel_rfl),
 zero_ofS (t:=ren77.t 77) (by kernel_rfl)⟩
theorem prim77:PrimOk Try.prog 77 i77:=srt_prim rfl (srtOk_1 srl77 (by kernel_rfl) (by kernel_rfl))
def c98:PC:=(sq (.reg [pN 2 false]) (sq (.reg [pM 3 0,pM 4 0,pO 5 .neq 3 3 4 3,pA 2 5]) .ret))
def i98:FnI:=⟨6,[(.tmp 2)],c98,0,[[0]],[[0]],false,false,0,false⟩
def c80:PC:=(sq (.reg [pK 4 0]) (sq (.reg [pM 7 0,pC 8 98 7 3,pA 5 8]) (sq (.reg [pM 9 1,pC 10 98 9 3,pA 6 10]) (sq (sq (.reg [pM 11 5]) (cd 11 (sq (sq (.reg [pM 12 6]) (cd 12 (sq (.reg [pK 4 0]) .ret) .skip)) (sq (.reg [pK 4 (-1)]) .ret)) .skip)) (sq (sq (.reg [pM 13 6]) (cd 13 (sq (.reg [pK 4 1]) .ret) .skip)) (sq (sq (.reg [pM 14 0,pM 15 1,pO 16 .lss 3 14 15 3]) (cd 16 (sq (.reg [pK 4 (-1)]) .ret) .skip)) (sq (sq (.reg [pM 17 0,pM 18 1,pO 19 .gtr 3 17 18 3]) (cd 19 (sq (.reg [pK 4 1]) .ret) .skip)) (sq (.reg [pK 4 0]) .ret))))))))
def i80:FnI:=⟨20,[(.tmp 4)],c80,0,[[0],[0]],[[0]],false,false,0,false⟩
def k81_1b:PC:=(sq (.reg [pO 12 .lss 3 11 10 3]) (sq (cd 12 .skip (.pre ⟨[0,1],[],[],[]⟩ (.exit 0))) (sq (.block 1 (sq (.reg [pM 13 11,pI 14 36 9 11,pL 15 3 14,pA 5 13,pA 6 15]) (sq (sq (.reg [pM 16 5,pM 17 1,pE 18 17 36,pO 19 .geq 3 16 18 3]) (cd 19 (sq (.reg [pK 4 1]) (.pre ⟨[4],[],[],[]⟩ .ret)) .skip)) (sq (.reg [pM 20 1,pM 21 5,pI 22 36 20 21,pL 23 3 22,pA 7 23]) (sq (.reg [pM 24 6,pM 25 7,pC2 26 80 24 25 3 3,pA 8 26]) (sq (.reg [pM 27 8,pB 28 .neq 3 27 0 3]) (cd 28 (sq (.reg [pM 29 8,pA 4 29]) (.pre ⟨[4],[],[],[]⟩ .ret)) .skip))))))) (.post (.reg [pB 30 .add 3 11 1 3,pM 11 30]) ⟨[0,1,9,10,11],[],[],[]⟩))))
def c81:PC:=(sq (.reg [pK 4 0]) (sq (sq (.reg [pM 9 0,pE 10 9 36,pV 11 0]) (.block 0 (.pre ⟨[0,1,9,10,11],[],[],[]⟩ (.loop k81_1b)))) (sq (sq (.reg [pM 31 0,pE 32 31 36,pM 33 1,pE 34 33 36,pO 35 .lss 3 32 34 3]) (cd 35 (sq (.reg [pK 4 (-1)]) .ret) .skip)) (sq (.reg [pK 4 0]) .ret))))
def i81:FnI:=⟨36,[(.tmp 4)],c81,0,[[1],[1]],[[0]],false,false,0,false⟩
def k79_1b:PC:=(sq (.reg [pO 9 .lss 3 8 7 3]) (sq (cd 9 .skip (.pre ⟨[3],[],[],[]⟩ (.exit 0))) (sq (.block 1 (sq (.reg [pI 10 36 6 8,pL 11 3 10,pA 5 11]) (sq (.reg [pM 12 5,pM 13 3,pO 14 .neq 3 12 13 3]) (cd 14 (sq (.reg [pM 15 5,pA 2 15]) (.pre ⟨[2],[],[],[]⟩ .ret)) .skip)))) (.post (.reg [pB 16 .add 3 8 1 3,pM 8 16]) ⟨[3,6,7,8],[],[],[]⟩))))
def c79:PC:=(sq (.reg [pK 2 0]) (sq (.reg [pK 3 0]) (sq (sq (.reg [pM 6 0,pE 7 6 36,pV 8 0]) (.block 0 (.pre ⟨[3,6,7,8],[],[],[]⟩ (.loop k79_1b)))) (sq (.reg [pM 17 3,pA 2 17]) .ret))))
def i79:FnI:=⟨18,[(.tmp 2)],c79,0,[[1]],[[0]],false,false,0,false⟩
@[go_sem] def x78_1:FxI:=⟨[5,11,12,17,20,21,22],[none,none,none,none,none,none,none,none,none,none,none,none,none,none,none,none,none,none,none,none,none,none,none,none],0,[[],[5],[5,11],[5,11,12],[5,11,12,17],[5,11,12,17,20],[5,11,12,17,20,21],[5,11,12,17,20,21,22]],[],[(6,0,0),(7,0,0),(9,0,0),(10,0,0),(14,0,0),(14,1,1),(14,2,2),(16,0,0),(16,1,1),(16,2,2)]⟩
def c78:PC:=(sq (.reg [pK 6 0]) (sq (.fx [pL 7 25 2,pL 8 3 3,pM 9 0,⟨(some 10),(.indexAddr 36 (.tmp 9) (.const (.int .i64 1))),none⟩,pL 11 3 10,pC3 12 46 7 8 11 25 3 3,pL 13 25 2,pL 14 3 3,pM 15 1,⟨(some 16),(.indexAddr 36 (.tmp 15) (.const (.int .i64 1))),none⟩,pL 17 3 16,pC3 18 46 13 14 17 25 3 3,pC2 19 80 12 18 3 3,pM 20 0,pE 21 20 36,pM 22 1,pE 23 22 36,pC2 24 80 21 23 3 3,pM 25 0,pM 26 1,pC2 27 81 25 26 36 36,⟨(some 28),(.buildSlice 36 3 #[(0,(.tmp 19)),(1,(.tmp 24)),(2,(.tmp 27))]),none⟩,pC 29 79 28 36,pA 6 29] x78_1) .ret))
def i78:FnI:=⟨30,[(.tmp 6)],c78,0,[[1],[1],[0],[0]],[[0]],false,false,0,false⟩
def k63_1b:PC:=(sq (sq (.reg [pL 9 3 6,pM 10 0,pO 11 .leq 3 9 10 3]) (cd 11 .skip (.pre ⟨[4,5],[.old 1,.old 2,.old 3,.old 4],[],[]⟩ (.exit 0)))) (sq (.block 1 (sq (.reg [pM 14 0,pL 15 25 3,pL 16 3 6,⟨(some 17),(.buildSlice 36 1 #[(0,(.tmp 16))]),none⟩,⟨(some 18),(.call { callee:=(.value (.func 76)),args:=#[(.tmp 14),(.tmp 15),(.tmp 17),(.const (.slice none 0 0))],argTypes:=#[3,25,36,83] }),none⟩,pA 7 18]) (sq (.reg [pM 19 7,⟨(some 20),(.makeFunc (.func 78) #[] #[(.tmp 3),(.tmp 6)]),none⟩,pC2 21 77 19 20 83 100]) (.reg [pF 22 51 5 0,pL 23 49 22,pM 24 7,⟨(some 25),(.buildSlice 49 1 #[(0,(.tmp 24))]),none⟩,⟨(some 26),(.call { callee:=(.builtin .append),args:=#[(.tmp 23),(.tmp 25)],argTypes:=#[49,49] }),none⟩,pF 27 51 5 0,⟨none,(.store 49 (.tmp 27) (.tmp 26)),none⟩])))) (sq (sq (.reg [pL 28 3 6]) (.reg [pG 6 3,⟨none,(.store 3 (.tmp 6) (.tmp 28)),none⟩])) (.post (.reg [pL 12 3 6,pB 13 .add 3 12 1 3,⟨none,(.store 3 (.tmp 6) (.tmp 13)),none⟩]) ⟨[0,3,4,5,6],[.old 0,.old 1,.old 2,.old 3,.old 10,.old 11],[],[]⟩))))
def c63:PC:=(sq (.reg [pX 3 25 1,pG 4 51]) (sq (.reg [⟨(some 8),(.build 51 #[]),none⟩,pG 5 51,⟨none,(.store 51 (.tmp 5) (.tmp 8)),none⟩]) (sq (sq (.reg [pG 6 3,⟨none,(.store 3 (.tmp 6) (.const (.int .i64 1))),none⟩]) (.block 0 (.pre ⟨[0,3,4,5,6],[.old 0,.old 1,.nilB 1 0 1,.old 2,.nilB 2 0 1,.old 3],[],[]⟩ (.loop k63_1b)))) (sq (.reg [pL 29 51 5,⟨none,(.store 51 (.tmp 4) (.tmp 29)),none⟩]) .ret))))
def i63:FnI:=⟨30,[(.cell 4 51)],c63,0,[[0],[3]],[[1]],false,false,0,false⟩
def k100_1b:PC:=(sq (.reg [pO 9 .lss 3 8 7 3]) (sq (cd 9 .skip (.pre ⟨[],[],[],[]⟩ (.exit 0))) (sq (.block 1 (sq (.reg [pM 10 8,pA 5 10]) (sq (.reg [pM 11 1,pM 12 0,pM 13 5,pI 14 83 12 13,pL 15 36 14,⟨(some 16),(.call { callee:=(.value (.tmp 11)),args:=#[(.tmp 15)],argTypes:=#[36] }),none⟩]) (cd 16 (sq (.reg [pM 17 5,pA 4 17]) (.pre ⟨[4],[],[],[]⟩ .ret)) .skip)))) (.post (.reg [pB 18 .add 3 8 1 3,pM 8 18]) ⟨[0,1,7,8],[],[],[]⟩))))
def c100:PC:=(sq (.reg [pK 4 0]) (sq (sq (.reg [pM 6 0,pE 7 6 83,pV 8 0]) (.block 0 (.pre ⟨[0,1,7,8],[],[],[]⟩ (.loop k100_1b)))) (sq (.reg [pK 4 (-1)]) .ret)))
def i100:FnI:=⟨19,[(.tmp 4)],c100,0,[[1],[0]],[[0]],false,false,0,false⟩
def c83:PC:=(sq (.reg [pN 4 false]) (sq (.reg [pM 5 0,pM 6 1,pC2 7 100 5 6 83 102,pB 8 .geq 3 7 0 3,pA 4 8]) .ret))
def i83:FnI:=⟨9,[(.tmp 4)],c83,0,[[1],[0]],[[0]],false,false,0,false⟩
def k85_1b:PC:=(sq (.reg [pO 14 .lss 3 13 12 3]) (sq (cd 14 .skip (.pre ⟨[],[],[],[]⟩ (.exit 0))) (sq (.block 1 (sq (.reg [pM 15 13,pA 5 15]) (sq (.fz [pM 16 0,pM 17 5,pI 18 36 16 17,pL 19 3 18,pM 20 1,pM 21 5,pI 22 36 20 21,pL 23 3 22,pO 24 .neq 3 19 23 3]) (cd 24 (sq (.reg [pN 4 false]) (.pre ⟨[4],[],[],[]⟩ .ret)) .skip)))) (.post (.reg [pB 25 .add 3 13 1 3,pM 13 25]) ⟨[0,1,12,13],[],[],[]⟩))))
def c85:PC:=(sq (.reg [pN 4 false]) (sq (sq (.reg [pM 6 0,pE 7 6 36,pM 8 1,pE 9 8 36,pO 10 .neq 3 7 9 3]) (cd 10 (sq (.reg [pN 4 false]) .ret) .skip)) (sq (sq (.reg [pM 11 0,pE 12 11 36,pV 13 0]) (.block 0 (.pre ⟨[0,1,12,13],[],[],[]⟩ (.loop k85_1b)))) (sq (.reg [pN 4 true]) .ret))))
def i85:FnI:=⟨26,[(.tmp 4)],c85,0,[[1],[1]],[[0]],false,false,0,false⟩
def c99:PC:=(sq (.reg [pN 3 false]) (sq (.reg [pM 4 0,pL 5 36 1,⟨(some 6),(.slice 36 (.tmp 5) (some (.const (.int .i64 1))) none none),none⟩,pC2 7 85 4 6 36 36,pA 3 7]) .ret))
def i99:FnI:=⟨8,[(.tmp 3)],c99,0,[[1],[0]],[[0]],false,false,0,false⟩
def k82_1:PC:=(.post (.reg [pM 13 7,pB 14 .lss 3 13 1 3,pM 15 14,⟨(some 16),(.load 36 (.tmp 5)),(some (15,false))⟩,⟨(some 17),(.indexAddr 36 (.tmp 16) (.const (.int .i64 0))),(some (15,false))⟩,⟨(some 18),(.load 3 (.tmp 17)),(some (15,false))⟩,⟨(some 19),(.move (.tmp 1)),(some (15,false))⟩,⟨(some 20),(.binOp .neq 3 (.tmp 18) (.tmp 19) 3),(some (15,false))⟩,pQ 21 15 20,pM 22 21,⟨(some 23),(.load 36 (.tmp 5)),(some (22,false))⟩,⟨(some 24),(.move (.tmp 7)),(some (22,false))⟩,⟨(some 25),(.indexAddr 36 (.tmp 23) (.tmp 24)),(some (22,false))⟩,⟨(some 26),(.load 3 (.tmp 25)),(some (22,false))⟩,⟨(some 27),(.binOp .neq 3 (.tmp 26) (.const (.int .i64 0)) 3),(some (22,false))⟩,pQ 28 22 27]) ⟨[3,5,7,28],[.old 0,.old 1],[],[]⟩)
def k82_4:PC:=(.post (.reg [pM 36 8,pM 37 7,pO 38 .lss 3 36 37 3,pM 39 38,⟨(some 40),(.move (.tmp 9)),(some (39,true))⟩,⟨(some 41),(.fieldAddr 51 (.tmp 3) 0),(some (39,true))⟩,⟨(some 42),(.load 49 (.tmp 41)),(some (39,true))⟩,⟨(some 43),(.call { callee:=(.builtin .len),args:=#[(.tmp 42)],argTypes:=#[49] }),(some (39,true))⟩,⟨(some 44),(.call { callee:=(.value (.func 41)),args:=#[(.tmp 40),(.const (.int .i64 1)),(.tmp 43)],argTypes:=#[3,3,3] }),(some (39,true))⟩,⟨(some 45),(.unOp .not 4 (.tmp 44)),(some (39,true))⟩,pP 46 39 45,pM 47 46,⟨(some 48),(.load 36 (.tmp 5)),(some (47,false))⟩,⟨(some 49),(.move (.tmp 8)),(some (47,false))⟩,⟨(some 50),(.slice 36 (.tmp 48) none (some (.tmp 49)) none),(some (47,false))⟩,⟨(some 51),(.move (.tmp 9)),(some (47,false))⟩,⟨(some 52),(.call { callee:=(.value (.func 55)),args:=#[(.tmp 50),(.tmp 51)],argTypes:=#[36,3] }),(some (47,false))⟩,pQ 53 47 52]) ⟨[3,5,7,29,30,31,53],[.old 0,.old 1],[],[]⟩)
def k82_2b:PC:=(sq (.reg [pO 32 .lss 3 31 30 3]) (sq (cd 32 .skip (.pre ⟨[3,5,7],[.old 0,.old 1],[],[]⟩ (.exit 0))) (sq (.block 1 (sq (.reg [pM 33 31,pI 34 36 29 31,pL 35 3 34,pA 8 33,pA 9 35]) (sq (.pre ⟨[3,5,7,8,9,29,30,31],[.old 0,.old 1],[],[]⟩ k82_4) (cd 53 (sq (.reg [pN 6 false]) (.pre ⟨[6],[],[],[]⟩ .ret)) .skip)))) (.post (.reg [pB 54 .add 3 31 1 3,pM 31 54]) ⟨[3,5,7,29,30,31],[.old 0,.old 1],[],[]⟩))))
def k82_5:PC:=(.post (.fz [pM 55 7,pB 56 .eql 3 55 1 3,pM 57 56,⟨(some 58),(.fieldAddr 51 (.tmp 3) 0),(some (57,false))⟩,⟨(some 59),(.load 49 (.tmp 58)),(some (57,false))⟩,⟨(some 60),(.load 36 (.tmp 5)),(some (57,false))⟩,⟨(some 61),(.indexAddr 36 (.tmp 60) (.const (.int .i64 1))),(some (57,false))⟩,⟨(some 62),(.load 3 (.tmp 61)),(some (57,false))⟩,⟨(some 63),(.binOp .sub 3 (.tmp 62) (.const (.int .i64 1)) 3),(some (57,false))⟩,⟨(some 64),(.indexAddr 49 (.tmp 59) (.tmp 63)),(some (57,false))⟩,⟨(some 65),(.load 83 (.tmp 64)),(some (57,false))⟩,⟨(some 66),(.makeFunc (.func 99) #[] #[(.tmp 5)]),(some (57,false))⟩,⟨(some 67),(.call { callee:=(.value (.func 83)),args:=#[(.tmp 65),(.tmp 66)],argTypes:=#[83,102] }),(some (57,false))⟩,pQ 68 57 67,pA 6 68]) ⟨[6],[],[],[]⟩)
def c82:PC:=(sq (.reg [pX 3 51 0,pX 5 36 2,pN 6 false]) (sq (.reg [pL 10 36 5,pE 11 10 36,pB 12 .sub 3 11 1 3,pA 7 12]) (sq (sq (.pre ⟨[1,3,5,7],[.old 0,.old 1],[],[]⟩ k82_1) (cd 28 (sq (.reg [pN 6 false]) .ret) .skip)) (sq (sq (.reg [pL 29 36 5,pE 30 29 36,pV 31 0]) (.block 0 (.pre ⟨[3,5,7,29,30,31],[.old 0,.old 1],[],[]⟩ (.loop k82_2b)))) (sq (.pre ⟨[3,5,7],[.old 0,.old 1],[],[]⟩ k82_5) .ret)))))
def i82:FnI:=⟨69,[(.tmp 6)],c82,0,[[1],[0],[1]],[[0]],false,false,0,false⟩
def c84:PC:=(sq (.reg [pN 3 false]) (sq (.reg [pM 4 0,pL 5 36 1,pC2 6 85 4 5 36 36,pA 3 6]) .ret))
def i84:FnI:=⟨7,[(.tmp 3)],c84,0,[[1],[0]],[[0]],false,false,0,false⟩
def k64_7:PC:=(.post (.reg [pL 30 36 6,pE 31 30 36,pB 32 .gtr 3 31 6 3,pM 33 32,⟨(some 34),(.load 51 (.tmp 1)),(some (33,false))⟩,⟨(some 35),(.move (.tmp 3)),(some (33,false))⟩,⟨(some 36),(.binOp .add 3 (.tmp 35) (.const (.int .i64 1)) 3),(some (33,false))⟩,⟨(some 37),(.load 36 (.tmp 6)),(some (33,false))⟩,⟨(some 38),(.call { callee:=(.value (.func 82)),args:=#[(.tmp 34),(.tmp 36),(.tmp 37)],argTypes:=#[51,3,36] }),(some (33,false))⟩,⟨(some 39),(.unOp .not 4 (.tmp 38)),(some (33,false))⟩,pQ 40 33 39,pM 41 40,⟨(some 42),(.move (.tmp 4)),(some (41,false))⟩,⟨(some 43),(.move (.tmp 5)),(some (41,false))⟩,⟨(some 44),(.slice 83 (.tmp 42) none (some (.tmp 43)) none),(some (41,false))⟩,⟨(some 45),(.makeFunc (.func 84) #[] #[(.tmp 6)]),(some (41,false))⟩,⟨(some 46),(.call { callee:=(.value (.func 83)),args:=#[(.tmp 44),(.tmp 45)],argTypes:=#[83,102] }),(some (41,false))⟩,pQ 47 41 46]) ⟨[1,3,4,13,14,15,23,24,25,47],[.old 0],[],[]⟩)
def k64_5b:PC:=(sq (.reg [pO 26 .lss 3 25 24 3]) (sq (cd 26 .skip (.pre ⟨[1,13,14,15],[.old 0],[],[]⟩ (.exit 2))) (sq (.block 3 (sq (.reg [pM 27 25,pI 28 83 23 25,pL 29 36 28,pG 6 36,pA 5 27,⟨none,(.store 36 (.tmp 6) (.tmp 29)),none⟩]) (sq (.pre ⟨[1,3,4,5,6,13,14,15,23,24,25],[.old 0,.old 1],[],[]⟩ k64_7) (cd 47 (sq (.reg [pN 2 false]) (.pre ⟨[2],[],[],[]⟩ .ret)) .skip)))) (.post (.reg [pB 48 .add 3 25 1 3,pM 25 48]) ⟨[1,3,4,13,14,15,23,24,25],[.old 0],[],[]⟩))))
def k64_1b:PC:=(sq (.reg [pO 16 .lss 3 15 14 3]) (sq (cd 16 .skip (.pre ⟨[],[],[],[]⟩ (.exit 0))) (sq (.block 1 (sq (.reg [pM 17 15,pI 18 49 13 15,pL 19 83 18,pA 3 17,pA 4 19]) (sq (sq (.reg [pM 20 4,pE 21 20 83,pB 22 .gtr 3 21 6 3]) (cd 22 (sq (.reg [pN 2 false]) (.pre ⟨[2],[],[],[]⟩ .ret)) .skip)) (sq (.reg [pM 23 4,pE 24 23 83,pV 25 0]) (.block 2 (.pre ⟨[1,3,4,13,14,15,23,24,25],[.old 0],[],[]⟩ (.loop k64_5b))))))) (.post (.reg [pB 49 .add 3 15 1 3,pM 15 49]) ⟨[1,13,14,15],[.old 0],[],[]⟩))))
def c64:PC:=(sq (.reg [pX 1 51 0,pN 2 false]) (sq (sq (.reg [pF 7 51 1 0,pL 8 49 7,pE 9 8 49,⟨(some 10),(.call { callee:=(.value (.func 41)),args:=#[(.tmp 9),(.const (.int .i64 1)),(.const (.int .i64 5))],argTypes:=#[3,3,3] }),none⟩,pU 11 4 10]) (cd 11 (sq (.reg [pN 2 false]) .ret) .skip)) (sq (sq (.reg [pF 12 51 1 0,pL 13 49 12,pE 14 13 49,pV 15 0]) (.block 0 (.pre ⟨[1,13,14,15],[.old 0],[],[]⟩ (.loop k64_1b)))) (sq (.reg [pN 2 true]) .ret))))
def i64:FnI:=⟨50,[(.tmp 2)],c64,0,[[1]],[[0]],false,false,0,false⟩
def c30:PC:=(sq (.reg [pG 4 51,pN 5 false]) (sq (sq (.reg [pM 7 0,pM 8 1,pC2 9 14 7 8 3 25,pU 10 4 9]) (cd 10 (sq (.reg [⟨(some 11),(.build 51 #[]),none⟩,⟨none,(.store 51 (.tmp 4) (.tmp 11)),none⟩,pN 5 false]) .ret) .skip)) (sq (.reg [pM 12 0,pM 13 1,pC2 14 63 12 13 3 25,pG 6 51,⟨none,(.store 51 (.tmp 6) (.tmp 14)),none⟩]) (sq (sq (.reg [pL 15 51 6,pC 16 64 15 51,pU 17 4 16]) (cd 17 (sq (.reg [⟨(some 18),(.build 51 #[]),none⟩,⟨none,(.store 51 (.tmp 4) (.tmp 18)),none⟩,pN 5 false]) .ret) .skip)) (sq (.reg [pL 19 51 6,⟨none,(.store 51 (.tmp 4) (.tmp 19)),none⟩,pN 5 true]) .ret)))))
def i30:FnI:=⟨20,[(.cell 4 51),(.tmp 5)],c30,0,[[0],[3]],[[1],[0]],false,false,0,false⟩
def k25_1b:PC:=(sq (sq (.reg [pM 11 5,pM 12 0,pE 13 12 36,pO 14 .lss 3 11 13 3]) (cd 14 .skip (.pre ⟨[],[],[],[]⟩ (.exit 0)))) (sq (.block 1 (sq (.fz [pM 17 0,pM 18 5,pI 19 36 17 18,pL 20 3 19,pM 21 1,pM 22 5,pI 23 36 21 22,pL 24 3 23,pO 25 .neq 3 20 24 3]) (cd 25 (sq (.reg [pN 4 false]) (.pre ⟨[4],[],[],[]⟩ .ret)) .skip))) (.post (.reg [pM 15 5,pB 16 .add 3 15 1 3,pA 5 16]) ⟨[0,1,5],[],[],[]⟩)))
def c25:PC:=(sq (.reg [pN 4 false]) (sq (sq (.reg [pM 6 0,pE 7 6 36,pM 8 1,pE 9 8 36,pO 10 .neq 3 7 9 3]) (cd 10 (sq (.reg [pN 4 false]) .ret) .skip)) (sq (sq (.reg [pK 5 0]) (.block 0 (.pre ⟨[0,1,5],[],[],[]⟩ (.loop k25_1b)))) (sq (.reg [pN 4 true]) .ret))))
def i25:FnI:=⟨26,[(.tmp 4)],c25,0,[[1],[1]],[[0]],false,false,0,false⟩
def k86_1b:PC:=(sq (sq (.reg [pM 11 5,pM 12 0,pE 13 12 83,pO 14 .lss 3 11 13 3]) (cd 14 .skip (.pre ⟨[],[],[],[]⟩ (.exit 0)))) (sq (.block 1 (sq (.fz [pM 17 0,pM 18 5,pI 19 83 17 18,pL 20 36 19,pM 21 1,pM 22 5,pI 23 83 21 22,pL 24 36 23,pC2 25 25 20 24 36 36,pU 26 4 25]) (cd 26 (sq (.reg [pN 4 false]) (.pre ⟨[4],[],[],[]⟩ .ret)) .skip))) (.post (.reg [pM 15 5,pB 16 .add 3 15 1 3,pA 5 16]) ⟨[0,1,5],[],[],[]⟩)))
def c86:PC:=(sq (.reg [pN 4 false]) (sq (sq (.reg [pM 6 0,pE 7 6 83,pM 8 1,pE 9 8 83,pO 10 .neq 3 7 9 3]) (cd 10 (sq (.reg [pN 4 false]) .ret) .skip)) (sq (sq (.reg [pK 5 0]) (.block 0 (.pre ⟨[0,1,5],[],[],[]⟩ (.loop k86_1b)))) (sq (.reg [pN 4 true]) .ret))))
def i86:FnI:=⟨27,[(.tmp 4)],c86,0,[[1],[1]],[[0]],false,false,0,false⟩
def k65_1b:PC:=(sq (sq (.reg [pM 11 5,pM 12 0,pE 13 12 49,pO 14 .lss 3 11 13 3]) (cd 14 .skip (.pre ⟨[],[],[],[]⟩ (.exit 0)))) (sq (.block 1 (sq (.fz [pM 17 0,pM 18 5,pI 19 49 17 18,pL 20 83 19,pM 21 1,pM 22 5,pI 23 49 21 22,pL 24 83 23,pC2 25 86 20 24 83 83,pU 26 4 25]) (cd 26 (sq (.reg [pN 4 false]) (.pre ⟨[4],[],[],[]⟩ .ret)) .skip))) (.post (.reg [pM 15 5,pB 16 .add 3 15 1 3,pA 5 16]) ⟨[0,1,5],[],[],[]⟩)))
def c65:PC:=(sq (.reg [pN 4 false]) (sq (sq (.reg [pM 6 0,pE 7 6 49,pM 8 1,pE 9 8 49,pO 10 .neq 3 7 9 3]) (cd 10 (sq (.reg [pN 4 false]) .ret) .skip)) (sq (sq (.reg [pK 5 0]) (.block 0 (.pre ⟨[0,1,5],[],[],[]⟩ (.loop k65_1b)))) (sq (.reg [pN 4 true]) .ret))))
def i65:FnI:=⟨27,[(.tmp 4)],c65,0,[[1],[1]],[[0]],false,false,0,false⟩
def c31:PC:=(sq (.reg [pX 2 51 0,pX 3 51 1,pN 4 false]) (sq (sq (.reg [pF 5 51 2 0,pL 6 49 5,pF 7 51 3 0,pL 8 49 7,pC2 9 65 6 8 49 49,pU 10 4 9]) (cd 10 (sq (.reg [pN 4 false]) .ret) .skip)) (sq (.reg [pN 4 true]) .ret)))
def i31:FnI:=⟨11,[(.tmp 4)],c31,0,[[1],[1]],[[0]],false,false,0,false⟩
def c44:PC:=(sq (.reg [pX 2 63 0,pX 3 63 1,pN 4 false]) (sq (sq (.reg [pF 5 63 2 0,pL 6 3 5,pF 7 63 3 0,pL 8 3 7,pO 9 .neq 3 6 8 3]) (cd 9 (sq (.reg [pN 4 false]) .ret) .skip)) (sq (sq (.reg [pF 10 63 2 1,pL 11 3 10,pF 12 63 3 1,pL 13 3 12,pO 14 .neq 3 11 13 3]) (cd 14 (sq (.reg [pN 4 false]) .ret) .skip)) (sq (sq (.reg [pF 15 63 2 2,pL 16 3 15,pF 17 63 3 2,pL 18 3 17,pO 19 .neq 3 16 18 3]) (cd 19 (sq (.reg [pN 4 false]) .ret) .skip)) (sq (.reg [pN 4 true]) .ret)))))
def i44:FnI:=⟨20,[(.tmp 4)],c44,0,[[0,0,0],[0,0,0]],[[0]],false,false,0,false⟩
def k15_1b:PC:=(sq (sq (.reg [pM 11 5,pM 12 0,pE 13 12 25,pO 14 .lss 3 11 13 3]) (cd 14 .skip (.pre ⟨[],[],[],[]⟩ (.exit 0)))) (sq (.block 1 (sq (.fz [pM 17 0,pM 18 5,pI 19 25 17 18,pL 20 63 19,pM 21 1,pM 22 5,pI 23 25 21 22,pL 24 63 23,pC2 25 44 20 24 63 63,pU 26 4 25]) (cd 26 (sq (.reg [pN 4 false]) (.pre ⟨[4],[],[],[]⟩ .ret)) .skip))) (.post (.reg [pM 15 5,pB 16 .add 3 15 1 3,pA 5 16]) ⟨[0,1,5],[],[],[]⟩)))
def c15:PC:=(sq (.reg [pN 4 false]) (sq (sq (.reg [pM 6 0,pE 7 6 25,pM 8 1,pE 9 8 25,pO 10 .neq 3 7 9 3]) (cd 10 (sq (.reg [pN 4 false]) .ret) .skip)) (sq (sq (.reg [pK 5 0]) (.block 0 (.pre ⟨[0,1,5],[],[],[]⟩ (.loop k15_1b)))) (sq (.reg [pN 4 true]) .ret))))
def i15:FnI:=⟨27,[(.tmp 4)],c15,0,[[3],[3]],[[0]],false,false,0,false⟩
def k32_1b:PC:=(sq (sq (.reg [pM 6 5,pM 7 0,pE 8 7 25,pO 9 .lss 3 6 8 3]) (cd 9 .skip (.pre ⟨[1],[],[],[]⟩ (.exit 0)))) (sq (.block 1 (sq (.reg [pM 12 0,pM 13 5,pM 14 1,pI 15 25 12 13,pF 16 63 15 0,⟨none,(.store 3 (.tmp 16) (.tmp 14)),none⟩]) (sq (.reg [pM 17 1,pB 18 .add 3 17 1 3,pA 1 18]) (sq (.reg [pM 19 0,pM 20 5,pM 21 1,pI 22 25 19 20,pF 23 63 22 1,⟨none,(.store 3 (.tmp 23) (.tmp 21)),none⟩]) (sq (.reg [pM 24 1,pB 25 .add 3 24 1 3,pA 1 25]) (sq (.reg [pM 26 0,pM 27 5,pM 28 1,pI 29 25 26 27,pF 30 63 29 2,⟨none,(.store 3 (.tmp 30) (.tmp 28)),none⟩]) (.reg [pM 31 1,pB 32 .add 3 31 1 3,pA 1 32]))))))) (.post (.reg [pM 10 5,pB 11 .add 3 10 1 3,pA 5 11]) ⟨[0,1,5],[],[],[]⟩)))
def c32:PC:=(sq (.reg [pK 4 0]) (sq (sq (.reg [pK 5 0]) (.block 0 (.pre ⟨[0,1,5],[],[],[]⟩ (.loop k32_1b)))) (sq (.reg [pM 33 1,pA 4 33]) (.pre ⟨[4],[],[],[]⟩ .ret))))
def i32:FnI:=⟨34,[(.tmp 4)],c32,3,[[3],[0]],[[0]],false,true,1,false⟩
def k37_1b:PC:=(sq (sq (.reg [pM 6 5,pM 7 0,pE 8 7 36,pO 9 .lss 3 6 8 3]) (cd 9 .skip (.pre ⟨[1],[],[],[]⟩ (.exit 0)))) (sq (.block 1 (sq (.reg [pM 12 0,pM 13 5,pM 14 1,pI 15 36 12 13,⟨none,(.store 3 (.tmp 15) (.tmp 14)),none⟩]) (.reg [pM 16 1,pB 17 .add 3 16 1 3,pA 1 17]))) (.post (.reg [pM 10 5,pB 11 .add 3 10 1 3,pA 5 11]) ⟨[0,1,5],[],[],[]⟩)))
def c37:PC:=(sq (.reg [pK 4 0]) (sq (sq (.reg [pK 5 0]) (.block 0 (.pre ⟨[0,1,5],[],[],[]⟩ (.loop k37_1b)))) (sq (.reg [pM 18 1,pA 4 18]) (.pre ⟨[4],[],[],[]⟩ .ret))))
def i37:FnI:=⟨19,[(.tmp 4)],c37,3,[[1],[0]],[[0]],false,true,1,false⟩
def k87_1b:PC:=(sq (sq (.reg [pM 6 5,pM 7 0,pE 8 7 83,pO 9 .lss 3 6 8 3]) (cd 9 .skip (.pre ⟨[1],[],[],[]⟩ (.exit 0)))) (sq (.block 1 (.nest [pM 12 0,pM 13 5,pI 14 83 12 13,pL 15 36 14,pM 16 1,pC2 17 37 15 16 36 3,pA 1 17] 3 2)) (.post (.reg [pM 10 5,pB 11 .add 3 10 1 3,pA 5 11]) ⟨[0,1,5],[],[],[]⟩)))
def c87:PC:=(sq (.reg [pK 4 0]) (sq (sq (.reg [pK 5 0]) (.block 0 (.pre ⟨[0,1,5],[],[],[]⟩ (.loop k87_1b)))) (sq (.reg [pM 18 1,pA 4 18]) (.pre ⟨[4],[],[],[]⟩ .ret))))
def i87:FnI:=⟨19,[(.tmp 4)],c87,3,[[1],[0]],[[0]],false,true,1,true⟩
def k66_1b:PC:=(sq (sq (.reg [pM 6 5,pM 7 0,pE 8 7 49,pO 9 .lss 3 6 8 3]) (cd 9 .skip (.pre ⟨[1],[],[],[]⟩ (.exit 0)))) (sq (.block 1 (.nest [pM 12 0,pM 13 5,pI 14 49 12 13,pL 15 83 14,pM 16 1,pC2 17 87 15 16 83 3,pA 1 17] 3 2)) (.post (.reg [pM 10 5,pB 11 .add 3 10 1 3,pA 5 11]) ⟨[0,1,5],[],[],[]⟩)))
def c66:PC:=(sq (.reg [pK 4 0]) (sq (sq (.reg [pK 5 0]) (.block 0 (.pre ⟨[0,1,5],[],[],[]⟩ (.loop k66_1b)))) (sq (.reg [pM 18 1,pA 4 18]) (.pre ⟨[4],[],[],[]⟩ .ret))))
def i66:FnI:=⟨19,[(.tmp 4)],c66,3,[[1],[0]],[[0]],false,true,1,true⟩
def c33:PC:=(sq (.reg [pX 2 51 0,pK 4 0]) (sq (.reg [pF 5 51 2 0,pL 6 49 5,pM 7 1,pC2 8 66 6 7 49 3,pA 1 8]) (sq (.reg [pM 9 1,pA 4 9]) (.pre ⟨[4],[],[],[]⟩ .ret))))
def i33:FnI:=⟨10,[(.tmp 4)],c33,3,[[1],[0]],[[0]],false,true,1,true⟩
def k38_1b:PC:=(sq (sq (.reg [pM 6 5,pM 7 0,pE 8 7 36,pO 9 .lss 3 6 8 3]) (cd 9 .skip (.pre ⟨[1],[],[],[]⟩ (.exit 0)))) (sq (.block 1 (sq (sq (.reg [pM 12 0,pM 13 5,pI 14 36 12 13,pL 15 3 14,pM 16 1,pO 17 .neq 3 15 16 3]) (cd 17 (sq (.reg [pK 4 (-1)]) (.pre ⟨[4],[],[],[]⟩ .ret)) .skip)) (.reg [pM 18 1,pB 19 .add 3 18 1 3,pA 1 19]))) (.post (.reg [pM 10 5,pB 11 .add 3 10 1 3,pA 5 11]) ⟨[0,1,5],[],[],[]⟩)))
def c38:PC:=(sq (.reg [pK 4 0]) (sq (sq (.reg [pK 5 0]) (.block 0 (.pre ⟨[0,1,5],[],[],[]⟩ (.loop k38_1b)))) (sq (.reg [pM 20 1,pA 4 20]) .ret)))
def i38:FnI:=⟨21,[(.tmp 4)],c38,0,[[1],[0]],[[0]],false,false,0,false⟩
def k88_1b:PC:=(sq (sq (.reg [pM 6 5,pM 7 0,pE 8 7 83,pO 9 .lss 3 6 8 3]) (cd 9 .skip (.pre ⟨[1],[],[],[]⟩ (.exit 0)))) (sq (.block 1 (sq (.reg [pM 12 0,pM 13 5,pI 14 83 12 13,pL 15 36 14,pM 16 1,pC2 17 38 15 16 36 3,pA 1 17]) (sq (.reg [pM 18 1,pB 19 .lss 3 18 0 3]) (cd 19 (sq (.reg [pK 4 (-1)]) (.pre ⟨[4],[],[],[]⟩ .ret)) .skip)))) (.post (.reg [pM 10 5,pB 11 .add 3 10 1 3,pA 5 11]) ⟨[0,1,5],[],[],[]⟩)))
def c88:PC:=(sq (.reg [pK 4 0]) (sq (sq (.reg [pK 5 0]) (.block 0 (.pre ⟨[0,1,5],[],[],[]⟩ (.loop k88_1b)))) (sq (.reg [pM 20 1,pA 4 20]) .ret)))
def i88:FnI:=⟨21,[(.tmp 4)],c88,0,[[1],[0]],[[0]],false,false,0,false⟩
def k67_1b:PC:=(sq (sq (.reg [pM 6 5,pM 7 0,pE 8 7 49,pO 9 .lss 3 6 8 3]) (cd 9 .skip (.pre ⟨[1],[],[],[]⟩ (.exit 0)))) (sq (.block 1 (sq (.reg [pM 12 0,pM 13 5,pI 14 49 12 13,pL 15 83 14,pM 16 1,pC2 17 88 15 16 83 3,pA 1 17]) (sq (.reg [pM 18 1,pB 19 .lss 3 18 0 3]) (cd 19 (sq (.reg [pK 4 (-1)]) (.pre ⟨[4],[],[],[]⟩ .ret)) .skip)))) (.post (.reg [pM 10 5,pB 11 .add 3 10 1 3,pA 5 11]) ⟨[0,1,5],[],[],[]⟩)))
def c67:PC:=(sq (.reg [pK 4 0]) (sq (sq (.reg [pK 5 0]) (.block 0 (.pre ⟨[0,1,5],[],[],[]⟩ (.loop k67_1b)))) (sq (.reg [pM 20 1,pA 4 20]) .ret)))
def i67:FnI:=⟨21,[(.tmp 4)],c67,0,[[1],[0]],[[0]],false,false,0,false⟩
def c34:PC:=(sq (.reg [pX 2 51 0,pK 4 0]) (sq (.reg [pF 5 51 2 0,pL 6 49 5,pM 7 1,pC2 8 67 6 7 49 3,pA 1 8]) (sq (sq (.reg [pM 9 1,pB 10 .lss 3 9 0 3]) (cd 10 (sq (.reg [pK 4 (-1)]) .ret) .skip)) (sq (.reg [pM 11 1,pA 4 11]) .ret))))
def i34:FnI:=⟨12,[(.tmp 4)],c34,0,[[1],[0]],[[0]],false,false,0,false⟩
def k9_1:PC:=(.post (.reg [pL 36 51 9,pL 37 51 6,pC2 38 31 36 37 51 51,pU 39 4 38,pM 40 39,⟨(some 41),(.move (.tmp 10)),(some (40,false))⟩,⟨(some 42),(.move (.tmp 7)),(some (40,false))⟩,⟨(some 43),(.binOp .neq 4 (.tmp 41) (.tmp 42) 4),(some (40,false))⟩,pQ 44 40 43]) ⟨[0,1,6,7,8,9,10,44],[.old 0,.old 1,.old 2,.old 3],[],[]⟩)
def k9_2:PC:=(.post (.reg [pM 53 11,pB 54 .lss 3 53 0 3,pM 55 54,⟨(some 56),(.load 51 (.tmp 9)),(some (55,false))⟩,⟨(some 57),(.load 51 (.tmp 6)),(some (55,false))⟩,⟨(some 58),(.call { callee:=(.value (.func 31)),args:=#[(.tmp 56),(.tmp 57)],argTypes:=#[51,51] }),(some (55,false))⟩,⟨(some 59),(.unOp .not 4 (.tmp 58)),(some (55,false))⟩,pQ 60 55 59,pM 61 60,⟨(some 62),(.move (.tmp 10)),(some (61,false))⟩,⟨(some 63),(.move (.tmp 7)),(some (61,false))⟩,⟨(some 64),(.binOp .neq 4 (.tmp 62) (.tmp 63) 4),(some (61,false))⟩,pQ 65 61 64]) ⟨[0,1,6,7,9,65],[.old 0,.old 1,.old 2],[],[]⟩)
def k9_3:PC:=(.post (.reg [pL 84 51 14,pL 85 51 6,pC2 86 31 84 85 51 51,pU 87 4 86,pM 88 87,⟨(some 89),(.move (.tmp 15)),(some (88,false))⟩,⟨(some 90),(.move (.tmp 7)),(some (88,false))⟩,⟨(some 91),(.binOp .neq 4 (.tmp 89) (.tmp 90) 4),(some (88,false))⟩,pQ 92 88 91]) ⟨[9,12,92],[.old 1,.old 2],[],[]⟩)
def c9:PC:=(sq (.reg [pN 4 false]) (sq (.reg [pK 5 1048576]) (sq (.reg [pM 16 1,pM 17 5,pC2 18 11 16 17 22 3,pA 5 18]) (sq (sq (.reg [pM 19 5,pB 20 .lss 3 19 0 3]) (cd 20 (sq (.reg [pN 4 true]) .ret) .skip)) (sq (.reg [pM 22 0,pM 23 1,pC 24 13 23 22,pC2 25 29 22 24 3 25,pM 21 25,pT 26 21 0,pT 27 21 1,pG 6 51,⟨none,(.store 51 (.tmp 6) (.tmp 26)),none⟩,pA 7 27]) (sq (.reg [pM 28 1,pC 29 13 28 22,pA 8 29]) (sq (.reg [pM 31 0,pM 32 8,pC2 33 30 31 32 3 25,pM 30 33,pT 34 30 0,pT 35 30 1,pG 9 51,⟨none,(.store 51 (.tmp 9) (.tmp 34)),none⟩,pA 10 35]) (sq (sq (.pre ⟨[0,1,6,7,8,9,10],[.old 1,.old 2,.old 4,.old 3],[],[]⟩ k9_1) (cd 44 (sq (.reg [pN 4 false]) .ret) .skip)) (sq (sq (.reg [pM 45 8,pM 46 1,pC 47 13 46 22,pC2 48 15 45 47 25 25,pU 49 4 48]) (cd 49 (sq (.reg [pN 4 false]) .ret) .skip)) (sq (.reg [pK 11 1]) (sq (.reg [pM 50 8,pM 51 11,pC2 52 32 50 51 25 3,pA 11 52]) (sq (sq (.pre ⟨[0,1,6,7,9,10,11],[.old 0,.old 2,.old 3],[],[]⟩ k9_2) (cd 65 (sq (.reg [pN 4 false]) .ret) .skip)) (sq (.reg [pK 12 1]) (sq (.reg [pL 66 51 9,pM 67 12,pC2 68 33 66 67 51 3,pA 12 68]) (sq (.reg [pK 13 1]) (sq (.reg [pL 69 51 9,pM 70 13,pC2 71 34 69 70 51 3,pA 13 71]) (sq (sq (.reg [pM 72 13,pB 73 .lss 3 72 0 3]) (cd 73 (sq (.reg [pN 4 false]) .ret) .skip)) (sq (sq (.reg [pM 74 13,pM 75 12,pO 76 .neq 3 74 75 3]) (cd 76 (sq (.reg [pN 4 false]) .ret) .skip)) (sq (.reg [pM 78 0,pM 79 1,pC 80 13 79 22,pC2 81 30 78 80 3 25,pM 77 81,pT 82 77 0,pT 83 77 1,pG 14 51,⟨none,(.store 51 (.tmp 14) (.tmp 82)),none⟩,pA 15 83]) (sq (sq (.pre ⟨[6,7,9,12,14,15],[.old 0,.old 1,.old 2,.old 5,.old 4],[],[]⟩ k9_3) (cd 92 (sq (.reg [pN 4 false]) .ret) .skip)) (sq (.reg [pK 13 1]) (sq (.reg [pL 93 51 9,pM 94 13,pC2 95 34 93 94 51 3,pA 13 95]) (sq (sq (.reg [pM 96 13,pB 97 .lss 3 96 0 3]) (cd 97 .bad .skip)) (sq (sq (.reg [pM 98 13,pM 99 12,pO 100 .neq 3 98 99 3]) (cd 100 .bad .skip)) (sq (.reg [pN 4 true]) .ret)))))))))))))))))))))))))
def i9:FnI:=⟨101,[(.tmp 4)],c9,0,[[0],[3]],[[0]],false,false,0,true⟩
def tys:List (Nat×TyI):=[(3,⟨1,8,false,[.int .i64 0],[0],0,[],.int .i64,false⟩),
 (4,⟨1,1,false,[.bool false],[0],0,[],.bool,false⟩),
 (22,⟨1,24,false,[.nil],[3],65,[],.other,false⟩),
 (25,⟨1,24,false,[.nil],[3],63,[],.other,false⟩),
 (36,⟨1,24,false,[.nil],[1],3,[],.other,false⟩),
 (49,⟨1,24,false,[.nil],[1],83,[],.other,false⟩),
 (51,⟨1,24,true,[.nil],[1],0,[(0,1,false)],.other,false⟩),
 (63,⟨3,24,true,[.int .i64 0,.int .i64 0,.int .i64 0],[0,0,0],0,[(0,1,false),(1,1,false),(2,1,false)],.other,true⟩),
 (65,⟨3,24,true,[.int .i64 0,.int .i64 0,.int .i64 0],[0,0,0],0,[(0,1,false),(1,1,false),(2,1,false)],.other,true⟩),
 (83,⟨1,24,false,[.nil],[1],36,[],.other,false⟩),
 (108,⟨1,8,false,[.int .u64 0],[0],0,[],.int .u64,false⟩)]
def fns:List (Nat×FnI):=[(9,i9),(11,i11),(12,i12),(13,i13),(14,i14),(15,i15),(25,i25),(29,i29),(30,i30),(31,i31),(32,i32),(33,i33),(34,i34),(37,i37),(38,i38),(39,i39),(40,i40),(41,i41),(42,i42),(43,i43),(44,i44),(45,i45),(46,i46),(47,i47),(49,i49),(54,i54),(55,i55),(56,i56),(60,i60),(61,i61),(62,i62),(63,i63),(64,i64),(65,i65),(66,i66),(67,i67),(70,i70),(72,i72),(74,i74),(75,i75),(76,i76),(77,i77),(78,i78),(79,i79),(80,i80),(81,i81),(82,i82),(83,i83),(84,i84),(85,i85),(86,i86),(87,i87),(88,i88),(91,i91),(98,i98),(99,i99),(100,i100)]
def T:Tab:=mkTab tys fns
theorem soft0:T.soft=false:=rfl
theorem ty3:T.ty 3=some ⟨1,8,false,[.int .i64 0],[0],0,[],.int .i64,false⟩:=rfl
theorem base3:T.baseOf 3=Bs.int .i64:=rfl
theorem ty4:T.ty 4=some ⟨1,1,false,[.bool false],[0],0,[],.bool,false⟩:=rfl
theorem base4:T.baseOf 4=Bs.bool:=rfl
theorem ty22:T.ty 22=some ⟨1,24,false,[.nil],[3],65,[],.other,false⟩:=rfl
theorem base22:T.baseOf 22=Bs.other:=rfl
theorem elem22:T.elemOf 22=some ⟨3,24,true,[.int .i64 0,.int .i64 0,.int .i64 0],[0,0,0],0,[(0,1,false),(1,1,false),(2,1,false)],.other,true⟩:=rfl
theorem ty25:T.ty 25=some ⟨1,24,false,[.nil],[3],63,[],.other,false⟩:=rfl
theorem base25:T.baseOf 25=Bs.other:=rfl
theorem elem25:T.elemOf 25=some ⟨3,24,true,[.int .i64 0,.int .i64 0,.int .i64 0],[0,0,0],0,[(0,1,false),(1,1,false),(2,1,false)],.other,true⟩:=rfl
theorem ty36:T.ty 36=some ⟨1,24,false,[.nil],[1],3,[],.other,false⟩:=rfl
theorem base36:T.baseOf 36=Bs.other:=rfl
theorem elem36:T.elemOf 36=some ⟨1,8,false,[.int .i64 0],[0],0,[],.int .i64,false⟩:=rfl
theorem ty49:T.ty 49=some ⟨1,24,false,[.nil],[1],83,[],.other,false⟩:=rfl
theorem base49:T.baseOf 49=Bs.other:=rfl
theorem elem49:T.elemOf 49=some ⟨1,24,false,[.nil],[1],36,[],.other,false⟩:=rfl
theorem ty51:T.ty 51=some ⟨1,24,true,[.nil],[1],0,[(0,1,false)],.other,false⟩:=rfl
theorem base51:T.baseOf 51=Bs.other:=rfl
theorem ty63:T.ty 63=some ⟨3,24,true,[.int .i64 0,.int .i64 0,.int .i64 0],[0,0,0],0,[(0,1,false),(1,1,false),(2,1,false)],.other,true⟩:=rfl
theorem base63:T.baseOf 63=Bs.other:=rfl
theorem ty65:T.ty 65=some ⟨3,24,true,[.int .i64 0,.int .i64 0,.int .i64 0],[0,0,0],0,[(0,1,false),(1,1,false),(2,1,false)],.other,true⟩:=rfl
theorem base65:T.baseOf 65=Bs.other:=rfl
theorem ty83:T.ty 83=some ⟨1,24,false,[.nil],[1],36,[],.other,false⟩:=rfl
theorem base83:T.baseOf 83=Bs.other:=rfl
theorem elem83:T.elemOf 83=some ⟨1,24,false,[.nil],[1],3,[],.other,false⟩:=rfl
theorem ty108:T.ty 108=some ⟨1,8,false,[.int .u64 0],[0],0,[],.int .u64,false⟩:=rfl
theorem base108:T.baseOf 108=Bs.int .u64:=rfl
attribute [go_sem] soft0 ty3 base3 ty4 base4 ty22 base22 elem22 ty25 base25 elem25 ty36 base36 elem36 ty49 base49 elem49 ty51 base51 ty63 base63 ty65 base65 ty83 base83 elem83 ty108 base108
theorem ok9:FnOk Try.prog (9,i9):=⟨Try.f9,_,Try.func9,rfl,by kernel_rfl,rfl,rfl,by kernel_rfl⟩
theorem ok11:FnOk Try.prog (11,i11):=⟨Try.f11,_,Try.func11,rfl,by kernel_rfl,rfl,rfl,by kernel_rfl⟩
theorem ok12:FnOk Try.prog (12,i12):=⟨Try.f12,_,Try.func12,rfl,by kernel_rfl,rfl,rfl,by kernel_rfl⟩
theorem ok13:FnOk Try.prog (13,i13):=⟨Try.f13,_,Try.func13,rfl,by kernel_rfl,rfl,rfl,by kernel_rfl⟩
theorem ok14:FnOk Try.prog (14,i14):=⟨Try.f14,_,Try.func14,rfl,by kernel_rfl,rfl,rfl,by kernel_rfl⟩
theorem ok15:FnOk Try.prog (15,i15):=⟨Try.f15,_,Try.func15,rfl,by kernel_rfl,rfl,rfl,by kernel_rfl⟩
theorem ok25:FnOk Try.prog (25,i25):=⟨Try.f25,_,Try.func25,rfl,by kernel_rfl,rfl,rfl,by kernel_rfl⟩
theorem ok29:FnOk Try.prog (29,i29):=⟨Try.f29,_,Try.func29,rfl,by kernel_rfl,rfl,rfl,by kernel_rfl⟩
theorem ok30:FnOk Try.prog (30,i30):=⟨Try.f30,_,Try.func30,rfl,by kernel_rfl,rfl,rfl,by kernel_rfl⟩
theorem ok31:FnOk Try.prog (31,i31):=⟨Try.f31,_,Try.func31,rfl,by kernel_rfl,rfl,rfl,by kernel_rfl⟩
theorem ok32:FnOk Try.prog (32,i32):=⟨Try.f32,_,Try.func32,rfl,by kernel_rfl,rfl,rfl,by kernel_rfl⟩
theorem ok33:FnOk Try.prog (33,i33):=⟨Try.f33,_,Try.func33,rfl,by kernel_rfl,rfl,rfl,by kernel_rfl⟩
theorem ok34:FnOk Try.prog (34,i34):=⟨Try.f34,_,Try.func34,rfl,by kernel_rfl,rfl,rfl,by kernel_rfl⟩
theorem ok37:FnOk Try.prog (37,i37):=⟨Try.f37,_,Try.func37,rfl,by kernel_rfl,rfl,rfl,by kernel_rfl⟩
theorem ok38:FnOk Try.prog (38,i38):=⟨Try.f38,_,Try.func38,rfl,by kernel_rfl,rfl,rfl,by kernel_rfl⟩
theorem ok39:FnOk Try.prog (39,i39):=⟨Try.f39,_,Try.func39,rfl,by kernel_rfl,rfl,rfl,by kernel_rfl⟩
theorem ok40:FnOk Try.prog (40,i40):=⟨Try.f40,_,Try.func40,rfl,by kernel_rfl,rfl,rfl,by kernel_rfl⟩
theorem ok41:FnOk Try.prog (41,i41):=⟨Try.f41,_,Try.func41,rfl,by kernel_rfl,rfl,rfl,by kernel_rfl⟩
theorem ok42:FnOk Try.prog (42,i42):=⟨Try.f42,_,Try.func42,rfl,by kernel_rfl,rfl,rfl,by kernel_rfl⟩
theorem ok43:FnOk Try.prog (43,i43):=⟨Try.f43,_,Try.func43,rfl,by kernel_rfl,rfl,rfl,by kernel_rfl⟩
theorem ok44:FnOk Try.prog (44,i44):=⟨Try.f44,_,Try.func44,rfl,by kernel_rfl,rfl,rfl,by kernel_rfl⟩
theorem ok45:FnOk Try.prog (45,i45):=⟨Try.f45,_,Try.func45,rfl,by kernel_rfl,rfl,rfl,by kernel_rfl⟩
theorem ok46:FnOk Try.prog (46,i46):=⟨Try.f46,_,Try.func46,rfl,by kernel_rfl,rfl,rfl,by kernel_rfl⟩
theorem ok47:FnOk Try.prog (47,i47):=⟨Try.f47,_,Try.func47,rfl,by kernel_rfl,rfl,rfl,by kernel_rfl⟩
theorem ok49:FnOk Try.prog (49,i49):=⟨Try.f49,_,Try.func49,rfl,by kernel_rfl,rfl,rfl,by kernel_rfl⟩
theorem ok54:FnOk Try.prog (54,i54):=⟨Try.f54,_,Try.func54,rfl,by kernel_rfl,rfl,rfl,by kernel_rfl⟩
theorem ok55:FnOk Try.prog (55,i55):=⟨Try.f55,_,Try.func55,rfl,by kernel_rfl,rfl,rfl,by kernel_rfl⟩
theorem ok56:FnOk Try.prog (56,i56):=⟨Try.f56,_,Try.func56,rfl,by kernel_rfl,rfl,rfl,by kernel_rfl⟩
theorem ok60:FnOk Try.prog (60,i60):=⟨Try.f60,_,Try.func60,rfl,by kernel_rfl,rfl,rfl,by kernel_rfl⟩
theorem ok61:FnOk Try.prog (61,i61):=⟨Try.f61,_,Try.func61,rfl,by kernel_rfl,rfl,rfl,by kernel_rfl⟩
theorem ok62:FnOk Try.prog (62,i62):=⟨Try.f62,_,Try.func62,rfl,by kernel_rfl,rfl,rfl,by kernel_rfl⟩
theorem ok63:FnOk Try.prog (63,i63):=⟨Try.f63,_,Try.func63,rfl,by kernel_rfl,rfl,rfl,by kernel_rfl⟩
theorem ok64:FnOk Try.prog (64,i64):=⟨Try.f64,_,Try.func64,rfl,by kernel_rfl,rfl,rfl,by kernel_rfl⟩
theorem ok65:FnOk Try.prog (65,i65):=⟨Try.f65,_,Try.func65,rfl,by kernel_rfl,rfl,rfl,by kernel_rfl⟩
theorem ok66:FnOk Try.prog (66,i66):=⟨Try.f66,_,Try.func66,rfl,by kernel_rfl,rfl,rfl,by kernel_rfl⟩
theorem ok67:FnOk Try.prog (67,i67):=⟨Try.f67,_,Try.func67,rfl,by kernel_rfl,rfl,rfl,by kernel_rfl⟩
theorem ok70:FnOk Try.prog (70,i70):=⟨Try.f70,_,Try.func70,rfl,by kernel_rfl,rfl,rfl,by kernel_rfl⟩
theorem ok72:FnOk Try.prog (72,i72):=⟨Try.f72,_,Try.func72,rfl,by kernel_rfl,rfl,rfl,by kernel_rfl⟩
theorem ok74:FnOk Try.prog (74,i74):=⟨Try.f74,_,Try.func74,rfl,by kernel_rfl,rfl,rfl,by kernel_rfl⟩
theorem ok75:FnOk Try.prog (75,i75):=⟨Try.f75,_,Try.func75,rfl,by kernel_rfl,rfl,rfl,by kernel_rfl⟩
theorem ok76:FnOk Try.prog (76,i76):=⟨Try.f76,_,Try.func76,rfl,by kernel_rfl,rfl,rfl,by kernel_rfl⟩
theorem ok77:FnOk Try.prog (77,i77):=⟨Try.f77,_,Try.func77,rfl,by kernel_rfl,rfl,rfl,by kernel_rfl⟩
theorem ok78:FnOk Try.prog (78,i78):=⟨Try.f78,_,Try.func78,rfl,by kernel_rfl,rfl,rfl,by kernel_rfl⟩
theorem ok79:FnOk Try.prog (79,i79):=⟨Try.f79,_,Try.func79,rfl,by kernel_rfl,rfl,rfl,by kernel_rfl⟩
theorem ok80:FnOk Try.prog (80,i80):=⟨Try.f80,_,Try.func80,rfl,by kernel_rfl,rfl,rfl,by kernel_rfl⟩
theorem ok81:FnOk Try.prog (81,i81):=⟨Try.f81,_,Try.func81,rfl,by kernel_rfl,rfl,rfl,by kernel_rfl⟩
theorem ok82:FnOk Try.prog (82,i82):=⟨Try.f82,_,Try.func82,rfl,by kernel_rfl,rfl,rfl,by kernel_rfl⟩
theorem ok83:FnOk Try.prog (83,i83):=⟨Try.f83,_,Try.func83,rfl,by kernel_rfl,rfl,rfl,by kernel_rfl⟩
theorem ok84:FnOk Try.prog (84,i84):=⟨Try.f84,_,Try.func84,rfl,by kernel_rfl,rfl,rfl,by kernel_rfl⟩
theorem ok85:FnOk Try.prog (85,i85):=⟨Try.f85,_,Try.func85,rfl,by kernel_rfl,rfl,rfl,by kernel_rfl⟩
theorem ok86:FnOk Try.prog (86,i86):=⟨Try.f86,_,Try.func86,rfl,by kernel_rfl,rfl,rfl,by kernel_rfl⟩
theorem ok87:FnOk Try.prog (87,i87):=⟨Try.f87,_,Try.func87,rfl,by kernel_rfl,rfl,rfl,by kernel_rfl⟩
theorem ok88:FnOk Try.prog (88,i88):=⟨Try.f88,_,Try.func88,rfl,by kernel_rfl,rfl,rfl,by kernel_rfl⟩
theorem ok91:FnOk Try.prog (91,i91):=⟨Try.f91,_,Try.func91,rfl,by kernel_rfl,rfl,rfl,by kernel_rfl⟩
theorem ok98:FnOk Try.prog (98,i98):=⟨Try.f98,_,Try.func98,rfl,by kernel_rfl,rfl,rfl,by kernel_rfl⟩
theorem ok99:FnOk Try.prog (99,i99):=⟨Try.f99,_,Try.func99,rfl,by kernel_rfl,rfl,rfl,by kernel_rfl⟩
theorem ok100:FnOk Try.prog (100,i100):=⟨Try.f100,_,Try.func100,rfl,by kernel_rfl,rfl,rfl,by kernel_rfl⟩
theorem primAll:∀q∈([(77,i77)]:List (Nat×FnI)),(mkTab tys fns).fn q.1=some q.2∧PrimOk Try.prog q.1 q.2:=by
 intro q hq;simp only [List.mem_cons,List.not_mem_nil,or_false] at hq;subst hq;exact ⟨rfl,prim77⟩
theorem tab:TabOk Try.prog T:=tabOkL_of [(77,i77)] (by kernel_rfl) (.cons ok9 (.cons ok11 (.cons ok12 (.cons ok13 (.cons ok14 (.cons ok15 (.cons ok25 (.cons ok29 (.cons ok30 (.cons ok31 (.cons ok32 (.cons ok33 (.cons ok34 (.cons ok37 (.cons ok38 (.cons ok39 (.cons ok40 (.cons ok41 (.cons ok42 (.cons ok43 (.cons ok44 (.cons ok45 (.cons ok46 (.cons ok47 (.cons ok49 (.cons ok54 (.cons ok55 (.cons ok56 (.cons ok60 (.cons ok61 (.cons ok62 (.cons ok63 (.cons ok64 (.cons ok65 (.cons ok66 (.cons ok67 (.cons ok70 (.cons ok72 (.cons ok74 (.cons ok75 (.cons ok76 (.cons ok77 (.cons ok78 (.cons ok79 (.cons ok80 (.cons ok81 (.cons ok82 (.cons ok83 (.cons ok84 (.cons ok85 (.cons ok86 (.cons ok87 (.cons ok88 (.cons ok91 (.cons ok98 (.cons ok99 (.cons ok100 (.nil)))))))))))))))))))))))))))))))))))))))))))))))))))))))))) (by kernel_rfl) primAll
theorem fn9:T.fn 9=some i9:=rfl
theorem fn11:T.fn 11=some i11:=rfl
theorem fn12:T.fn 12=some i12:=rfl
theorem fn13:T.fn 13=some i13:=rfl
theorem fn14:T.fn 14=some i14:=rfl
theorem fn15:T.fn 15=some i15:=rfl
theorem fn25:T.fn 25=some i25:=rfl
theorem fn29:T.fn 29=some i29:=rfl
theorem fn30:T.fn 30=some i30:=rfl
theorem fn31:T.fn 31=some i31:=rfl
theorem fn32:T.fn 32=some i32:=rfl
theorem fn33:T.fn 33=some i33:=rfl
theorem fn34:T.fn 34=some i34:=rfl
theorem fn37:T.fn 37=some i37:=rfl
theorem fn38:T.fn 38=some i38:=rfl
theorem fn39:T.fn 39=some i39:=rfl
theorem fn40:T.fn 40=some i40:=rfl
theorem fn41:T.fn 41=some i41:=rfl
theorem fn42:T.fn 42=some i42:=rfl
theorem fn43:T.fn 43=some i43:=rfl
theorem fn44:T.fn 44=some i44:=rfl
theorem fn45:T.fn 45=some i45:=rfl
theorem fn46:T.fn 46=some i46:=rfl
theorem fn47:T.fn 47=some i47:=rfl
theorem fn49:T.fn 49=some i49:=rfl
theorem fn54:T.fn 54=some i54:=rfl
theorem fn55:T.fn 55=some i55:=rfl
theorem fn56:T.fn 56=some i56:=rfl
theorem fn60:T.fn 60=some i60:=rfl
theorem fn61:T.fn 61=some i61:=rfl
theorem fn62:T.fn 62=some i62:=rfl
theorem fn63:T.fn 63=some i63:=rfl
theorem fn64:T.fn 64=some i64:=rfl
theorem fn65:T.fn 65=some i65:=rfl
theorem fn66:T.fn 66=some i66:=rfl
theorem fn67:T.fn 67=some i67:=rfl
theorem fn70:T.fn 70=some i70:=rfl
theorem fn72:T.fn 72=some i72:=rfl
theorem fn74:T.fn 74=some i74:=rfl
theorem fn75:T.fn 75=some i75:=rfl
theorem fn76:T.fn 76=some i76:=rfl
theorem fn77:T.fn 77=some i77:=rfl
theorem fn78:T.fn 78=some i78:=rfl
theorem fn79:T.fn 79=some i79:=rfl
theorem fn80:T.fn 80=some i80:=rfl
theorem fn81:T.fn 81=some i81:=rfl
theorem fn82:T.fn 82=some i82:=rfl
theorem fn83:T.fn 83=some i83:=rfl
theorem fn84:T.fn 84=some i84:=rfl
theorem fn85:T.fn 85=some i85:=rfl
theorem fn86:T.fn 86=some i86:=rfl
theorem fn87:T.fn 87=some i87:=rfl
theorem fn88:T.fn 88=some i88:=rfl
theorem fn91:T.fn 91=some i91:=rfl
theorem fn98:T.fn 98=some i98:=rfl
theorem fn99:T.fn 99=some i99:=rfl
theorem fn100:T.fn 100=some i100:=rfl
theorem fns11:(T.at true).fn 11=some i11:=rfl
theorem fns13:(T.at true).fn 13=some i13:=rfl
theorem fns15:(T.at true).fn 15=some i15:=rfl
theorem fns29:(T.at true).fn 29=some i29:=rfl
theorem fns30:(T.at true).fn 30=some i30:=rfl
theorem fns31:(T.at true).fn 31=some i31:=rfl
theorem fns32:(T.at true).fn 32=some i32:=rfl
theorem fns33:(T.at true).fn 33=some i33:=rfl
theorem fns34:(T.at true).fn 34=some i34:=rfl
theorem fns37:(T.at true).fn 37=some i37:=rfl
theorem fns66:(T.at true).fn 66=some i66:=rfl
theorem fns87:(T.at true).fn 87=some i87:=rfl
abbrev CL (f:Nat)(p:List (List Nat)):Prop:=∀(args:List AV) (S:St),evCall T (evFL T) f args S=lendC (evFL T f) S (lendAll S p args)
abbrev CZ (f:Nat)(r p:List (List Nat)):Prop:=∀(args:List AV) (S:St),evCallFz T (evFL T) f args S=lendZ (evFL T f) S r (lendAll S p args)
abbrev clR (f:Nat)(c a:List AV)(v:AV):Prop:=(∀S,evCall T (evFL T) f (a++c) S=some (v,S))∧∀S,evCallFz T (evFL T) f (a++c) S=some (v,S)
attribute [go_sem] clR
end Go.Pi.Ytichbkallidkcaa.SppOf
