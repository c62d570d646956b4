/- no condition -/
import Derived.Test.YtlcanbihlfncoaaPiE
import Derived.Test.YtlcanbihlfncoaaProg
import Derived.Test.YtlcanbihlfncoaaPiD
set_option linter.all false
namespace Go.Pi.Ytlcanbihlfncoaa.DropOffer
open Go Go.Proofs Go.Pi
set_option maxRecDepth 100000
attribute [go_sem] Nat.reduceLT Nat.reduceAdd Nat.reduceSub Nat.reduceMul Nat.reduceEqDiff Nat.reduceBEq Nat.reduceLeDiff Int.reduceToNat Int.reduceLT Int.reduceLE Int.reduceEq reduceCtorEq
attribute [go_sem] reduceIte
def c78:PC:=(sq (.reg [pK 4 0]) (sq (.reg [pM 5 1,pM 6 0,pE 7 6 29,pO 8 .sub 3 5 7 3,pA 1 8]) (sq (sq (.reg [pM 9 1,pB 10 .lss 3 9 0 3]) (cd 10 (sq (.reg [pK 4 (-1)]) .ret) .skip)) (sq (.reg [pM 11 1,pA 4 11]) .ret))))
def i78:FnI:=⟨12,[(.tmp 4)],c78,0,[[1],[0]],[[0]],false,false,0,false⟩
def c51:PC:=(sq (.reg [pX 2 31 0,pK 4 0]) (sq (.reg [pF 5 31 2 1,pL 6 29 5,pM 7 1,pC2 8 78 6 7 29 3,pA 1 8]) (sq (sq (.reg [pM 9 1,pB 10 .lss 3 9 0 3]) (cd 10 (sq (.reg [pK 4 (-1)]) .ret) .skip)) (sq (.reg [pF 11 31 2 5,pL 12 29 11,pM 13 1,pC2 14 78 12 13 29 3,pA 1 14]) (sq (sq (.reg [pM 15 1,pB 16 .lss 3 15 0 3]) (cd 16 (sq (.reg [pK 4 (-1)]) .ret) .skip)) (sq (.reg [pM 17 1,pA 4 17]) .ret))))))
def i51:FnI:=⟨18,[(.tmp 4)],c51,0,[[0,1,0,0,0,1],[0]],[[0]],false,false,0,false⟩
def c17:PC:=(sq (.reg [pX 2 33 0,pK 4 0]) (sq (.reg [pF 5 33 2 1,pL 6 31 5,pM 7 1,pC2 8 51 6 7 31 3,pA 1 8]) (sq (sq (.reg [pM 9 1,pB 10 .lss 3 9 0 3]) (cd 10 (sq (.reg [pK 4 (-1)]) .ret) .skip)) (sq (.reg [pM 11 1,pA 4 11]) .ret))))
def i17:FnI:=⟨12,[(.tmp 4)],c17,0,[[0,0,1,0,0,0,1],[0]],[[0]],false,false,0,false⟩
def k12_1b:PC:=(sq (sq (.reg [pM 12 5,pM 13 0,pE 14 13 22,pO 15 .lss 3 12 14 3]) (cd 15 .skip (.pre ⟨[1],[],[],[]⟩ (.exit 0)))) (sq (.block 1 (sq (.reg [pM 18 0,pM 19 5,pI 20 22 18 19,pL 21 33 20,pM 22 1,pC2 23 17 21 22 33 3,pA 1 23]) (sq (.reg [pM 24 1,pB 25 .lss 3 24 0 3]) (cd 25 (sq (.reg [pK 4 (-1)]) (.pre ⟨[4],[],[],[]⟩ .ret)) .skip)))) (.post (.reg [pM 16 5,pB 17 .add 3 16 1 3,pA 5 17]) ⟨[0,1,5],[],[],[]⟩)))
def c12:PC:=(sq (.reg [pK 4 0]) (sq (.reg [pM 6 1,pM 7 0,pE 8 7 22,pO 9 .sub 3 6 8 3,pA 1 9]) (sq (sq (.reg [pM 10 1,pB 11 .lss 3 10 0 3]) (cd 11 (sq (.reg [pK 4 (-1)]) .ret) .skip)) (sq (sq (.reg [pK 5 0]) (.block 0 (.pre ⟨[0,1,5],[],[],[]⟩ (.loop k12_1b)))) (sq (.reg [pM 26 1,pA 4 26]) .ret)))))
def i12:FnI:=⟨27,[(.tmp 4)],c12,0,[[7],[0]],[[0]],false,false,0,false⟩
def k80_1b:PC:=(sq (sq (.reg [pM 8 4,pM 9 0,pE 10 9 29,pO 11 .lss 3 8 10 3]) (cd 11 .skip (.pre ⟨[3],[.old 0],[],[]⟩ (.exit 0)))) (sq (.block 1 (.reg [pM 14 3,pM 15 4,pM 16 0,pM 17 4,pI 18 29 16 17,pL 19 3 18,pI 20 29 14 15,⟨none,(.store 3 (.tmp 20) (.tmp 19)),none⟩])) (.post (.reg [pM 12 4,pB 13 .add 3 12 1 3,pA 4 13]) ⟨[0,3,4],[.old 0],[],[]⟩)))
def c80:PC:=(sq (.reg [pS 2]) (sq (.reg [pM 5 0,pE 6 5 29,⟨(some 7),(.makeSlice 29 (.tmp 6) (.tmp 6)),none⟩,pA 3 7]) (sq (sq (.reg [pK 4 0]) (.block 0 (.pre ⟨[0,3,4],[.old 0],[],[]⟩ (.loop k80_1b)))) (sq (.reg [pM 21 3,pA 2 21]) .ret))))
def i80:FnI:=⟨22,[(.tmp 2)],c80,0,[[1]],[[1]],false,false,0,false⟩
def c53:PC:=(sq (.reg [pX 1 31 0,pG 2 37]) (sq (.reg [pG 3 37]) (sq (.reg [pF 4 31 1 0,pL 5 3 4,pF 6 37 3 0,⟨none,(.store 3 (.tmp 6) (.tmp 5)),none⟩]) (sq (.reg [pF 7 31 1 1,pL 8 29 7,pC 9 80 8 29,pF 10 37 3 1,⟨none,(.store 29 (.tmp 10) (.tmp 9)),none⟩]) (sq (.reg [pF 11 31 1 2,pL 12 3 11,pF 13 37 3 2,⟨none,(.store 3 (.tmp 13) (.tmp 12)),none⟩]) (sq (.reg [pF 14 31 1 3,pL 15 3 14,pF 16 37 3 3,⟨none,(.store 3 (.tmp 16) (.tmp 15)),none⟩]) (sq (.reg [pF 17 31 1 4,pL 18 3 17,pF 19 37 3 4,⟨none,(.store 3 (.tmp 19) (.tmp 18)),none⟩]) (sq (.reg [pF 20 31 1 5,pL 21 29 20,pC 22 80 21 29,pF 23 37 3 5,⟨none,(.store 29 (.tmp 23) (.tmp 22)),none⟩]) (sq (.reg [pL 24 37 3,⟨none,(.store 37 (.tmp 2) (.tmp 24)),none⟩]) .ret)))))))))
def i53:FnI:=⟨25,[(.cell 2 37)],c53,0,[[0,1,0,0,0,1]],[[0,1,0,0,0,1]],false,false,0,false⟩
def c19:PC:=(sq (.reg [pX 1 33 0,pG 2 39]) (sq (.reg [pG 3 39]) (sq (.reg [pF 4 33 1 0,pL 5 3 4,pF 6 39 3 0,⟨none,(.store 3 (.tmp 6) (.tmp 5)),none⟩]) (sq (.reg [pF 7 33 1 1,pL 8 31 7,pC 9 53 8 31,pF 10 39 3 1,⟨none,(.store 37 (.tmp 10) (.tmp 9)),none⟩]) (sq (.reg [pL 11 39 3,⟨none,(.store 39 (.tmp 2) (.tmp 11)),none⟩]) .ret)))))
def i19:FnI:=⟨12,[(.cell 2 39)],c19,0,[[0,0,1,0,0,0,1]],[[0,0,1,0,0,0,1]],false,false,0,false⟩
def k14_1b:PC:=(sq (sq (.reg [pM 8 4,pM 9 0,pE 10 9 22,pO 11 .lss 3 8 10 3]) (cd 11 .skip (.pre ⟨[3],[.old 0],[],[]⟩ (.exit 0)))) (sq (.block 1 (.reg [pM 14 3,pM 15 4,pM 16 0,pM 17 4,pI 18 22 16 17,pL 19 33 18,pC 20 19 19 33,pI 21 25 14 15,⟨none,(.store 39 (.tmp 21) (.tmp 20)),none⟩])) (.post (.reg [pM 12 4,pB 13 .add 3 12 1 3,pA 4 13]) ⟨[0,3,4],[.old 0],[],[]⟩)))
def c14:PC:=(sq (.reg [pS 2]) (sq (.reg [pM 5 0,pE 6 5 22,⟨(some 7),(.makeSlice 25 (.tmp 6) (.tmp 6)),none⟩,pA 3 7]) (sq (sq (.reg [pK 4 0]) (.block 0 (.pre ⟨[0,3,4],[.old 0],[],[]⟩ (.loop k14_1b)))) (sq (.reg [pM 22 3,pA 2 22]) .ret))))
def i14:FnI:=⟨23,[(.tmp 2)],c14,0,[[7]],[[7]],false,false,0,false⟩
def k48_1:PC:=(.post (.reg [pM 7 0,pM 8 1,pO 9 .geq 3 7 8 3,pM 10 9,⟨(some 11),(.move (.tmp 0)),(some (10,true))⟩,⟨(some 12),(.move (.tmp 2)),(some (10,true))⟩,⟨(some 13),(.binOp .leq 3 (.tmp 11) (.tmp 12) 3),(some (10,true))⟩,pP 14 10 13,pA 6 14]) ⟨[6],[],[],[]⟩)
def c48:PC:=(sq (.reg [pN 6 false]) (sq (.pre ⟨[0,1,2],[],[],[]⟩ k48_1) .ret))
def i48:FnI:=⟨15,[(.tmp 6)],c48,0,[[0],[0],[0]],[[0]],false,false,0,false⟩
def c75:PC:=(sq (.reg [pN 2 false]) (sq (.reg [pM 3 0,⟨(some 4),(.call { callee:=(.value (.func 48)),args:=#[(.tmp 3),(.const (.int .i64 0)),(.const (.int .i64 4294967295))],argTypes:=#[3,3,3] }),none⟩,pA 2 4]) .ret))
def i75:FnI:=⟨5,[(.tmp 2)],c75,0,[[0]],[[0]],false,false,0,false⟩
def k49_1b:PC:=(sq (.reg [pO 11 .lss 3 10 9 3]) (sq (cd 11 .skip (.pre ⟨[1],[.old 0],[],[]⟩ (.exit 0))) (sq (.block 1 (sq (.reg [pI 12 29 8 10,pL 13 3 12,pA 4 13]) (sq (.reg [pM 14 4,⟨(some 15),(.call { callee:=(.value (.func 48)),args:=#[(.tmp 14),(.const (.int .i64 1)),(.const (.int .i64 65535))],argTypes:=#[3,3,3] }),none⟩,pU 16 4 15]) (cd 16 (sq (.reg [pN 2 false]) (.pre ⟨[2],[],[],[]⟩ .ret)) .skip)))) (.post (.reg [pB 17 .add 3 10 1 3,pM 10 17]) ⟨[1,8,9,10],[.old 0],[],[]⟩))))
def k49_4:PC:=(.post (.reg [pM 26 6,⟨(some 27),(.call { callee:=(.value (.func 48)),args:=#[(.tmp 26),(.const (.int .i64 0)),(.const (.int .i64 1000000))],argTypes:=#[3,3,3] }),none⟩,pU 28 4 27,pM 29 28,⟨(some 30),(.move (.tmp 5)),(some (29,false))⟩,⟨(some 31),(.binOp .gtr 3 (.tmp 30) (.const (.int .i64 0)) 3),(some (29,false))⟩,⟨(some 32),(.move (.tmp 31)),(some (29,false))⟩,⟨(some 33),(.fieldAddr 37 (.tmp 1) 5),(some (32,true))⟩,⟨(some 34),(.load 29 (.tmp 33)),(some (32,true))⟩,⟨(some 35),(.move (.tmp 5)),(some (32,true))⟩,⟨(some 36),(.binOp .sub 3 (.tmp 35) (.const (.int .i64 1)) 3),(some (32,true))⟩,⟨(some 37),(.indexAddr 29 (.tmp 34) (.tmp 36)),(some (32,true))⟩,⟨(some 38),(.load 3 (.tmp 37)),(some (32,true))⟩,⟨(some 39),(.move (.tmp 6)),(some (32,true))⟩,⟨(some 40),(.binOp .geq 3 (.tmp 38) (.tmp 39) 3),(some (32,true))⟩,⟨(some 41),(.pick (.tmp 32) (.tmp 40) (.const (.bool false))),(some (29,false))⟩,pQ 42 29 41]) ⟨[1,19,20,21,42],[.old 0],[],[]⟩)
def k49_2b:PC:=(sq (.reg [pO 22 .lss 3 21 20 3]) (sq (cd 22 .skip (.pre ⟨[1],[.old 0],[],[]⟩ (.exit 2))) (sq (.block 3 (sq (.reg [pM 23 21,pI 24 29 19 21,pL 25 3 24,pA 5 23,pA 6 25]) (sq (.pre ⟨[1,5,6,19,20,21],[.old 0],[],[]⟩ k49_4) (cd 42 (sq (.reg [pN 2 false]) (.pre ⟨[2],[],[],[]⟩ .ret)) .skip)))) (.post (.reg [pB 43 .add 3 21 1 3,pM 21 43]) ⟨[1,19,20,21],[.old 0],[],[]⟩))))
def k49_5:PC:=(.post (.reg [pF 44 37 1 0,pL 45 3 44,⟨(some 46),(.call { callee:=(.value (.func 48)),args:=#[(.tmp 45),(.const (.int .i64 0)),(.const (.int .i64 2))],argTypes:=#[3,3,3] }),none⟩,pM 47 46,⟨(some 48),(.fieldAddr 37 (.tmp 1) 1),(some (47,true))⟩,⟨(some 49),(.load 29 (.tmp 48)),(some (47,true))⟩,⟨(some 50),(.call { callee:=(.builtin .len),args:=#[(.tmp 49)],argTypes:=#[29] }),(some (47,true))⟩,⟨(some 51),(.binOp .leq 3 (.tmp 50) (.const (.int .i64 10)) 3),(some (47,true))⟩,pP 52 47 51,pM 53 52,⟨(some 54),(.fieldAddr 37 (.tmp 1) 2),(some (53,true))⟩,⟨(some 55),(.load 3 (.tmp 54)),(some (53,true))⟩,⟨(some 56),(.call { callee:=(.value (.func 75)),args:=#[(.tmp 55)],argTypes:=#[3] }),(some (53,true))⟩,pP 57 53 56,pM 58 57,⟨(some 59),(.fieldAddr 37 (.tmp 1) 3),(some (58,true))⟩,⟨(some 60),(.load 3 (.tmp 59)),(some (58,true))⟩,⟨(some 61),(.call { callee:=(.value (.func 48)),args:=#[(.tmp 60),(.const (.int .i64 0)),(.const (.int .i64 1000000))],argTypes:=#[3,3,3] }),(some (58,true))⟩,pP 62 58 61,pM 63 62,⟨(some 64),(.fieldAddr 37 (.tmp 1) 4),(some (63,true))⟩,⟨(some 65),(.load 3 (.tmp 64)),(some (63,true))⟩,⟨(some 66),(.call { callee:=(.value (.func 48)),args:=#[(.tmp 65),(.const (.int .i64 0)),(.const (.int .i64 1000000))],argTypes:=#[3,3,3] }),(some (63,true))⟩,pP 67 63 66,pM 68 67,⟨(some 69),(.fieldAddr 37 (.tmp 1) 5),(some (68,true))⟩,⟨(some 70),(.load 29 (.tmp 69)),(some (68,true))⟩,⟨(some 71),(.call { callee:=(.builtin .len),args:=#[(.tmp 70)],argTypes:=#[29] }),(some (68,true))⟩,⟨(some 72),(.binOp .leq 3 (.tmp 71) (.const (.int .i64 6)) 3),(some (68,true))⟩,pP 73 68 72,pA 2 73]) ⟨[2],[],[],[]⟩)
def c49:PC:=(sq (.reg [pX 1 37 0,pN 2 false]) (sq (sq (.reg [pF 7 37 1 1,pL 8 29 7,pE 9 8 29,pV 10 0]) (.block 0 (.pre ⟨[1,8,9,10],[.old 0],[],[]⟩ (.loop k49_1b)))) (sq (sq (.reg [pF 18 37 1 5,pL 19 29 18,pE 20 19 29,pV 21 0]) (.block 2 (.pre ⟨[1,19,20,21],[.old 0],[],[]⟩ (.loop k49_2b)))) (sq (.pre ⟨[1],[.old 0],[],[]⟩ k49_5) .ret))))
def i49:FnI:=⟨74,[(.tmp 2)],c49,0,[[0,1,0,0,0,1]],[[0]],false,false,0,false⟩
def k13_3:PC:=(.post (.fz [pF 12 39 4 0,pL 13 3 12,⟨(some 14),(.call { callee:=(.value (.func 48)),args:=#[(.tmp 13),(.const (.int .i64 0)),(.const (.int .i64 5))],argTypes:=#[3,3,3] }),none⟩,pU 15 4 14,pM 16 15,⟨(some 17),(.fieldAddr 39 (.tmp 4) 1),(some (16,false))⟩,⟨(some 18),(.load 37 (.tmp 17)),(some (16,false))⟩,⟨(some 19),(.call { callee:=(.value (.func 49)),args:=#[(.tmp 18)],argTypes:=#[37] }),(some (16,false))⟩,⟨(some 20),(.unOp .not 4 (.tmp 19)),(some (16,false))⟩,pQ 21 16 20,pM 22 21,⟨(some 23),(.move (.tmp 3)),(some (22,false))⟩,⟨(some 24),(.binOp .gtr 3 (.tmp 23) (.const (.int .i64 0)) 3),(some (22,false))⟩,⟨(some 25),(.move (.tmp 24)),(some (22,false))⟩,⟨(some 26),(.move (.tmp 0)),(some (25,true))⟩,⟨(some 27),(.move (.tmp 3)),(some (25,true))⟩,⟨(some 28),(.binOp .sub 3 (.tmp 27) (.const (.int .i64 1)) 3),(some (25,true))⟩,⟨(some 29),(.indexAddr 25 (.tmp 26) (.tmp 28)),(some (25,true))⟩,⟨(some 30),(.fieldAddr 39 (.tmp 29) 0),(some (25,true))⟩,⟨(some 31),(.load 3 (.tmp 30)),(some (25,true))⟩,⟨(some 32),(.fieldAddr 39 (.tmp 4) 0),(some (25,true))⟩,⟨(some 33),(.load 3 (.tmp 32)),(some (25,true))⟩,⟨(some 34),(.binOp .geq 3 (.tmp 31) (.tmp 33) 3),(some (25,true))⟩,⟨(some 35),(.pick (.tmp 25) (.tmp 34) (.const (.bool false))),(some (22,false))⟩,pQ 36 22 35]) ⟨[0,5,6,7,36],[],[],[]⟩)
def k13_1b:PC:=(sq (.reg [pO 8 .lss 3 7 6 3]) (sq (cd 8 .skip (.pre ⟨[],[],[],[]⟩ (.exit 0))) (sq (.block 1 (sq (.reg [pM 9 7,pI 10 25 5 7,pL 11 39 10,pG 4 39,pA 3 9,⟨none,(.store 39 (.tmp 4) (.tmp 11)),none⟩]) (sq (.pre ⟨[0,3,4,5,6,7],[.old 0],[],[]⟩ k13_3) (cd 36 (sq (.reg [pN 2 false]) (.pre ⟨[2],[],[],[]⟩ .ret)) .skip)))) (.post (.reg [pB 37 .add 3 7 1 3,pM 7 37]) ⟨[0,5,6,7],[],[],[]⟩))))
def c13:PC:=(sq (.reg [pN 2 false]) (sq (sq (.reg [pM 5 0,pE 6 5 25,pV 7 0]) (.block 0 (.pre ⟨[0,5,6,7],[],[],[]⟩ (.loop k13_1b)))) (sq (.reg [pN 2 true]) .ret)))
def i13:FnI:=⟨38,[(.tmp 2)],c13,0,[[7]],[[0]],false,false,0,false⟩
def c87:PC:=(sq (.reg [pX 1 37 0,pG 2 37]) (sq (.reg [⟨(some 3),(.buildSlice 29 0 #[]),none⟩,pF 4 37 1 1,pL 5 29 4,⟨(some 6),(.call { callee:=(.builtin .append),args:=#[(.tmp 3),(.tmp 5)],argTypes:=#[29,29] }),none⟩,pF 7 37 1 1,⟨none,(.store 29 (.tmp 7) (.tmp 6)),none⟩]) (sq (.reg [⟨(some 8),(.buildSlice 29 0 #[]),none⟩,pF 9 37 1 5,pL 10 29 9,⟨(some 11),(.call { callee:=(.builtin .append),args:=#[(.tmp 8),(.tmp 10)],argTypes:=#[29,29] }),none⟩,pF 12 37 1 5,⟨none,(.store 29 (.tmp 12) (.tmp 11)),none⟩]) (sq (.reg [pL 13 37 1,⟨none,(.store 37 (.tmp 2) (.tmp 13)),none⟩]) .ret))))
def i87:FnI:=⟨14,[(.cell 2 37)],c87,0,[[0,1,0,0,0,1]],[[0,1,0,0,0,1]],false,false,0,false⟩
@[go_sem] def x83_5:FxI:=⟨[5,7,8],[none,none,none,none,none,none,none,none,none,none],0,[[],[5],[5,7],[5,7,8]],[],[(2,1,1)]⟩
def k83_1b:PC:=(sq (.reg [pO 9 .lss 3 8 7 3]) (sq (cd 9 .skip (.pre ⟨[3],[.old 0],[],[]⟩ (.exit 0))) (sq (.block 1 (sq (.reg [pI 10 25 6 8,pL 11 39 10,pG 5 39,⟨none,(.store 39 (.tmp 5) (.tmp 11)),none⟩]) (.fx [pM 12 3,pF 13 39 5 0,pL 14 3 13,pF 15 39 5 1,pL 16 37 15,pC 17 87 16 37,⟨(some 18),(.build 39 #[(0,(.tmp 14)),(1,(.tmp 17))]),none⟩,⟨(some 19),(.buildSlice 25 1 #[(0,(.tmp 18))]),none⟩,⟨(some 20),(.call { callee:=(.builtin .append),args:=#[(.tmp 12),(.tmp 19)],argTypes:=#[25,25] }),none⟩,pA 3 20] x83_5))) (.post (.reg [pB 21 .add 3 8 1 3,pM 8 21]) ⟨[3,6,7,8],[.old 5],[],[]⟩))))
def c83:PC:=(sq (.reg [pS 2]) (sq (.reg [pS 3]) (sq (sq (.reg [pM 6 0,pE 7 6 25,pV 8 0]) (.block 0 (.pre ⟨[3,6,7,8],[.nilT 3 0 7],[],[]⟩ (.loop k83_1b)))) (sq (.reg [pM 22 3,pA 2 22]) .ret))))
def i83:FnI:=⟨23,[(.tmp 2)],c83,0,[[7]],[[7]],false,false,0,false⟩
def k56_3:PC:=(cd 19 (.post (.reg [pM 20 6,pL 21 39 8,⟨(some 22),(.buildSlice 25 1 #[(0,(.tmp 21))]),none⟩,⟨(some 23),(.call { callee:=(.builtin .append),args:=#[(.tmp 20),(.tmp 22)],argTypes:=#[25,25] }),none⟩,pA 6 23]) ⟨[0,1,6,10,11,12],[.old 4,.old 2],[],[]⟩) (.post .skip ⟨[0,1,6,10,11,12],[.old 0,.old 2],[],[]⟩))
def k56_1b:PC:=(sq (.reg [pO 13 .lss 3 12 11 3]) (sq (cd 13 .skip (.pre ⟨[0,6],[.old 0],[],[]⟩ (.exit 0))) (sq (.block 1 (sq (.reg [pI 14 25 10 12,pL 15 39 14,pG 8 39,⟨none,(.store 39 (.tmp 8) (.tmp 15)),none⟩]) (sq (.reg [pF 16 39 8 0,pL 17 3 16,pM 18 1,pO 19 .neq 3 17 18 3]) (.pre ⟨[0,1,6,8,10,11,12,19],[.old 0,.old 2,.old 1],[],[]⟩ k56_3)))) (.post (.reg [pB 24 .add 3 12 1 3,pM 12 24]) ⟨[0,1,6,10,11,12],[.old 0,.old 1],[],[]⟩))))
def c56:PC:=(sq (.reg [pS 4,pN 5 false]) (sq (.reg [pS 6]) (sq (sq (.reg [pM 9 0,pC 10 83 9 25,pE 11 10 25,pV 12 0]) (.block 0 (.pre ⟨[0,1,6,10,11,12],[.nilT 6 0 7,.old 0],[],[]⟩ (.loop k56_1b)))) (sq (.reg [pM 25 6,pM 26 6,pE 27 26 25,pM 28 0,pE 29 28 25,pO 30 .lss 3 27 29 3,pA 4 25,pA 5 30]) .ret))))
def i56:FnI:=⟨31,[(.tmp 4),(.tmp 5)],c56,0,[[7],[0]],[[7],[0]],true,false,0,false⟩
def c22:PC:=(sq (.reg [pS 4,pN 5 false]) (sq (sq (.reg [pM 8 0,pC 9 13 8 25,pU 10 4 9]) (cd 10 (sq (.reg [pS 4,pN 5 false]) .ret) .skip)) (sq (.reg [pM 12 0,pM 13 1,pC2 14 56 12 13 25 3,pM 11 14,pT 15 11 0,pT 16 11 1,pA 6 15,pA 7 16]) (sq (sq (.reg [pM 17 7,pU 18 4 17]) (cd 18 (sq (.reg [pS 4,pN 5 false]) .ret) .skip)) (sq (.reg [pM 19 6,pA 4 19,pN 5 true]) .ret)))))
def i22:FnI:=⟨20,[(.tmp 4),(.tmp 5)],c22,0,[[7],[0]],[[7],[0]],true,false,0,false⟩
def k91_1:PC:=(.post (.reg [pM 7 0,pM 8 1,pO 9 .geq 3 7 8 3,pM 10 9,⟨(some 11),(.move (.tmp 0)),(some (10,true))⟩,⟨(some 12),(.move (.tmp 2)),(some (10,true))⟩,⟨(some 13),(.binOp .leq 3 (.tmp 11) (.tmp 12) 3),(some (10,true))⟩,pP 14 10 13,pA 6 14]) ⟨[6],[],[],[]⟩)
def c91:PC:=(sq (.reg [pN 6 false]) (sq (.pre ⟨[0,1,2],[],[],[]⟩ k91_1) .ret))
def i91:FnI:=⟨15,[(.tmp 6)],c91,0,[[0],[0],[0]],[[0]],false,false,0,false⟩
def c76:PC:=(sq (.reg [pN 2 false]) (sq (.reg [pM 3 0,⟨(some 4),(.call { callee:=(.value (.func 91)),args:=#[(.tmp 3),(.const (.int .i64 0)),(.const (.int .i64 5))],argTypes:=#[3,3,3] }),none⟩,pA 2 4]) .ret))
def i76:FnI:=⟨5,[(.tmp 2)],c76,0,[[0]],[[0]],false,false,0,false⟩
def k115_1b:PC:=(sq (.reg [pO 9 .lss 3 8 7 3]) (sq (cd 9 .skip (.pre ⟨[],[],[],[]⟩ (.exit 0))) (sq (.block 1 (sq (.reg [pM 10 8,pA 5 10]) (sq (.reg [pM 11 1,pM 12 0,pM 13 5,pI 14 29 12 13,pL 15 3 14,⟨(some 16),(.call { callee:=(.value (.tmp 11)),args:=#[(.tmp 15)],argTypes:=#[3] }),none⟩]) (cd 16 (sq (.reg [pM 17 5,pA 4 17]) (.pre ⟨[4],[],[],[]⟩ .ret)) .skip)))) (.post (.reg [pB 18 .add 3 8 1 3,pM 8 18]) ⟨[0,1,7,8],[],[],[]⟩))))
def c115:PC:=(sq (.reg [pK 4 0]) (sq (sq (.reg [pM 6 0,pE 7 6 29,pV 8 0]) (.block 0 (.pre ⟨[0,1,7,8],[],[],[]⟩ (.loop k115_1b)))) (sq (.reg [pK 4 (-1)]) .ret)))
def i115:FnI:=⟨19,[(.tmp 4)],c115,0,[[1],[0]],[[0]],false,false,0,false⟩
def c109:PC:=(sq (.reg [pN 4 false]) (sq (.reg [pM 5 0,pM 6 1,pC2 7 115 5 6 29 80,pB 8 .geq 3 7 0 3,pA 4 8]) .ret))
def i109:FnI:=⟨9,[(.tmp 4)],c109,0,[[1],[0]],[[0]],false,false,0,false⟩
def c66:PC:=(sq (.reg [pN 2 false]) (sq (.reg [pM 3 0,⟨(some 4),(.call { callee:=(.value (.func 91)),args:=#[(.tmp 3),(.const (.int .i64 1)),(.const (.int .i64 65535))],argTypes:=#[3,3,3] }),none⟩,pA 2 4]) .ret))
def i66:FnI:=⟨5,[(.tmp 2)],c66,0,[[0]],[[0]],false,false,0,false⟩
def c110:PC:=(sq (.reg [pN 2 false]) (sq (.reg [pM 3 0,pC 4 66 3 3,pU 5 4 4,pA 2 5]) .ret))
def i110:FnI:=⟨6,[(.tmp 2)],c110,0,[[0]],[[0]],false,false,0,false⟩
def k98_1:PC:=(.post (.reg [pM 3 0,pE 4 3 29,pB 5 .leq 3 4 10 3,pM 6 5,⟨(some 7),(.move (.tmp 0)),(some (6,true))⟩,⟨(some 8),(.call { callee:=(.value (.func 109)),args:=#[(.tmp 7),(.func 110)],argTypes:=#[29,80] }),(some (6,true))⟩,⟨(some 9),(.unOp .not 4 (.tmp 8)),(some (6,true))⟩,pP 10 6 9,pA 2 10]) ⟨[2],[],[],[]⟩)
def c98:PC:=(sq (.reg [pN 2 false]) (sq (.pre ⟨[0],[],[],[]⟩ k98_1) .ret))
def i98:FnI:=⟨11,[(.tmp 2)],c98,0,[[1]],[[0]],false,false,0,false⟩
def c99:PC:=(sq (.reg [pN 2 false]) (sq (.reg [pM 3 0,⟨(some 4),(.call { callee:=(.value (.func 91)),args:=#[(.tmp 3),(.const (.int .i64 0)),(.const (.int .i64 4294967295))],argTypes:=#[3,3,3] }),none⟩,pA 2 4]) .ret))
def i99:FnI:=⟨5,[(.tmp 2)],c99,0,[[0]],[[0]],false,false,0,false⟩
def c100:PC:=(sq (.reg [pN 2 false]) (sq (.reg [pM 3 0,⟨(some 4),(.call { callee:=(.value (.func 91)),args:=#[(.tmp 3),(.const (.int .i64 0)),(.const (.int .i64 1000000))],argTypes:=#[3,3,3] }),none⟩,pA 2 4]) .ret))
def i100:FnI:=⟨5,[(.tmp 2)],c100,0,[[0]],[[0]],false,false,0,false⟩
def k101_3:PC:=(.post (.reg [pM 12 4,pC 13 100 12 3,pU 14 4 13,pM 15 14,⟨(some 16),(.move (.tmp 3)),(some (15,false))⟩,⟨(some 17),(.binOp .gtr 3 (.tmp 16) (.const (.int .i64 0)) 3),(some (15,false))⟩,⟨(some 18),(.move (.tmp 17)),(some (15,false))⟩,⟨(some 19),(.move (.tmp 4)),(some (18,true))⟩,⟨(some 20),(.move (.tmp 0)),(some (18,true))⟩,⟨(some 21),(.move (.tmp 3)),(some (18,true))⟩,⟨(some 22),(.binOp .sub 3 (.tmp 21) (.const (.int .i64 1)) 3),(some (18,true))⟩,⟨(some 23),(.indexAddr 29 (.tmp 20) (.tmp 22)),(some (18,true))⟩,⟨(some 24),(.load 3 (.tmp 23)),(some (18,true))⟩,⟨(some 25),(.binOp .leq 3 (.tmp 19) (.tmp 24) 3),(some (18,true))⟩,⟨(some 26),(.pick (.tmp 18) (.tmp 25) (.const (.bool false))),(some (15,false))⟩,pQ 27 15 26]) ⟨[0,5,6,7,27],[],[],[]⟩)
def k101_1b:PC:=(sq (.reg [pO 8 .lss 3 7 6 3]) (sq (cd 8 .skip (.pre ⟨[0],[],[],[]⟩ (.exit 0))) (sq (.block 1 (sq (.reg [pM 9 7,pI 10 29 5 7,pL 11 3 10,pA 3 9,pA 4 11]) (sq (.pre ⟨[0,3,4,5,6,7],[],[],[]⟩ k101_3) (cd 27 (sq (.reg [pN 2 false]) (.pre ⟨[2],[],[],[]⟩ .ret)) .skip)))) (.post (.reg [pB 28 .add 3 7 1 3,pM 7 28]) ⟨[0,5,6,7],[],[],[]⟩))))
def c101:PC:=(sq (.reg [pN 2 false]) (sq (sq (.reg [pM 5 0,pE 6 5 29,pV 7 0]) (.block 0 (.pre ⟨[0,5,6,7],[],[],[]⟩ (.loop k101_1b)))) (sq (.reg [pM 29 0,pE 30 29 29,pB 31 .leq 3 30 6 3,pA 2 31]) .ret)))
def i101:FnI:=⟨32,[(.tmp 2)],c101,0,[[1]],[[0]],false,false,0,false⟩
def k77_1:PC:=(.post (.reg [pF 3 37 1 0,pL 4 3 3,⟨(some 5),(.call { callee:=(.value (.func 91)),args:=#[(.tmp 4),(.const (.int .i64 0)),(.const (.int .i64 2))],argTypes:=#[3,3,3] }),none⟩,pM 6 5,⟨(some 7),(.fieldAddr 37 (.tmp 1) 1),(some (6,true))⟩,⟨(some 8),(.load 29 (.tmp 7)),(some (6,true))⟩,⟨(some 9),(.call { callee:=(.value (.func 98)),args:=#[(.tmp 8)],argTypes:=#[29] }),(some (6,true))⟩,pP 10 6 9,pM 11 10,⟨(some 12),(.fieldAddr 37 (.tmp 1) 2),(some (11,true))⟩,⟨(some 13),(.load 3 (.tmp 12)),(some (11,true))⟩,⟨(some 14),(.call { callee:=(.value (.func 99)),args:=#[(.tmp 13)],argTypes:=#[3] }),(some (11,true))⟩,pP 15 11 14,pM 16 15,⟨(some 17),(.fieldAddr 37 (.tmp 1) 3),(some (16,true))⟩,⟨(some 18),(.load 3 (.tmp 17)),(some (16,true))⟩,⟨(some 19),(.call { callee:=(.value (.func 100)),args:=#[(.tmp 18)],argTypes:=#[3] }),(some (16,true))⟩,pP 20 16 19,pM 21 20,⟨(some 22),(.fieldAddr 37 (.tmp 1) 4),(some (21,true))⟩,⟨(some 23),(.load 3 (.tmp 22)),(some (21,true))⟩,⟨(some 24),(.call { callee:=(.value (.func 100)),args:=#[(.tmp 23)],argTypes:=#[3] }),(some (21,true))⟩,pP 25 21 24,pM 26 25,⟨(some 27),(.fieldAddr 37 (.tmp 1) 5),(some (26,true))⟩,⟨(some 28),(.load 29 (.tmp 27)),(some (26,true))⟩,⟨(some 29),(.call { callee:=(.value (.func 101)),args:=#[(.tmp 28)],argTypes:=#[29] }),(some (26,true))⟩,pP 30 26 29,pA 2 30]) ⟨[2],[],[],[]⟩)
def c77:PC:=(sq (.reg [pX 1 37 0,pN 2 false]) (sq (.pre ⟨[1],[.old 0],[],[]⟩ k77_1) .ret))
def i77:FnI:=⟨31,[(.tmp 2)],c77,0,[[0,1,0,0,0,1]],[[0]],false,false,0,false⟩
def k50_1:PC:=(.post (.reg [pF 3 39 1 0,pL 4 3 3,pC 5 76 4 3,pM 6 5,⟨(some 7),(.fieldAddr 39 (.tmp 1) 1),(some (6,true))⟩,⟨(some 8),(.load 37 (.tmp 7)),(some (6,true))⟩,⟨(some 9),(.call { callee:=(.value (.func 77)),args:=#[(.tmp 8)],argTypes:=#[37] }),(some (6,true))⟩,pP 10 6 9,pA 2 10]) ⟨[2],[],[],[]⟩)
def c50:PC:=(sq (.reg [pX 1 39 0,pN 2 false]) (sq (.pre ⟨[1],[.old 0],[],[]⟩ k50_1) .ret))
def i50:FnI:=⟨11,[(.tmp 2)],c50,0,[[0,0,1,0,0,0,1]],[[0]],false,false,0,false⟩
def k15_3:PC:=(.post (.fz [pL 12 39 4,pC 13 50 12 39,pU 14 4 13,pM 15 14,⟨(some 16),(.move (.tmp 3)),(some (15,false))⟩,⟨(some 17),(.binOp .gtr 3 (.tmp 16) (.const (.int .i64 0)) 3),(some (15,false))⟩,⟨(some 18),(.move (.tmp 17)),(some (15,false))⟩,⟨(some 19),(.fieldAddr 39 (.tmp 4) 0),(some (18,true))⟩,⟨(some 20),(.load 3 (.tmp 19)),(some (18,true))⟩,⟨(some 21),(.move (.tmp 0)),(some (18,true))⟩,⟨(some 22),(.move (.tmp 3)),(some (18,true))⟩,⟨(some 23),(.binOp .sub 3 (.tmp 22) (.const (.int .i64 1)) 3),(some (18,true))⟩,⟨(some 24),(.indexAddr 25 (.tmp 21) (.tmp 23)),(some (18,true))⟩,⟨(some 25),(.fieldAddr 39 (.tmp 24) 0),(some (18,true))⟩,⟨(some 26),(.load 3 (.tmp 25)),(some (18,true))⟩,⟨(some 27),(.binOp .leq 3 (.tmp 20) (.tmp 26) 3),(some (18,true))⟩,⟨(some 28),(.pick (.tmp 18) (.tmp 27) (.const (.bool false))),(some (15,false))⟩,pQ 29 15 28]) ⟨[0,5,6,7,29],[],[],[]⟩)
def k15_1b:PC:=(sq (.reg [pO 8 .lss 3 7 6 3]) (sq (cd 8 .skip (.pre ⟨[],[],[],[]⟩ (.exit 0))) (sq (.block 1 (sq (.reg [pM 9 7,pI 10 25 5 7,pL 11 39 10,pG 4 39,pA 3 9,⟨none,(.store 39 (.tmp 4) (.tmp 11)),none⟩]) (sq (.pre ⟨[0,3,4,5,6,7],[.old 0],[],[]⟩ k15_3) (cd 29 (sq (.reg [pN 2 false]) (.pre ⟨[2],[],[],[]⟩ .ret)) .skip)))) (.post (.reg [pB 30 .add 3 7 1 3,pM 7 30]) ⟨[0,5,6,7],[],[],[]⟩))))
def c15:PC:=(sq (.reg [pN 2 false]) (sq (sq (.reg [pM 5 0,pE 6 5 25,pV 7 0]) (.block 0 (.pre ⟨[0,5,6,7],[],[],[]⟩ (.loop k15_1b)))) (sq (.reg [pN 2 true]) .ret)))
def i15:FnI:=⟨31,[(.tmp 2)],c15,0,[[7]],[[0]],false,false,0,false⟩
def k84_3:PC:=(cd 31 (.post (.reg [pM 32 11,pB 33 .add 3 32 1 3,pA 9 33]) ⟨[0,1,2,8,9,10],[],[],[]⟩) (.post (.reg [pM 34 11,pA 10 34]) ⟨[0,1,2,8,9,10],[],[],[]⟩))
def k84_1b:PC:=(sq (sq (.reg [pM 15 9,pM 16 10,pO 17 .lss 3 15 16 3]) (cd 17 .skip (.pre ⟨[0,1,2,8,9],[],[],[]⟩ (.exit 0)))) (.block 1 (sq (.reg [pM 18 9,pM 19 10,pO 20 .add 3 18 19 3,⟨(some 21),(.convert 3 104 (.tmp 20)),none⟩,⟨(some 22),(.binOp .shr 104 (.tmp 21) (.const (.int .u64 1)) 104),none⟩,⟨(some 23),(.convert 104 3 (.tmp 22)),none⟩,pA 11 23]) (sq (.reg [pM 24 2,pM 25 0,pM 26 11,pI 27 25 25 26,pL 28 39 27,pM 29 1,⟨(some 30),(.call { callee:=(.value (.tmp 24)),args:=#[(.tmp 28),(.tmp 29)],argTypes:=#[39,3] }),none⟩,pB 31 .lss 3 30 0 3]) (.post (.pre ⟨[0,1,2,8,9,10,11,31],[],[],[]⟩ k84_3) ⟨[0,1,2,8,9,10],[],[],[]⟩)))))
def k84_4:PC:=(.post (.reg [pM 35 9,pM 36 9,pM 37 8,pO 38 .lss 3 36 37 3,pM 39 38,⟨(some 40),(.move (.tmp 2)),(some (39,true))⟩,⟨(some 41),(.move (.tmp 0)),(some (39,true))⟩,⟨(some 42),(.move (.tmp 9)),(some (39,true))⟩,⟨(some 43),(.indexAddr 25 (.tmp 41) (.tmp 42)),(some (39,true))⟩,⟨(some 44),(.load 39 (.tmp 43)),(some (39,true))⟩,⟨(some 45),(.move (.tmp 1)),(some (39,true))⟩,⟨(some 46),(.call { callee:=(.value (.tmp 40)),args:=#[(.tmp 44),(.tmp 45)],argTypes:=#[39,3] }),(some (39,true))⟩,⟨(some 47),(.binOp .eql 3 (.tmp 46) (.const (.int .i64 0)) 3),(some (39,true))⟩,pP 48 39 47,pA 6 35,pA 7 48]) ⟨[6,7],[],[],[]⟩)
def c84:PC:=(sq (.reg [pK 6 0,pN 7 false]) (sq (.reg [pM 12 0,pE 13 12 25,pA 8 13]) (sq (.reg [pM 14 8,pK 9 0,pA 10 14]) (sq (.block 0 (.pre ⟨[0,1,2,8,9,10],[],[],[]⟩ (.loop k84_1b))) (sq (.pre ⟨[0,1,2,8,9],[],[],[]⟩ k84_4) .ret)))))
def i84:FnI:=⟨49,[(.tmp 6),(.tmp 7)],c84,0,[[7],[0],[0]],[[0],[0]],false,false,0,false⟩
def c102:PC:=(sq (.reg [pN 2 false]) (sq (.reg [pM 3 0,pM 4 0,pO 5 .neq 3 3 4 3,pA 2 5]) .ret))
def i102:FnI:=⟨6,[(.tmp 2)],c102,0,[[0]],[[0]],false,false,0,false⟩
def c82:PC:=(sq (.reg [pK 4 0]) (sq (.reg [pM 7 0,pC 8 102 7 3,pA 5 8]) (sq (.reg [pM 9 1,pC 10 102 9 3,pA 6 10]) (sq (sq (.reg [pM 11 5]) (cd 11 (sq (sq (.reg [pM 12 6]) (cd 12 (sq (.reg [pK 4 0]) .ret) .skip)) (sq (.reg [pK 4 (-1)]) .ret)) .skip)) (sq (sq (.reg [pM 13 6]) (cd 13 (sq (.reg [pK 4 1]) .ret) .skip)) (sq (sq (.reg [pM 14 0,pM 15 1,pO 16 .lss 3 14 15 3]) (cd 16 (sq (.reg [pK 4 (-1)]) .ret) .skip)) (sq (sq (.reg [pM 17 0,pM 18 1,pO 19 .gtr 3 17 18 3]) (cd 19 (sq (.reg [pK 4 1]) .ret) .skip)) (sq (.reg [pK 4 0]) .ret))))))))
def i82:FnI:=⟨20,[(.tmp 4)],c82,0,[[0],[0]],[[0]],false,false,0,false⟩
def c85:PC:=(sq (.reg [pX 2 39 0,pK 4 0]) (sq (.reg [pF 5 39 2 0,pL 6 3 5,pM 7 1,pC2 8 82 6 7 3 3,pA 4 8]) .ret))
def i85:FnI:=⟨9,[(.tmp 4)],c85,0,[[0,0,1,0,0,0,1],[0]],[[0]],false,false,0,false⟩
def c57:PC:=(sq (.reg [pK 4 0,pN 5 false]) (sq (.reg [pM 6 0,pM 7 1,⟨(some 8),(.call { callee:=(.value (.func 84)),args:=#[(.tmp 6),(.tmp 7),(.func 85)],argTypes:=#[25,3,48] }),none⟩,pT 9 8 0,pT 10 8 1,pA 4 9,pA 5 10]) .ret))
def i57:FnI:=⟨11,[(.tmp 4),(.tmp 5)],c57,0,[[7],[0]],[[0],[0]],false,false,0,false⟩
def r103_1:List PO:=[pM 3 0,
 ⟨(some 4),(.binOp .eql 29 (.tmp 3) (.const (.slice none 0 0)) 29),none⟩]
def c103:PC:=(sq (.reg [pS 2]) (.amb [pM 3 0,⟨(some 4),(.binOp .eql 29 (.tmp 3) (.const (.slice none 0 0)) 29),none⟩] (.tmp 4) (sq (sq (.reg [pS 2]) (.pre ⟨[2],[.nilT 2 0 1],[],[]⟩ .ret)) .bad) (sq .skip (sq (.reg [⟨(some 5),(.buildSlice 29 0 #[]),none⟩,pM 6 0,⟨(some 7),(.call { callee:=(.builtin .append),args:=#[(.tmp 5),(.tmp 6)],argTypes:=#[29,29] }),none⟩,pA 2 7]) (.pre ⟨[2],[.old 1],[],[]⟩ .ret)))))
def i103:FnI:=⟨8,[(.tmp 2)],c103,0,[[1]],[[1]],false,false,0,false⟩
@[go_sem] def x86_1:FxI:=⟨[2,5,7,9],[none,none,none,none,none,none,none,none,none,none],0,[[],[2],[2,5],[2,5,7],[2,5,7,9]],[],[(4,0,0)]⟩
def c86:PC:=(sq (.reg [pX 1 37 0,pG 2 37]) (sq (.fx [pF 3 37 1 1,pL 4 29 3,pC 5 103 4 29,pF 6 37 1 5,pL 7 29 6,pC 8 103 7 29,pF 9 37 1 1,⟨none,(.store 29 (.tmp 9) (.tmp 5)),none⟩,pF 10 37 1 5,⟨none,(.store 29 (.tmp 10) (.tmp 8)),none⟩] x86_1) (sq (.reg [pL 11 37 1,⟨none,(.store 37 (.tmp 2) (.tmp 11)),none⟩]) .ret)))
def i86:FnI:=⟨12,[(.cell 2 37)],c86,0,[[0,1,0,0,0,1]],[[0,1,0,0,0,1]],false,false,0,false⟩
@[go_sem] def x59_5:FxI:=⟨[5,7,8],[none,none,none,none,none,none,none,none,none,none],0,[[],[5],[5,7],[5,7,8]],[],[(2,1,1)]⟩
def k59_1b:PC:=(sq (.reg [pO 10 .lss 3 9 8 3]) (sq (cd 10 .skip (.pre ⟨[3],[.old 0],[],[]⟩ (.exit 0))) (sq (.block 1 (sq (.reg [pI 11 25 7 9,pL 12 39 11,pG 5 39,⟨none,(.store 39 (.tmp 5) (.tmp 12)),none⟩]) (.fx [pM 13 3,pF 14 39 5 0,pL 15 3 14,pF 16 39 5 1,pL 17 37 16,pC 18 86 17 37,⟨(some 19),(.build 39 #[(0,(.tmp 15)),(1,(.tmp 18))]),none⟩,⟨(some 20),(.buildSlice 25 1 #[(0,(.tmp 19))]),none⟩,⟨(some 21),(.call { callee:=(.builtin .append),args:=#[(.tmp 13),(.tmp 20)],argTypes:=#[25,25] }),none⟩,pA 3 21] x59_5))) (.post (.reg [pB 22 .add 3 9 1 3,pM 9 22]) ⟨[3,7,8,9],[.old 5],[],[]⟩))))
def c59:PC:=(sq (.reg [pS 2]) (sq (.reg [⟨(some 6),(.buildSlice 25 0 #[]),none⟩,pA 3 6]) (sq (sq (.reg [pM 7 0,pE 8 7 25,pV 9 0]) (.block 0 (.pre ⟨[3,7,8,9],[.old 0],[],[]⟩ (.loop k59_1b)))) (sq (.reg [pM 23 3,pA 2 23]) .ret))))
def i59:FnI:=⟨24,[(.tmp 2)],c59,0,[[7]],[[7]],false,false,0,false⟩
def i58:FnI:=⟨33,[(.tmp 6)],.bad,5,[[7],[0],[0]],[[7]],false,false,25,false⟩
def ren58:Go.Shelf.Ren:=delRen 58 0 3 4 25 39
theorem delb58 : DelB Try.prog ren58 := ⟨by kernel_rfl, ⟨"slices.Delete[[]loop.example/g00344/impl.Offer,loop.example/g00344/impl.Offer]", by decide, by kernel_rfl⟩, by kernel_rfl, by kernel_rfl, by kernel_rfl⟩
theorem prim58:PrimOk Try.prog 58 i58:=del_prim rfl (delOk_of delb58)
def c23:PC:=(sq (.reg [pS 4,pN 5 false]) (sq (sq (.reg [pM 8 0,pC 9 15 8 25,pU 10 4 9]) (cd 10 (sq (.reg [pS 4,pN 5 false]) .ret) .skip)) (sq (.reg [pM 12 0,pM 13 1,pC2 14 57 12 13 25 3,pM 11 14,pT 15 11 0,pT 16 11 1,pA 6 15,pA 7 16]) (sq (sq (.reg [pM 17 7,pU 18 4 17]) (cd 18 (sq (.reg [pS 4,pN 5 false]) .ret) .skip)) (sq (.reg [pM 19 0,pC 20 59 19 25,pM 21 6,pM 22 6,pB 23 .add 3 22 1 3,pC3 24 58 20 21 23 25 3 3,pA 4 24,pN 5 true]) .ret)))))
def i23:FnI:=⟨25,[(.tmp 4),(.tmp 5)],c23,0,[[7],[0]],[[7],[0]],false,false,0,false⟩
def k33_1b:PC:=(sq (sq (.reg [pM 11 5,pM 12 0,pE 13 12 29,pO 14 .lss 3 11 13 3]) (cd 14 .skip (.pre ⟨[],[],[],[]⟩ (.exit 0)))) (sq (.block 1 (sq (.fz [pM 17 0,pM 18 5,pI 19 29 17 18,pL 20 3 19,pM 21 1,pM 22 5,pI 23 29 21 22,pL 24 3 23,pO 25 .neq 3 20 24 3]) (cd 25 (sq (.reg [pN 4 false]) (.pre ⟨[4],[],[],[]⟩ .ret)) .skip))) (.post (.reg [pM 15 5,pB 16 .add 3 15 1 3,pA 5 16]) ⟨[0,1,5],[],[],[]⟩)))
def c33:PC:=(sq (.reg [pN 4 false]) (sq (sq (.reg [pM 6 0,pE 7 6 29,pM 8 1,pE 9 8 29,pO 10 .neq 3 7 9 3]) (cd 10 (sq (.reg [pN 4 false]) .ret) .skip)) (sq (sq (.reg [pK 5 0]) (.block 0 (.pre ⟨[0,1,5],[],[],[]⟩ (.loop k33_1b)))) (sq (.reg [pN 4 true]) .ret))))
def i33:FnI:=⟨26,[(.tmp 4)],c33,0,[[1],[1]],[[0]],false,false,0,false⟩
def c55:PC:=(sq (.reg [pX 2 37 0,pX 3 37 1,pN 4 false]) (sq (sq (.reg [pF 5 37 2 0,pL 6 3 5,pF 7 37 3 0,pL 8 3 7,pO 9 .neq 3 6 8 3]) (cd 9 (sq (.reg [pN 4 false]) .ret) .skip)) (sq (sq (.reg [pF 10 37 2 1,pL 11 29 10,pF 12 37 3 1,pL 13 29 12,pC2 14 33 11 13 29 29,pU 15 4 14]) (cd 15 (sq (.reg [pN 4 false]) .ret) .skip)) (sq (sq (.reg [pF 16 37 2 2,pL 17 3 16,pF 18 37 3 2,pL 19 3 18,pO 20 .neq 3 17 19 3]) (cd 20 (sq (.reg [pN 4 false]) .ret) .skip)) (sq (sq (.reg [pF 21 37 2 3,pL 22 3 21,pF 23 37 3 3,pL 24 3 23,pO 25 .neq 3 22 24 3]) (cd 25 (sq (.reg [pN 4 false]) .ret) .skip)) (sq (sq (.reg [pF 26 37 2 4,pL 27 3 26,pF 28 37 3 4,pL 29 3 28,pO 30 .neq 3 27 29 3]) (cd 30 (sq (.reg [pN 4 false]) .ret) .skip)) (sq (sq (.reg [pF 31 37 2 5,pL 32 29 31,pF 33 37 3 5,pL 34 29 33,pC2 35 33 32 34 29 29,pU 36 4 35]) (cd 36 (sq (.reg [pN 4 false]) .ret) .skip)) (sq (.reg [pN 4 true]) .ret))))))))
def i55:FnI:=⟨37,[(.tmp 4)],c55,0,[[0,1,0,0,0,1],[0,1,0,0,0,1]],[[0]],false,false,0,false⟩
def c21:PC:=(sq (.reg [pX 2 39 0,pX 3 39 1,pN 4 false]) (sq (sq (.reg [pF 5 39 2 0,pL 6 3 5,pF 7 39 3 0,pL 8 3 7,pO 9 .neq 3 6 8 3]) (cd 9 (sq (.reg [pN 4 false]) .ret) .skip)) (sq (sq (.reg [pF 10 39 2 1,pL 11 37 10,pF 12 39 3 1,pL 13 37 12,pC2 14 55 11 13 37 37,pU 15 4 14]) (cd 15 (sq (.reg [pN 4 false]) .ret) .skip)) (sq (.reg [pN 4 true]) .ret))))
def i21:FnI:=⟨16,[(.tmp 4)],c21,0,[[0,0,1,0,0,0,1],[0,0,1,0,0,0,1]],[[0]],false,false,0,false⟩
def k16_1b:PC:=(sq (sq (.reg [pM 11 5,pM 12 0,pE 13 12 25,pO 14 .lss 3 11 13 3]) (cd 14 .skip (.pre ⟨[],[],[],[]⟩ (.exit 0)))) (sq (.block 1 (sq (.fz [pM 17 0,pM 18 5,pI 19 25 17 18,pL 20 39 19,pM 21 1,pM 22 5,pI 23 25 21 22,pL 24 39 23,pC2 25 21 20 24 39 39,pU 26 4 25]) (cd 26 (sq (.reg [pN 4 false]) (.pre ⟨[4],[],[],[]⟩ .ret)) .skip))) (.post (.reg [pM 15 5,pB 16 .add 3 15 1 3,pA 5 16]) ⟨[0,1,5],[],[],[]⟩)))
def c16:PC:=(sq (.reg [pN 4 false]) (sq (sq (.reg [pM 6 0,pE 7 6 25,pM 8 1,pE 9 8 25,pO 10 .neq 3 7 9 3]) (cd 10 (sq (.reg [pN 4 false]) .ret) .skip)) (sq (sq (.reg [pK 5 0]) (.block 0 (.pre ⟨[0,1,5],[],[],[]⟩ (.loop k16_1b)))) (sq (.reg [pN 4 true]) .ret))))
def i16:FnI:=⟨27,[(.tmp 4)],c16,0,[[7],[7]],[[0]],false,false,0,false⟩
def k34_1b:PC:=(sq (sq (.reg [pM 6 5,pM 7 0,pE 8 7 29,pO 9 .lss 3 6 8 3]) (cd 9 .skip (.pre ⟨[1],[],[],[]⟩ (.exit 0)))) (sq (.block 1 (sq (.reg [pM 12 0,pM 13 5,pM 14 1,pI 15 29 12 13,⟨none,(.store 3 (.tmp 15) (.tmp 14)),none⟩]) (.reg [pM 16 1,pB 17 .add 3 16 1 3,pA 1 17]))) (.post (.reg [pM 10 5,pB 11 .add 3 10 1 3,pA 5 11]) ⟨[0,1,5],[],[],[]⟩)))
def c34:PC:=(sq (.reg [pK 4 0]) (sq (sq (.reg [pK 5 0]) (.block 0 (.pre ⟨[0,1,5],[],[],[]⟩ (.loop k34_1b)))) (sq (.reg [pM 18 1,pA 4 18]) (.pre ⟨[4],[],[],[]⟩ .ret))))
def i34:FnI:=⟨19,[(.tmp 4)],c34,3,[[1],[0]],[[0]],false,true,1,false⟩
def k24_1b:PC:=(sq (sq (.reg [pM 6 5,pM 7 0,pE 8 7 25,pO 9 .lss 3 6 8 3]) (cd 9 .skip (.pre ⟨[1],[],[],[]⟩ (.exit 0)))) (sq (.block 1 (sq (.reg [pM 12 0,pM 13 5,pM 14 1,pI 15 25 12 13,pF 16 39 15 0,⟨none,(.store 3 (.tmp 16) (.tmp 14)),none⟩]) (sq (.reg [pM 17 1,pB 18 .add 3 17 1 3,pA 1 18]) (sq (.reg [pM 19 0,pM 20 5,pM 21 1,pI 22 25 19 20,pF 23 39 22 1,pF 24 37 23 0,⟨none,(.store 3 (.tmp 24) (.tmp 21)),none⟩]) (sq (.reg [pM 25 1,pB 26 .add 3 25 1 3,pA 1 26]) (sq (.nest [pM 27 0,pM 28 5,pI 29 25 27 28,pF 30 39 29 1,pF 31 37 30 1,pL 32 29 31,pM 33 1,pC2 34 34 32 33 29 3,pA 1 34] 5 2) (sq (.reg [pM 35 0,pM 36 5,pM 37 1,pI 38 25 35 36,pF 39 39 38 1,pF 40 37 39 2,⟨none,(.store 3 (.tmp 40) (.tmp 37)),none⟩]) (sq (.reg [pM 41 1,pB 42 .add 3 41 1 3,pA 1 42]) (sq (.reg [pM 43 0,pM 44 5,pM 45 1,pI 46 25 43 44,pF 47 39 46 1,pF 48 37 47 3,⟨none,(.store 3 (.tmp 48) (.tmp 45)),none⟩]) (sq (.reg [pM 49 1,pB 50 .add 3 49 1 3,pA 1 50]) (sq (.reg [pM 51 0,pM 52 5,pM 53 1,pI 54 25 51 52,pF 55 39 54 1,pF 56 37 55 4,⟨none,(.store 3 (.tmp 56) (.tmp 53)),none⟩]) (sq (.reg [pM 57 1,pB 58 .add 3 57 1 3,pA 1 58]) (.nest [pM 59 0,pM 60 5,pI 61 25 59 60,pF 62 39 61 1,pF 63 37 62 5,pL 64 29 63,pM 65 1,pC2 66 34 64 65 29 3,pA 1 66] 5 2))))))))))))) (.post (.reg [pM 10 5,pB 11 .add 3 10 1 3,pA 5 11]) ⟨[0,1,5],[],[],[]⟩)))
def c24:PC:=(sq (.reg [pK 4 0]) (sq (sq (.reg [pK 5 0]) (.block 0 (.pre ⟨[0,1,5],[],[],[]⟩ (.loop k24_1b)))) (sq (.reg [pM 67 1,pA 4 67]) (.pre ⟨[4],[],[],[]⟩ .ret))))
def i24:FnI:=⟨68,[(.tmp 4)],c24,3,[[7],[0]],[[0]],false,true,1,true⟩
def k35_1b:PC:=(sq (sq (.reg [pM 6 5,pM 7 0,pE 8 7 29,pO 9 .lss 3 6 8 3]) (cd 9 .skip (.pre ⟨[1],[],[],[]⟩ (.exit 0)))) (sq (.block 1 (sq (sq (.reg [pM 12 0,pM 13 5,pI 14 29 12 13,pL 15 3 14,pM 16 1,pO 17 .neq 3 15 16 3]) (cd 17 (sq (.reg [pK 4 (-1)]) (.pre ⟨[4],[],[],[]⟩ .ret)) .skip)) (.reg [pM 18 1,pB 19 .add 3 18 1 3,pA 1 19]))) (.post (.reg [pM 10 5,pB 11 .add 3 10 1 3,pA 5 11]) ⟨[0,1,5],[],[],[]⟩)))
def c35:PC:=(sq (.reg [pK 4 0]) (sq (sq (.reg [pK 5 0]) (.block 0 (.pre ⟨[0,1,5],[],[],[]⟩ (.loop k35_1b)))) (sq (.reg [pM 20 1,pA 4 20]) .ret)))
def i35:FnI:=⟨21,[(.tmp 4)],c35,0,[[1],[0]],[[0]],false,false,0,false⟩
def k25_1b:PC:=(sq (sq (.reg [pM 6 5,pM 7 0,pE 8 7 25,pO 9 .lss 3 6 8 3]) (cd 9 .skip (.pre ⟨[1],[],[],[]⟩ (.exit 0)))) (sq (.block 1 (sq (sq (.reg [pM 12 0,pM 13 5,pI 14 25 12 13,pF 15 39 14 0,pL 16 3 15,pM 17 1,pO 18 .neq 3 16 17 3]) (cd 18 (sq (.reg [pK 4 (-1)]) (.pre ⟨[4],[],[],[]⟩ .ret)) .skip)) (sq (.reg [pM 19 1,pB 20 .add 3 19 1 3,pA 1 20]) (sq (sq (.reg [pM 21 0,pM 22 5,pI 23 25 21 22,pF 24 39 23 1,pF 25 37 24 0,pL 26 3 25,pM 27 1,pO 28 .neq 3 26 27 3]) (cd 28 (sq (.reg [pK 4 (-1)]) (.pre ⟨[4],[],[],[]⟩ .ret)) .skip)) (sq (.reg [pM 29 1,pB 30 .add 3 29 1 3,pA 1 30]) (sq (.reg [pM 31 0,pM 32 5,pI 33 25 31 32,pF 34 39 33 1,pF 35 37 34 1,pL 36 29 35,pM 37 1,pC2 38 35 36 37 29 3,pA 1 38]) (sq (sq (.reg [pM 39 1,pB 40 .lss 3 39 0 3]) (cd 40 (sq (.reg [pK 4 (-1)]) (.pre ⟨[4],[],[],[]⟩ .ret)) .skip)) (sq (sq (.reg [pM 41 0,pM 42 5,pI 43 25 41 42,pF 44 39 43 1,pF 45 37 44 2,pL 46 3 45,pM 47 1,pO 48 .neq 3 46 47 3]) (cd 48 (sq (.reg [pK 4 (-1)]) (.pre ⟨[4],[],[],[]⟩ .ret)) .skip)) (sq (.reg [pM 49 1,pB 50 .add 3 49 1 3,pA 1 50]) (sq (sq (.reg [pM 51 0,pM 52 5,pI 53 25 51 52,pF 54 39 53 1,pF 55 37 54 3,pL 56 3 55,pM 57 1,pO 58 .neq 3 56 57 3]) (cd 58 (sq (.reg [pK 4 (-1)]) (.pre ⟨[4],[],[],[]⟩ .ret)) .skip)) (sq (.reg [pM 59 1,pB 60 .add 3 59 1 3,pA 1 60]) (sq (sq (.reg [pM 61 0,pM 62 5,pI 63 25 61 62,pF 64 39 63 1,pF 65 37 64 4,pL 66 3 65,pM 67 1,pO 68 .neq 3 66 67 3]) (cd 68 (sq (.reg [pK 4 (-1)]) (.pre ⟨[4],[],[],[]⟩ .ret)) .skip)) (sq (.reg [pM 69 1,pB 70 .add 3 69 1 3,pA 1 70]) (sq (.reg [pM 71 0,pM 72 5,pI 73 25 71 72,pF 74 39 73 1,pF 75 37 74 5,pL 76 29 75,pM 77 1,pC2 78 35 76 77 29 3,pA 1 78]) (sq (.reg [pM 79 1,pB 80 .lss 3 79 0 3]) (cd 80 (sq (.reg [pK 4 (-1)]) (.pre ⟨[4],[],[],[]⟩ .ret)) .skip)))))))))))))))) (.post (.reg [pM 10 5,pB 11 .add 3 10 1 3,pA 5 11]) ⟨[0,1,5],[],[],[]⟩)))
def c25:PC:=(sq (.reg [pK 4 0]) (sq (sq (.reg [pK 5 0]) (.block 0 (.pre ⟨[0,1,5],[],[],[]⟩ (.loop k25_1b)))) (sq (.reg [pM 81 1,pA 4 81]) .ret)))
def i25:FnI:=⟨82,[(.tmp 4)],c25,0,[[7],[0]],[[0]],false,false,0,false⟩
def k5_1:PC:=(.post (.reg [pM 36 9,pM 37 6,pC2 38 16 36 37 25 25,pU 39 4 38,pM 40 39,⟨(some 41),(.move (.tmp 10)),(some (40,false))⟩,⟨(some 42),(.move (.tmp 7)),(some (40,false))⟩,⟨(some 43),(.binOp .neq 4 (.tmp 41) (.tmp 42) 4),(some (40,false))⟩,pQ 44 40 43]) ⟨[0,1,6,7,8,9,10,44],[.old 0,.old 1],[],[]⟩)
def k5_2:PC:=(.post (.reg [pM 53 11,pB 54 .lss 3 53 0 3,pM 55 54,⟨(some 56),(.move (.tmp 9)),(some (55,false))⟩,⟨(some 57),(.move (.tmp 6)),(some (55,false))⟩,⟨(some 58),(.call { callee:=(.value (.func 16)),args:=#[(.tmp 56),(.tmp 57)],argTypes:=#[25,25] }),(some (55,false))⟩,⟨(some 59),(.unOp .not 4 (.tmp 58)),(some (55,false))⟩,pQ 60 55 59,pM 61 60,⟨(some 62),(.move (.tmp 10)),(some (61,false))⟩,⟨(some 63),(.move (.tmp 7)),(some (61,false))⟩,⟨(some 64),(.binOp .neq 4 (.tmp 62) (.tmp 63) 4),(some (61,false))⟩,pQ 65 61 64]) ⟨[0,1,6,7,9,65],[.old 0],[],[]⟩)
def k5_3:PC:=(.post (.reg [pM 84 14,pM 85 6,pC2 86 16 84 85 25 25,pU 87 4 86,pM 88 87,⟨(some 89),(.move (.tmp 15)),(some (88,false))⟩,⟨(some 90),(.move (.tmp 7)),(some (88,false))⟩,⟨(some 91),(.binOp .neq 4 (.tmp 89) (.tmp 90) 4),(some (88,false))⟩,pQ 92 88 91]) ⟨[9,12,92],[.old 0],[],[]⟩)
def c5:PC:=(sq (.reg [pN 4 false]) (sq (.reg [pK 5 1048576]) (sq (.reg [pM 16 0,pM 17 5,pC2 18 12 16 17 22 3,pA 5 18]) (sq (sq (.reg [pM 19 5,pB 20 .lss 3 19 0 3]) (cd 20 (sq (.reg [pN 4 true]) .ret) .skip)) (sq (.reg [pM 22 0,pC 23 14 22 22,pM 24 1,pC2 25 22 23 24 25 3,pM 21 25,pT 26 21 0,pT 27 21 1,pA 6 26,pA 7 27]) (sq (.reg [pM 28 0,pC 29 14 28 22,pA 8 29]) (sq (.reg [pM 31 8,pM 32 1,pC2 33 23 31 32 25 3,pM 30 33,pT 34 30 0,pT 35 30 1,pA 9 34,pA 10 35]) (sq (sq (.pre ⟨[0,1,6,7,8,9,10],[.old 1,.old 2],[],[]⟩ k5_1) (cd 44 (sq (.reg [pN 4 false]) .ret) .skip)) (sq (sq (.reg [pM 45 8,pM 46 0,pC 47 14 46 22,pC2 48 16 45 47 25 25,pU 49 4 48]) (cd 49 (sq (.reg [pN 4 false]) .ret) .skip)) (sq (.reg [pK 11 1]) (sq (.reg [pM 50 8,pM 51 11,pC2 52 24 50 51 25 3,pA 11 52]) (sq (sq (.pre ⟨[0,1,6,7,9,10,11],[.old 1],[],[]⟩ k5_2) (cd 65 (sq (.reg [pN 4 false]) .ret) .skip)) (sq (.reg [pK 12 1]) (sq (.reg [pM 66 9,pM 67 12,pC2 68 24 66 67 25 3,pA 12 68]) (sq (.reg [pK 13 1]) (sq (.reg [pM 69 9,pM 70 13,pC2 71 25 69 70 25 3,pA 13 71]) (sq (sq (.reg [pM 72 13,pB 73 .lss 3 72 0 3]) (cd 73 (sq (.reg [pN 4 false]) .ret) .skip)) (sq (sq (.reg [pM 74 13,pM 75 12,pO 76 .neq 3 74 75 3]) (cd 76 (sq (.reg [pN 4 false]) .ret) .skip)) (sq (.reg [pM 78 0,pC 79 14 78 22,pM 80 1,pC2 81 23 79 80 25 3,pM 77 81,pT 82 77 0,pT 83 77 1,pA 14 82,pA 15 83]) (sq (sq (.pre ⟨[6,7,9,12,14,15],[.old 0,.old 2],[],[]⟩ k5_3) (cd 92 (sq (.reg [pN 4 false]) .ret) .skip)) (sq (.reg [pK 13 1]) (sq (.reg [pM 93 9,pM 94 13,pC2 95 25 93 94 25 3,pA 13 95]) (sq (sq (.reg [pM 96 13,pB 97 .lss 3 96 0 3]) (cd 97 .bad .skip)) (sq (sq (.reg [pM 98 13,pM 99 12,pO 100 .neq 3 98 99 3]) (cd 100 .bad .skip)) (sq (.reg [pN 4 true]) .ret)))))))))))))))))))))))))
def i5:FnI:=⟨101,[(.tmp 4)],c5,0,[[7],[0]],[[0]],false,false,0,true⟩
def tys:List (Nat×TyI):=[(3,⟨1,8,false,[.int .i64 0],[0],0,[],.int .i64,false⟩),
 (4,⟨1,1,false,[.bool false],[0],0,[],.bool,false⟩),
 (22,⟨1,24,false,[.nil],[7],33,[],.other,false⟩),
 (25,⟨1,24,false,[.nil],[7],39,[],.other,false⟩),
 (29,⟨1,24,false,[.nil],[1],3,[],.other,false⟩),
 (31,⟨6,80,true,[.int .i64 0,.nil,.int .i64 0,.int .i64 0,.int .i64 0,.nil],[0,1,0,0,0,1],0,[(0,1,false),(1,1,false),(2,1,false),(3,1,false),(4,1,false),(5,1,false)],.other,false⟩),
 (33,⟨7,88,true,[.int .i64 0,.int .i64 0,.nil,.int .i64 0,.int .i64 0,.int .i64 0,.nil],[0,0,1,0,0,0,1],0,[(0,1,false),(1,6,true)],.other,false⟩),
 (37,⟨6,80,true,[.int .i64 0,.nil,.int .i64 0,.int .i64 0,.int .i64 0,.nil],[0,1,0,0,0,1],0,[(0,1,false),(1,1,false),(2,1,false),(3,1,false),(4,1,false),(5,1,false)],.other,false⟩),
 (39,⟨7,88,true,[.int .i64 0,.int .i64 0,.nil,.int .i64 0,.int .i64 0,.int .i64 0,.nil],[0,0,1,0,0,0,1],0,[(0,1,false),(1,6,true)],.other,false⟩),
 (104,⟨1,8,false,[.int .u64 0],[0],0,[],.int .u64,false⟩)]
def fns:List (Nat×FnI):=[(5,i5),(12,i12),(13,i13),(14,i14),(15,i15),(16,i16),(17,i17),(19,i19),(21,i21),(22,i22),(23,i23),(24,i24),(25,i25),(33,i33),(34,i34),(35,i35),(48,i48),(49,i49),(50,i50),(51,i51),(53,i53),(55,i55),(56,i56),(57,i57),(58,i58),(59,i59),(66,i66),(75,i75),(76,i76),(77,i77),(78,i78),(80,i80),(82,i82),(83,i83),(84,i84),(85,i85),(86,i86),(87,i87),(91,i91),(98,i98),(99,i99),(100,i100),(101,i101),(102,i102),(103,i103),(109,i109),(110,i110),(115,i115)]
def T:Tab:=mkTab tys fns
theorem soft0:T.soft=false:=rfl
theorem ty3:T.ty 3=some ⟨1,8,false,[.int .i64 0],[0],0,[],.int .i64,false⟩:=rfl
theorem base3:T.baseOf 3=Bs.int .i64:=rfl
theorem ty4:T.ty 4=some ⟨1,1,false,[.bool false],[0],0,[],.bool,false⟩:=rfl
theorem base4:T.baseOf 4=Bs.bool:=rfl
theorem ty22:T.ty 22=some ⟨1,24,false,[.nil],[7],33,[],.other,false⟩:=rfl
theorem base22:T.baseOf 22=Bs.other:=rfl
theorem elem22:T.elemOf 22=some ⟨7,88,true,[.int .i64 0,.int .i64 0,.nil,.int .i64 0,.int .i64 0,.int .i64 0,.nil],[0,0,1,0,0,0,1],0,[(0,1,false),(1,6,true)],.other,false⟩:=rfl
theorem ty25:T.ty 25=some ⟨1,24,false,[.nil],[7],39,[],.other,false⟩:=rfl
theorem base25:T.baseOf 25=Bs.other:=rfl
theorem elem25:T.elemOf 25=some ⟨7,88,true,[.int .i64 0,.int .i64 0,.nil,.int .i64 0,.int .i64 0,.int .i64 0,.nil],[0,0,1,0,0,0,1],0,[(0,1,false),(1,6,true)],.other,false⟩:=rfl
theorem ty29:T.ty 29=some ⟨1,24,false,[.nil],[1],3,[],.other,false⟩:=rfl
theorem base29:T.baseOf 29=Bs.other:=rfl
theorem elem29:T.elemOf 29=some ⟨1,8,false,[.int .i64 0],[0],0,[],.int .i64,false⟩:=rfl
theorem ty31:T.ty 31=some ⟨6,80,true,[.int .i64 0,.nil,.int .i64 0,.int .i64 0,.int .i64 0,.nil],[0,1,0,0,0,1],0,[(0,1,false),(1,1,false),(2,1,false),(3,1,false),(4,1,false),(5,1,false)],.other,false⟩:=rfl
theorem base31:T.baseOf 31=Bs.other:=rfl
theorem ty33:T.ty 33=some ⟨7,88,true,[.int .i64 0,.int .i64 0,.nil,.int .i64 0,.int .i64 0,.int .i64 0,.nil],[0,0,1,0,0,0,1],0,[(0,1,false),(1,6,true)],.other,false⟩:=rfl
theorem base33:T.baseOf 33=Bs.other:=rfl
theorem ty37:T.ty 37=some ⟨6,80,true,[.int .i64 0,.nil,.int .i64 0,.int .i64 0,.int .i64 0,.nil],[0,1,0,0,0,1],0,[(0,1,false),(1,1,false),(2,1,false),(3,1,false),(4,1,false),(5,1,false)],.other,false⟩:=rfl
theorem base37:T.baseOf 37=Bs.other:=rfl
theorem ty39:T.ty 39=some ⟨7,88,true,[.int .i64 0,.int .i64 0,.nil,.int .i64 0,.int .i64 0,.int .i64 0,.nil],[0,0,1,0,0,0,1],0,[(0,1,false),(1,6,true)],.other,false⟩:=rfl
theorem base39:T.baseOf 39=Bs.other:=rfl
theorem ty104:T.ty 104=some ⟨1,8,false,[.int .u64 0],[0],0,[],.int .u64,false⟩:=rfl
theorem base104:T.baseOf 104=Bs.int .u64:=rfl
attribute [go_sem] soft0 ty3 base3 ty4 base4 ty22 base22 elem22 ty25 base25 elem25 ty29 base29 elem29 ty31 base31 ty33 base33 ty37 base37 ty39 base39 ty104 base104
theorem ok5:FnOk Try.prog (5,i5):=⟨Try.f5,_,Try.func5,rfl,by kernel_rfl,rfl,rfl,by kernel_rfl⟩
theorem ok12:FnOk Try.prog (12,i12):=⟨Try.f12,_,Try.func12,rfl,by kernel_rfl,rfl,rfl,by kernel_rfl⟩
theorem ok13:FnOk Try.prog (13,i13):=⟨Try.f13,_,Try.func13,rfl,by kernel_rfl,rfl,rfl,by kernel_rfl⟩
theorem ok14:FnOk Try.prog (14,i14):=⟨Try.f14,_,Try.func14,rfl,by kernel_rfl,rfl,rfl,by kernel_rfl⟩
theorem ok15:FnOk Try.prog (15,i15):=⟨Try.f15,_,Try.func15,rfl,by kernel_rfl,rfl,rfl,by kernel_rfl⟩
theorem ok16:FnOk Try.prog (16,i16):=⟨Try.f16,_,Try.func16,rfl,by kernel_rfl,rfl,rfl,by kernel_rfl⟩
theorem ok17:FnOk Try.prog (17,i17):=⟨Try.f17,_,Try.func17,rfl,by kernel_rfl,rfl,rfl,by kernel_rfl⟩
theorem ok19:FnOk Try.prog (19,i19):=⟨Try.f19,_,Try.func19,rfl,by kernel_rfl,rfl,rfl,by kernel_rfl⟩
theorem ok21:FnOk Try.prog (21,i21):=⟨Try.f21,_,Try.func21,rfl,by kernel_rfl,rfl,rfl,by kernel_rfl⟩
theorem ok22:FnOk Try.prog (22,i22):=⟨Try.f22,_,Try.func22,rfl,by kernel_rfl,rfl,rfl,by kernel_rfl⟩
theorem ok23:FnOk Try.prog (23,i23):=⟨Try.f23,_,Try.func23,rfl,by kernel_rfl,rfl,rfl,by kernel_rfl⟩
theorem ok24:FnOk Try.prog (24,i24):=⟨Try.f24,_,Try.func24,rfl,by kernel_rfl,rfl,rfl,by kernel_rfl⟩
theorem ok25:FnOk Try.prog (25,i25):=⟨Try.f25,_,Try.func25,rfl,by kernel_rfl,rfl,rfl,by kernel_rfl⟩
theorem ok33:FnOk Try.prog (33,i33):=⟨Try.f33,_,Try.func33,rfl,by kernel_rfl,rfl,rfl,by kernel_rfl⟩
theorem ok34:FnOk Try.prog (34,i34):=⟨Try.f34,_,Try.func34,rfl,by kernel_rfl,rfl,rfl,by kernel_rfl⟩
theorem ok35:FnOk Try.prog (35,i35):=⟨Try.f35,_,Try.func35,rfl,by kernel_rfl,rfl,rfl,by kernel_rfl⟩
theorem ok48:FnOk Try.prog (48,i48):=⟨Try.f48,_,Try.func48,rfl,by kernel_rfl,rfl,rfl,by kernel_rfl⟩
theorem ok49:FnOk Try.prog (49,i49):=⟨Try.f49,_,Try.func49,rfl,by kernel_rfl,rfl,rfl,by kernel_rfl⟩
theorem ok50:FnOk Try.prog (50,i50):=⟨Try.f50,_,Try.func50,rfl,by kernel_rfl,rfl,rfl,by kernel_rfl⟩
theorem ok51:FnOk Try.prog (51,i51):=⟨Try.f51,_,Try.func51,rfl,by kernel_rfl,rfl,rfl,by kernel_rfl⟩
theorem ok53:FnOk Try.prog (53,i53):=⟨Try.f53,_,Try.func53,rfl,by kernel_rfl,rfl,rfl,by kernel_rfl⟩
theorem ok55:FnOk Try.prog (55,i55):=⟨Try.f55,_,Try.func55,rfl,by kernel_rfl,rfl,rfl,by kernel_rfl⟩
theorem ok56:FnOk Try.prog (56,i56):=⟨Try.f56,_,Try.func56,rfl,by kernel_rfl,rfl,rfl,by kernel_rfl⟩
theorem ok57:FnOk Try.prog (57,i57):=⟨Try.f57,_,Try.func57,rfl,by kernel_rfl,rfl,rfl,by kernel_rfl⟩
theorem ok58:FnOk Try.prog (58,i58):=⟨Try.f58,_,Try.func58,rfl,by kernel_rfl,rfl,rfl,by kernel_rfl⟩
theorem ok59:FnOk Try.prog (59,i59):=⟨Try.f59,_,Try.func59,rfl,by kernel_rfl,rfl,rfl,by kernel_rfl⟩
theorem ok66:FnOk Try.prog (66,i66):=⟨Try.f66,_,Try.func66,rfl,by kernel_rfl,rfl,rfl,by kernel_rfl⟩
theorem ok75:FnOk Try.prog (75,i75):=⟨Try.f75,_,Try.func75,rfl,by kernel_rfl,rfl,rfl,by kernel_rfl⟩
theorem ok76:FnOk Try.prog (76,i76):=⟨Try.f76,_,Try.func76,rfl,by kernel_rfl,rfl,rfl,by kernel_rfl⟩
theorem ok77:FnOk Try.prog (77,i77):=⟨Try.f77,_,Try.func77,rfl,by kernel_rfl,rfl,rfl,by kernel_rfl⟩
theorem ok78:FnOk Try.prog (78,i78):=⟨Try.f78,_,Try.func78,rfl,by kernel_rfl,rfl,rfl,by kernel_rfl⟩
theorem ok80:FnOk Try.prog (80,i80):=⟨Try.f80,_,Try.func80,rfl,by kernel_rfl,rfl,rfl,by kernel_rfl⟩
theorem ok82:FnOk Try.prog (82,i82):=⟨Try.f82,_,Try.func82,rfl,by kernel_rfl,rfl,rfl,by kernel_rfl⟩
theorem ok83:FnOk Try.prog (83,i83):=⟨Try.f83,_,Try.func83,rfl,by kernel_rfl,rfl,rfl,by kernel_rfl⟩
theorem ok84:FnOk Try.prog (84,i84):=⟨Try.f84,_,Try.func84,rfl,by kernel_rfl,rfl,rfl,by kernel_rfl⟩
theorem ok85:FnOk Try.prog (85,i85):=⟨Try.f85,_,Try.func85,rfl,by kernel_rfl,rfl,rfl,by kernel_rfl⟩
theorem ok86:FnOk Try.prog (86,i86):=⟨Try.f86,_,Try.func86,rfl,by kernel_rfl,rfl,rfl,by kernel_rfl⟩
theorem ok87:FnOk Try.prog (87,i87):=⟨Try.f87,_,Try.func87,rfl,by kernel_rfl,rfl,rfl,by kernel_rfl⟩
theorem ok91:FnOk Try.prog (91,i91):=⟨Try.f91,_,Try.func91,rfl,by kernel_rfl,rfl,rfl,by kernel_rfl⟩
theorem ok98:FnOk Try.prog (98,i98):=⟨Try.f98,_,Try.func98,rfl,by kernel_rfl,rfl,rfl,by kernel_rfl⟩
theorem ok99:FnOk Try.prog (99,i99):=⟨Try.f99,_,Try.func99,rfl,by kernel_rfl,rfl,rfl,by kernel_rfl⟩
theorem ok100:FnOk Try.prog (100,i100):=⟨Try.f100,_,Try.func100,rfl,by kernel_rfl,rfl,rfl,by kernel_rfl⟩
theorem ok101:FnOk Try.prog (101,i101):=⟨Try.f101,_,Try.func101,rfl,by kernel_rfl,rfl,rfl,by kernel_rfl⟩
theorem ok102:FnOk Try.prog (102,i102):=⟨Try.f102,_,Try.func102,rfl,by kernel_rfl,rfl,rfl,by kernel_rfl⟩
theorem ok103:FnOk Try.prog (103,i103):=⟨Try.f103,_,Try.func103,rfl,by kernel_rfl,rfl,rfl,by kernel_rfl⟩
theorem ok109:FnOk Try.prog (109,i109):=⟨Try.f109,_,Try.func109,rfl,by kernel_rfl,rfl,rfl,by kernel_rfl⟩
theorem ok110:FnOk Try.prog (110,i110):=⟨Try.f110,_,Try.func110,rfl,by kernel_rfl,rfl,rfl,by kernel_rfl⟩
theorem ok115:FnOk Try.prog (115,i115):=⟨Try.f115,_,Try.func115,rfl,by kernel_rfl,rfl,rfl,by kernel_rfl⟩
theorem primAll:∀q∈([(58,i58)]:List (Nat×FnI)),(mkTab tys fns).fn q.1=some q.2∧PrimOk Try.prog q.1 q.2:=by
 intro q hq;simp only [List.mem_cons,List.not_mem_nil,or_false] at hq;subst hq;exact ⟨rfl,prim58⟩
theorem tab:TabOk Try.prog T:=tabOkL_of [(58,i58)] (by kernel_rfl) (.cons ok5 (.cons ok12 (.cons ok13 (.cons ok14 (.cons ok15 (.cons ok16 (.cons ok17 (.cons ok19 (.cons ok21 (.cons ok22 (.cons ok23 (.cons ok24 (.cons ok25 (.cons ok33 (.cons ok34 (.cons ok35 (.cons ok48 (.cons ok49 (.cons ok50 (.cons ok51 (.cons ok53 (.cons ok55 (.cons ok56 (.cons ok57 (.cons ok58 (.cons ok59 (.cons ok66 (.cons ok75 (.cons ok76 (.cons ok77 (.cons ok78 (.cons ok80 (.cons ok82 (.cons ok83 (.cons ok84 (.cons ok85 (.cons ok86 (.cons ok87 (.cons ok91 (.cons ok98 (.cons ok99 (.cons ok100 (.cons ok101 (.cons ok102 (.cons ok103 (.cons ok109 (.cons ok110 (.cons ok115 (.nil))))))))))))))))))))))))))))))))))))))))))))))))) (by kernel_rfl) primAll
theorem fn5:T.fn 5=some i5:=rfl
theorem fn12:T.fn 12=some i12:=rfl
theorem fn13:T.fn 13=some i13:=rfl
theorem fn14:T.fn 14=some i14:=rfl
theorem fn15:T.fn 15=some i15:=rfl
theorem fn16:T.fn 16=some i16:=rfl
theorem fn17:T.fn 17=some i17:=rfl
theorem fn19:T.fn 19=some i19:=rfl
theorem fn21:T.fn 21=some i21:=rfl
theorem fn22:T.fn 22=some i22:=rfl
theorem fn23:T.fn 23=some i23:=rfl
theorem fn24:T.fn 24=some i24:=rfl
theorem fn25:T.fn 25=some i25:=rfl
theorem fn33:T.fn 33=some i33:=rfl
theorem fn34:T.fn 34=some i34:=rfl
theorem fn35:T.fn 35=some i35:=rfl
theorem fn48:T.fn 48=some i48:=rfl
theorem fn49:T.fn 49=some i49:=rfl
theorem fn50:T.fn 50=some i50:=rfl
theorem fn51:T.fn 51=some i51:=rfl
theorem fn53:T.fn 53=some i53:=rfl
theorem fn55:T.fn 55=some i55:=rfl
theorem fn56:T.fn 56=some i56:=rfl
theorem fn57:T.fn 57=some i57:=rfl
theorem fn58:T.fn 58=some i58:=rfl
theorem fn59:T.fn 59=some i59:=rfl
theorem fn66:T.fn 66=some i66:=rfl
theorem fn75:T.fn 75=some i75:=rfl
theorem fn76:T.fn 76=some i76:=rfl
theorem fn77:T.fn 77=some i77:=rfl
theorem fn78:T.fn 78=some i78:=rfl
theorem fn80:T.fn 80=some i80:=rfl
theorem fn82:T.fn 82=some i82:=rfl
theorem fn83:T.fn 83=some i83:=rfl
theorem fn84:T.fn 84=some i84:=rfl
theorem fn85:T.fn 85=some i85:=rfl
theorem fn86:T.fn 86=some i86:=rfl
theorem fn87:T.fn 87=some i87:=rfl
theorem fn91:T.fn 91=some i91:=rfl
theorem fn98:T.fn 98=some i98:=rfl
theorem fn99:T.fn 99=some i99:=rfl
theorem fn100:T.fn 100=some i100:=rfl
theorem fn101:T.fn 101=some i101:=rfl
theorem fn102:T.fn 102=some i102:=rfl
theorem fn103:T.fn 103=some i103:=rfl
theorem fn109:T.fn 109=some i109:=rfl
theorem fn110:T.fn 110=some i110:=rfl
theorem fn115:T.fn 115=some i115:=rfl
theorem fns12:(T.at true).fn 12=some i12:=rfl
theorem fns14:(T.at true).fn 14=some i14:=rfl
theorem fns16:(T.at true).fn 16=some i16:=rfl
theorem fns22:(T.at true).fn 22=some i22:=rfl
theorem fns23:(T.at true).fn 23=some i23:=rfl
theorem fns24:(T.at true).fn 24=some i24:=rfl
theorem fns25:(T.at true).fn 25=some i25:=rfl
theorem fns34:(T.at true).fn 34=some i34:=rfl
abbrev CL (f:Nat)(p:List (List Nat)):Prop:=∀(args:List AV) (S:St),evCall T (evFL T) f args S=lendC (evFL T f) S (lendAll S p args)
abbrev CZ (f:Nat)(r p:List (List Nat)):Prop:=∀(args:List AV) (S:St),evCallFz T (evFL T) f args S=lendZ (evFL T f) S r (lendAll S p args)
abbrev clR (f:Nat)(c a:List AV)(v:AV):Prop:=(∀S,evCall T (evFL T) f (a++c) S=some (v,S))∧∀S,evCallFz T (evFL T) f (a++c) S=some (v,S)
attribute [go_sem] clR
end Go.Pi.Ytlcanbihlfncoaa.DropOffer
