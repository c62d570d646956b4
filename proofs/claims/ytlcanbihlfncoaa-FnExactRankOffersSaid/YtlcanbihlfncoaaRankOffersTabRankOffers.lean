/- no condition -/
import Derived.Test.YtlcanbihlfncoaaPiE
import Derived.Test.YtlcanbihlfncoaaProg
import Derived.Test.YtlcanbihlfncoaaPiD
set_option linter.all false
namespace Go.Pi.Ytlcanbihlfncoaa.RankOffers
open Go Go.Proofs Go.Pi
set_option maxRecDepth 100000
attribute [go_sem] Nat.reduceLT Nat.reduceAdd Nat.reduceSub Nat.reduceMul Nat.reduceEqDiff Nat.reduceBEq Nat.reduceLeDiff Int.reduceToNat Int.reduceLT Int.reduceLE Int.reduceEq reduceCtorEq
attribute [go_sem] reduceIte
def c78:PC:=(sq (.reg [pK 4 0]) (sq (.reg [pM 5 1,pM 6 0,pE 7 6 29,pO 8 .sub 3 5 7 3,pA 1 8]) (sq (sq (.reg [pM 9 1,pB 10 .lss 3 9 0 3]) (cd 10 (sq (.reg [pK 4 (-1)]) .ret) .skip)) (sq (.reg [pM 11 1,pA 4 11]) .ret))))
def i78:FnI:=⟨12,[(.tmp 4)],c78,0,[[1],[0]],[[0]],false,false,0,false⟩
def c51:PC:=(sq (.reg [pX 2 31 0,pK 4 0]) (sq (.reg [pF 5 31 2 1,pL 6 29 5,pM 7 1,pC2 8 78 6 7 29 3,pA 1 8]) (sq (sq (.reg [pM 9 1,pB 10 .lss 3 9 0 3]) (cd 10 (sq (.reg [pK 4 (-1)]) .ret) .skip)) (sq (.reg [pF 11 31 2 5,pL 12 29 11,pM 13 1,pC2 14 78 12 13 29 3,pA 1 14]) (sq (sq (.reg [pM 15 1,pB 16 .lss 3 15 0 3]) (cd 16 (sq (.reg [pK 4 (-1)]) .ret) .skip)) (sq (.reg [pM 17 1,pA 4 17]) .ret))))))
def i51:FnI:=⟨18,[(.tmp 4)],c51,0,[[0,1,0,0,0,1],[0]],[[0]],false,false,0,false⟩
def c17:PC:=(sq (.reg [pX 2 33 0,pK 4 0]) (sq (.reg [pF 5 33 2 1,pL 6 31 5,pM 7 1,pC2 8 51 6 7 31 3,pA 1 8]) (sq (sq (.reg [pM 9 1,pB 10 .lss 3 9 0 3]) (cd 10 (sq (.reg [pK 4 (-1)]) .ret) .skip)) (sq (.reg [pM 11 1,pA 4 11]) .ret))))
def i17:FnI:=⟨12,[(.tmp 4)],c17,0,[[0,0,1,0,0,0,1],[0]],[[0]],false,false,0,false⟩
def k12_1b:PC:=(sq (sq (.reg [pM 12 5,pM 13 0,pE 14 13 22,pO 15 .lss 3 12 14 3]) (cd 15 .skip (.pre ⟨[1],[],[],[]⟩ (.exit 0)))) (sq (.block 1 (sq (.reg [pM 18 0,pM 19 5,pI 20 22 18 19,pL 21 33 20,pM 22 1,pC2 23 17 21 22 33 3,pA 1 23]) (sq (.reg [pM 24 1,pB 25 .lss 3 24 0 3]) (cd 25 (sq (.reg [pK 4 (-1)]) (.pre ⟨[4],[],[],[]⟩ .ret)) .skip)))) (.post (.reg [pM 16 5,pB 17 .add 3 16 1 3,pA 5 17]) ⟨[0,1,5],[],[],[]⟩)))
def c12:PC:=(sq (.reg [pK 4 0]) (sq (.reg [pM 6 1,pM 7 0,pE 8 7 22,pO 9 .sub 3 6 8 3,pA 1 9]) (sq (sq (.reg [pM 10 1,pB 11 .lss 3 10 0 3]) (cd 11 (sq (.reg [pK 4 (-1)]) .ret) .skip)) (sq (sq (.reg [pK 5 0]) (.block 0 (.pre ⟨[0,1,5],[],[],[]⟩ (.loop k12_1b)))) (sq (.reg [pM 26 1,pA 4 26]) .ret)))))
def i12:FnI:=⟨27,[(.tmp 4)],c12,0,[[7],[0]],[[0]],false,false,0,false⟩
def k80_1b:PC:=(sq (sq (.reg [pM 8 4,pM 9 0,pE 10 9 29,pO 11 .lss 3 8 10 3]) (cd 11 .skip (.pre ⟨[3],[.old 0],[],[]⟩ (.exit 0)))) (sq (.block 1 (.reg [pM 14 3,pM 15 4,pM 16 0,pM 17 4,pI 18 29 16 17,pL 19 3 18,pI 20 29 14 15,⟨none,(.store 3 (.tmp 20) (.tmp 19)),none⟩])) (.post (.reg [pM 12 4,pB 13 .add 3 12 1 3,pA 4 13]) ⟨[0,3,4],[.old 0],[],[]⟩)))
def c80:PC:=(sq (.reg [pS 2]) (sq (.reg [pM 5 0,pE 6 5 29,⟨(some 7),(.makeSlice 29 (.tmp 6) (.tmp 6)),none⟩,pA 3 7]) (sq (sq (.reg [pK 4 0]) (.block 0 (.pre ⟨[0,3,4],[.old 0],[],[]⟩ (.loop k80_1b)))) (sq (.reg [pM 21 3,pA 2 21]) .ret))))
def i80:FnI:=⟨22,[(.tmp 2)],c80,0,[[1]],[[1]],false,false,0,false⟩
def c53:PC:=(sq (.reg [pX 1 31 0,pG 2 37]) (sq (.reg [pG 3 37]) (sq (.reg [pF 4 31 1 0,pL 5 3 4,pF 6 37 3 0,⟨none,(.store 3 (.tmp 6) (.tmp 5)),none⟩]) (sq (.reg [pF 7 31 1 1,pL 8 29 7,pC 9 80 8 29,pF 10 37 3 1,⟨none,(.store 29 (.tmp 10) (.tmp 9)),none⟩]) (sq (.reg [pF 11 31 1 2,pL 12 3 11,pF 13 37 3 2,⟨none,(.store 3 (.tmp 13) (.tmp 12)),none⟩]) (sq (.reg [pF 14 31 1 3,pL 15 3 14,pF 16 37 3 3,⟨none,(.store 3 (.tmp 16) (.tmp 15)),none⟩]) (sq (.reg [pF 17 31 1 4,pL 18 3 17,pF 19 37 3 4,⟨none,(.store 3 (.tmp 19) (.tmp 18)),none⟩]) (sq (.reg [pF 20 31 1 5,pL 21 29 20,pC 22 80 21 29,pF 23 37 3 5,⟨none,(.store 29 (.tmp 23) (.tmp 22)),none⟩]) (sq (.reg [pL 24 37 3,⟨none,(.store 37 (.tmp 2) (.tmp 24)),none⟩]) .ret)))))))))
def i53:FnI:=⟨25,[(.cell 2 37)],c53,0,[[0,1,0,0,0,1]],[[0,1,0,0,0,1]],false,false,0,false⟩
def c19:PC:=(sq (.reg [pX 1 33 0,pG 2 39]) (sq (.reg [pG 3 39]) (sq (.reg [pF 4 33 1 0,pL 5 3 4,pF 6 39 3 0,⟨none,(.store 3 (.tmp 6) (.tmp 5)),none⟩]) (sq (.reg [pF 7 33 1 1,pL 8 31 7,pC 9 53 8 31,pF 10 39 3 1,⟨none,(.store 37 (.tmp 10) (.tmp 9)),none⟩]) (sq (.reg [pL 11 39 3,⟨none,(.store 39 (.tmp 2) (.tmp 11)),none⟩]) .ret)))))
def i19:FnI:=⟨12,[(.cell 2 39)],c19,0,[[0,0,1,0,0,0,1]],[[0,0,1,0,0,0,1]],false,false,0,false⟩
def k14_1b:PC:=(sq (sq (.reg [pM 8 4,pM 9 0,pE 10 9 22,pO 11 .lss 3 8 10 3]) (cd 11 .skip (.pre ⟨[3],[.old 0],[],[]⟩ (.exit 0)))) (sq (.block 1 (.reg [pM 14 3,pM 15 4,pM 16 0,pM 17 4,pI 18 22 16 17,pL 19 33 18,pC 20 19 19 33,pI 21 25 14 15,⟨none,(.store 39 (.tmp 21) (.tmp 20)),none⟩])) (.post (.reg [pM 12 4,pB 13 .add 3 12 1 3,pA 4 13]) ⟨[0,3,4],[.old 0],[],[]⟩)))
def c14:PC:=(sq (.reg [pS 2]) (sq (.reg [pM 5 0,pE 6 5 22,⟨(some 7),(.makeSlice 25 (.tmp 6) (.tmp 6)),none⟩,pA 3 7]) (sq (sq (.reg [pK 4 0]) (.block 0 (.pre ⟨[0,3,4],[.old 0],[],[]⟩ (.loop k14_1b)))) (sq (.reg [pM 22 3,pA 2 22]) .ret))))
def i14:FnI:=⟨23,[(.tmp 2)],c14,0,[[7]],[[7]],false,false,0,false⟩
def k48_1:PC:=(.post (.reg [pM 7 0,pM 8 1,pO 9 .geq 3 7 8 3,pM 10 9,⟨(some 11),(.move (.tmp 0)),(some (10,true))⟩,⟨(some 12),(.move (.tmp 2)),(some (10,true))⟩,⟨(some 13),(.binOp .leq 3 (.tmp 11) (.tmp 12) 3),(some (10,true))⟩,pP 14 10 13,pA 6 14]) ⟨[6],[],[],[]⟩)
def c48:PC:=(sq (.reg [pN 6 false]) (sq (.pre ⟨[0,1,2],[],[],[]⟩ k48_1) .ret))
def i48:FnI:=⟨15,[(.tmp 6)],c48,0,[[0],[0],[0]],[[0]],false,false,0,false⟩
def c75:PC:=(sq (.reg [pN 2 false]) (sq (.reg [pM 3 0,⟨(some 4),(.call { callee:=(.value (.func 48)),args:=#[(.tmp 3),(.const (.int .i64 0)),(.const (.int .i64 4294967295))],argTypes:=#[3,3,3] }),none⟩,pA 2 4]) .ret))
def i75:FnI:=⟨5,[(.tmp 2)],c75,0,[[0]],[[0]],false,false,0,false⟩
def k49_1b:PC:=(sq (.reg [pO 11 .lss 3 10 9 3]) (sq (cd 11 .skip (.pre ⟨[1],[.old 0],[],[]⟩ (.exit 0))) (sq (.block 1 (sq (.reg [pI 12 29 8 10,pL 13 3 12,pA 4 13]) (sq (.reg [pM 14 4,⟨(some 15),(.call { callee:=(.value (.func 48)),args:=#[(.tmp 14),(.const (.int .i64 1)),(.const (.int .i64 65535))],argTypes:=#[3,3,3] }),none⟩,pU 16 4 15]) (cd 16 (sq (.reg [pN 2 false]) (.pre ⟨[2],[],[],[]⟩ .ret)) .skip)))) (.post (.reg [pB 17 .add 3 10 1 3,pM 10 17]) ⟨[1,8,9,10],[.old 0],[],[]⟩))))
def k49_4:PC:=(.post (.reg [pM 26 6,⟨(some 27),(.call { callee:=(.value (.func 48)),args:=#[(.tmp 26),(.const (.int .i64 0)),(.const (.int .i64 1000000))],argTypes:=#[3,3,3] }),none⟩,pU 28 4 27,pM 29 28,⟨(some 30),(.move (.tmp 5)),(some (29,false))⟩,⟨(some 31),(.binOp .gtr 3 (.tmp 30) (.const (.int .i64 0)) 3),(some (29,false))⟩,⟨(some 32),(.move (.tmp 31)),(some (29,false))⟩,⟨(some 33),(.fieldAddr 37 (.tmp 1) 5),(some (32,true))⟩,⟨(some 34),(.load 29 (.tmp 33)),(some (32,true))⟩,⟨(some 35),(.move (.tmp 5)),(some (32,true))⟩,⟨(some 36),(.binOp .sub 3 (.tmp 35) (.const (.int .i64 1)) 3),(some (32,true))⟩,⟨(some 37),(.indexAddr 29 (.tmp 34) (.tmp 36)),(some (32,true))⟩,⟨(some 38),(.load 3 (.tmp 37)),(some (32,true))⟩,⟨(some 39),(.move (.tmp 6)),(some (32,true))⟩,⟨(some 40),(.binOp .geq 3 (.tmp 38) (.tmp 39) 3),(some (32,true))⟩,⟨(some 41),(.pick (.tmp 32) (.tmp 40) (.const (.bool false))),(some (29,false))⟩,pQ 42 29 41]) ⟨[1,19,20,21,42],[.old 0],[],[]⟩)
def k49_2b:PC:=(sq (.reg [pO 22 .lss 3 21 20 3]) (sq (cd 22 .skip (.pre ⟨[1],[.old 0],[],[]⟩ (.exit 2))) (sq (.block 3 (sq (.reg [pM 23 21,pI 24 29 19 21,pL 25 3 24,pA 5 23,pA 6 25]) (sq (.pre ⟨[1,5,6,19,20,21],[.old 0],[],[]⟩ k49_4) (cd 42 (sq (.reg [pN 2 false]) (.pre ⟨[2],[],[],[]⟩ .ret)) .skip)))) (.post (.reg [pB 43 .add 3 21 1 3,pM 21 43]) ⟨[1,19,20,21],[.old 0],[],[]⟩))))
def k49_5:PC:=(.post (.reg [pF 44 37 1 0,pL 45 3 44,⟨(some 46),(.call { callee:=(.value (.func 48)),args:=#[(.tmp 45),(.const (.int .i64 0)),(.const (.int .i64 2))],argTypes:=#[3,3,3] }),none⟩,pM 47 46,⟨(some 48),(.fieldAddr 37 (.tmp 1) 1),(some (47,true))⟩,⟨(some 49),(.load 29 (.tmp 48)),(some (47,true))⟩,⟨(some 50),(.call { callee:=(.builtin .len),args:=#[(.tmp 49)],argTypes:=#[29] }),(some (47,true))⟩,⟨(some 51),(.binOp .leq 3 (.tmp 50) (.const (.int .i64 10)) 3),(some (47,true))⟩,pP 52 47 51,pM 53 52,⟨(some 54),(.fieldAddr 37 (.tmp 1) 2),(some (53,true))⟩,⟨(some 55),(.load 3 (.tmp 54)),(some (53,true))⟩,⟨(some 56),(.call { callee:=(.value (.func 75)),args:=#[(.tmp 55)],argTypes:=#[3] }),(some (53,true))⟩,pP 57 53 56,pM 58 57,⟨(some 59),(.fieldAddr 37 (.tmp 1) 3),(some (58,true))⟩,⟨(some 60),(.load 3 (.tmp 59)),(some (58,true))⟩,⟨(some 61),(.call { callee:=(.value (.func 48)),args:=#[(.tmp 60),(.const (.int .i64 0)),(.const (.int .i64 1000000))],argTypes:=#[3,3,3] }),(some (58,true))⟩,pP 62 58 61,pM 63 62,⟨(some 64),(.fieldAddr 37 (.tmp 1) 4),(some (63,true))⟩,⟨(some 65),(.load 3 (.tmp 64)),(some (63,true))⟩,⟨(some 66),(.call { callee:=(.value (.func 48)),args:=#[(.tmp 65),(.const (.int .i64 0)),(.const (.int .i64 1000000))],argTypes:=#[3,3,3] }),(some (63,true))⟩,pP 67 63 66,pM 68 67,⟨(some 69),(.fieldAddr 37 (.tmp 1) 5),(some (68,true))⟩,⟨(some 70),(.load 29 (.tmp 69)),(some (68,true))⟩,⟨(some 71),(.call { callee:=(.builtin .len),args:=#[(.tmp 70)],argTypes:=#[29] }),(some (68,true))⟩,⟨(some 72),(.binOp .leq 3 (.tmp 71) (.const (.int .i64 6)) 3),(some (68,true))⟩,pP 73 68 72,pA 2 73]) ⟨[2],[],[],[]⟩)
def c49:PC:=(sq (.reg [pX 1 37 0,pN 2 false]) (sq (sq (.reg [pF 7 37 1 1,pL 8 29 7,pE 9 8 29,pV 10 0]) (.block 0 (.pre ⟨[1,8,9,10],[.old 0],[],[]⟩ (.loop k49_1b)))) (sq (sq (.reg [pF 18 37 1 5,pL 19 29 18,pE 20 19 29,pV 21 0]) (.block 2 (.pre ⟨[1,19,20,21],[.old 0],[],[]⟩ (.loop k49_2b)))) (sq (.pre ⟨[1],[.old 0],[],[]⟩ k49_5) .ret))))
def i49:FnI:=⟨74,[(.tmp 2)],c49,0,[[0,1,0,0,0,1]],[[0]],false,false,0,false⟩
def k13_3:PC:=(.post (.fz [pF 12 39 4 0,pL 13 3 12,⟨(some 14),(.call { callee:=(.value (.func 48)),args:=#[(.tmp 13),(.const (.int .i64 0)),(.const (.int .i64 5))],argTypes:=#[3,3,3] }),none⟩,pU 15 4 14,pM 16 15,⟨(some 17),(.fieldAddr 39 (.tmp 4) 1),(some (16,false))⟩,⟨(some 18),(.load 37 (.tmp 17)),(some (16,false))⟩,⟨(some 19),(.call { callee:=(.value (.func 49)),args:=#[(.tmp 18)],argTypes:=#[37] }),(some (16,false))⟩,⟨(some 20),(.unOp .not 4 (.tmp 19)),(some (16,false))⟩,pQ 21 16 20,pM 22 21,⟨(some 23),(.move (.tmp 3)),(some (22,false))⟩,⟨(some 24),(.binOp .gtr 3 (.tmp 23) (.const (.int .i64 0)) 3),(some (22,false))⟩,⟨(some 25),(.move (.tmp 24)),(some (22,false))⟩,⟨(some 26),(.move (.tmp 0)),(some (25,true))⟩,⟨(some 27),(.move (.tmp 3)),(some (25,true))⟩,⟨(some 28),(.binOp .sub 3 (.tmp 27) (.const (.int .i64 1)) 3),(some (25,true))⟩,⟨(some 29),(.indexAddr 25 (.tmp 26) (.tmp 28)),(some (25,true))⟩,⟨(some 30),(.fieldAddr 39 (.tmp 29) 0),(some (25,true))⟩,⟨(some 31),(.load 3 (.tmp 30)),(some (25,true))⟩,⟨(some 32),(.fieldAddr 39 (.tmp 4) 0),(some (25,true))⟩,⟨(some 33),(.load 3 (.tmp 32)),(some (25,true))⟩,⟨(some 34),(.binOp .geq 3 (.tmp 31) (.tmp 33) 3),(some (25,true))⟩,⟨(some 35),(.pick (.tmp 25) (.tmp 34) (.const (.bool false))),(some (22,false))⟩,pQ 36 22 35]) ⟨[0,5,6,7,36],[],[],[]⟩)
def k13_1b:PC:=(sq (.reg [pO 8 .lss 3 7 6 3]) (sq (cd 8 .skip (.pre ⟨[],[],[],[]⟩ (.exit 0))) (sq (.block 1 (sq (.reg [pM 9 7,pI 10 25 5 7,pL 11 39 10,pG 4 39,pA 3 9,⟨none,(.store 39 (.tmp 4) (.tmp 11)),none⟩]) (sq (.pre ⟨[0,3,4,5,6,7],[.old 0],[],[]⟩ k13_3) (cd 36 (sq (.reg [pN 2 false]) (.pre ⟨[2],[],[],[]⟩ .ret)) .skip)))) (.post (.reg [pB 37 .add 3 7 1 3,pM 7 37]) ⟨[0,5,6,7],[],[],[]⟩))))
def c13:PC:=(sq (.reg [pN 2 false]) (sq (sq (.reg [pM 5 0,pE 6 5 25,pV 7 0]) (.block 0 (.pre ⟨[0,5,6,7],[],[],[]⟩ (.loop k13_1b)))) (sq (.reg [pN 2 true]) .ret)))
def i13:FnI:=⟨38,[(.tmp 2)],c13,0,[[7]],[[0]],false,false,0,false⟩
def c79:PC:=(sq (.reg [pK 4 0]) (sq (.block 0 (sq (.reg [pM 6 0,pM 7 1,pO 8 .lss 3 6 7 3,pA 5 8]) (cd 5 (sq (.reg [pK 4 (-1)]) .ret) (sq (.reg [pM 10 0,pM 11 1,pO 12 .gtr 3 10 11 3,pA 9 12]) (cd 9 (sq (.reg [pK 4 1]) .ret) .skip))))) (sq (.reg [pK 4 0]) .ret)))
def i79:FnI:=⟨13,[(.tmp 4)],c79,0,[[0],[0]],[[0]],false,false,0,false⟩
def k52_1b:PC:=(sq (.reg [pO 52 .lss 3 51 50 3]) (sq (cd 52 .skip (.pre ⟨[2,3],[.old 0,.old 1],[],[]⟩ (.exit 0))) (sq (.block 1 (sq (.reg [pI 53 29 49 51,pL 54 3 53,pA 6 54]) (sq (.reg [pM 55 6,pB 56 .neq 3 55 0 3]) (cd 56 (sq (.reg [pM 57 6,pA 4 57]) (.pre ⟨[4],[],[],[]⟩ .ret)) .skip)))) (.post (.reg [pB 58 .add 3 51 1 3,pM 51 58]) ⟨[2,3,49,50,51],[.old 0,.old 1,.old 2],[],[]⟩))))
@[go_sem] def x52_3:FxI:=⟨[6,15,22,29,36,37],[none,none,none,none,none,none,none,none,none,none,none,none,none,none,none,none,none,none,none,none,none,none,none,none,none,none,none,none,none,none,none,none,none,none,none,none,none,none,none,none],0,[[],[6],[6,15],[6,15,22],[6,15,22,29],[6,15,22,29,36],[6,15,22,29,36,37]],[],[(9,0,0),(10,0,0),(13,0,0),(14,0,0),(18,0,0),(18,1,1),(21,0,0),(21,1,1),(25,0,0),(25,1,1),(25,2,2),(28,0,0),(28,1,1),(28,2,2),(32,0,0),(32,1,1),(32,2,2),(32,3,3),(35,0,0),(35,1,1),(35,2,2),(35,3,3)]⟩
def c52:PC:=(sq (.reg [pX 2 39 0,pX 3 39 1,pK 4 0]) (sq (sq (.reg [pF 7 39 2 0,pL 8 3 7,pF 9 39 3 0,pL 10 3 9,pO 11 .eql 3 8 10 3]) (cd 11 (sq (.reg [pK 4 0]) .ret) .skip)) (sq (sq (.fx [pF 12 39 3 1,pF 13 37 12 4,pL 14 3 13,pF 15 39 2 1,pF 16 37 15 4,pL 17 3 16,pC2 18 79 14 17 3 3,pF 19 39 2 1,pF 20 37 19 1,pL 21 29 20,pE 22 21 29,pF 23 39 3 1,pF 24 37 23 1,pL 25 29 24,pE 26 25 29,pC2 27 79 22 26 3 3,pF 28 39 2 1,pF 29 37 28 0,pL 30 3 29,pF 31 39 3 1,pF 32 37 31 0,pL 33 3 32,pC2 34 79 30 33 3 3,pF 35 39 2 1,pF 36 37 35 3,pL 37 3 36,pF 38 39 3 1,pF 39 37 38 3,pL 40 3 39,pC2 41 79 37 40 3 3,pF 42 39 2 1,pF 43 37 42 2,pL 44 3 43,pF 45 39 3 1,pF 46 37 45 2,pL 47 3 46,pC2 48 79 44 47 3 3,⟨(some 49),(.buildSlice 29 5 #[(0,(.tmp 18)),(1,(.tmp 27)),(2,(.tmp 34)),(3,(.tmp 41)),(4,(.tmp 48))]),none⟩,pE 50 49 29,pV 51 0] x52_3) (.block 0 (.pre ⟨[2,3,49,50,51],[.old 0,.old 1,.old 2],[],[]⟩ (.loop k52_1b)))) (sq (.reg [pF 59 39 2 0,pL 60 3 59,pF 61 39 3 0,pL 62 3 61,pC2 63 79 60 62 3 3,pA 4 63]) .ret))))
def i52:FnI:=⟨64,[(.tmp 4)],c52,0,[[0,0,1,0,0,0,1],[0,0,1,0,0,0,1]],[[0]],false,false,0,false⟩
def k63_4:PC:=(.post (.fz [pM 13 3,pB 14 .lss 3 13 0 3,pM 15 14,⟨(some 16),(.load 39 (.tmp 5)),(some (15,false))⟩,⟨(some 17),(.move (.tmp 0)),(some (15,false))⟩,⟨(some 18),(.move (.tmp 3)),(some (15,false))⟩,⟨(some 19),(.indexAddr 25 (.tmp 17) (.tmp 18)),(some (15,false))⟩,⟨(some 20),(.load 39 (.tmp 19)),(some (15,false))⟩,⟨(some 21),(.call { callee:=(.value (.func 52)),args:=#[(.tmp 16),(.tmp 20)],argTypes:=#[39,39] }),(some (15,false))⟩,⟨(some 22),(.binOp .lss 3 (.tmp 21) (.const (.int .i64 0)) 3),(some (15,false))⟩,pQ 23 15 22]) ⟨[0,3,4,6,7,8,23],[],[],[]⟩)
def k63_5:PC:=(cd 23 (.post (.reg [pM 24 4,pA 3 24]) ⟨[0,3,6,7,8],[],[],[]⟩) (.post .skip ⟨[0,3,6,7,8],[],[],[]⟩))
def k63_1b:PC:=(sq (.reg [pO 9 .lss 3 8 7 3]) (sq (cd 9 .skip (.pre ⟨[3],[],[],[]⟩ (.exit 0))) (sq (.block 1 (sq (.reg [pM 10 8,pI 11 25 6 8,pL 12 39 11,pG 5 39,pA 4 10,⟨none,(.store 39 (.tmp 5) (.tmp 12)),none⟩]) (sq (.pre ⟨[0,3,4,5,6,7,8],[.old 0],[],[]⟩ k63_4) (.pre ⟨[0,3,4,6,7,8,23],[],[],[]⟩ k63_5)))) (.post (.reg [pB 25 .add 3 8 1 3,pM 8 25]) ⟨[0,3,6,7,8],[],[],[]⟩))))
def c63:PC:=(sq (.reg [pK 2 0]) (sq (.reg [pK 3 (-1)]) (sq (sq (.reg [pM 6 0,pE 7 6 25,pV 8 0]) (.block 0 (.pre ⟨[0,3,6,7,8],[],[],[]⟩ (.loop k63_1b)))) (sq (.reg [pM 26 3,pA 2 26]) .ret))))
def i63:FnI:=⟨27,[(.tmp 2)],c63,0,[[7]],[[0]],false,false,0,false⟩
@[go_sem] def x31_8:FxI:=⟨[0,4,9],[none,none,none,none,none,none,none,none,none,none,none],0,[[],[0],[0,4],[0,4,9]],[],[(3,0,0),(8,0,0),(8,1,1)]⟩
def k31_1b:PC:=(sq (sq (.reg [pM 13 4,pE 14 13 25,pB 15 .gtr 3 14 0 3]) (cd 15 .skip (.pre ⟨[5],[.old 1],[],[]⟩ (.exit 0)))) (.block 1 (sq (.reg [pM 16 4,pC 17 63 16 25,pA 6 17]) (sq (.reg [pM 18 5,pM 19 4,pM 20 6,pI 21 25 19 20,pF 22 39 21 0,pL 23 3 22,⟨(some 24),(.buildSlice 29 1 #[(0,(.tmp 23))]),none⟩,⟨(some 25),(.call { callee:=(.builtin .append),args:=#[(.tmp 18),(.tmp 24)],argTypes:=#[29,29] }),none⟩,pA 5 25]) (.post (.fx [⟨(some 26),(.buildSlice 25 0 #[]),none⟩,pM 27 4,pM 28 6,⟨(some 29),(.slice 25 (.tmp 27) none (some (.tmp 28)) none),none⟩,⟨(some 30),(.call { callee:=(.builtin .append),args:=#[(.tmp 26),(.tmp 29)],argTypes:=#[25,25] }),none⟩,pM 31 4,pM 32 6,pB 33 .add 3 32 1 3,⟨(some 34),(.slice 25 (.tmp 31) (some (.tmp 33)) none none),none⟩,⟨(some 35),(.call { callee:=(.builtin .append),args:=#[(.tmp 30),(.tmp 34)],argTypes:=#[25,25] }),none⟩,pA 4 35] x31_8) ⟨[4,5],[.old 6,.old 3],[],[]⟩)))))
def c31:PC:=(sq (.reg [pS 2,pN 3 false]) (sq (sq (.reg [pM 7 0,pC 8 13 7 25,pU 9 4 8]) (cd 9 (sq (.reg [pS 2,pN 3 false]) .ret) .skip)) (sq (.reg [⟨(some 10),(.buildSlice 25 0 #[]),none⟩,pM 11 0,⟨(some 12),(.call { callee:=(.builtin .append),args:=#[(.tmp 10),(.tmp 11)],argTypes:=#[25,25] }),none⟩,pA 4 12]) (sq (.reg [pS 5]) (sq (.block 0 (.pre ⟨[4,5],[.old 1,.nilT 5 0 1],[],[]⟩ (.loop k31_1b))) (sq (.reg [pM 36 5,pA 2 36,pN 3 true]) .ret))))))
def i31:FnI:=⟨37,[(.tmp 2),(.tmp 3)],c31,0,[[7]],[[1],[0]],false,false,0,false⟩
def k91_1:PC:=(.post (.reg [pM 7 0,pM 8 1,pO 9 .geq 3 7 8 3,pM 10 9,⟨(some 11),(.move (.tmp 0)),(some (10,true))⟩,⟨(some 12),(.move (.tmp 2)),(some (10,true))⟩,⟨(some 13),(.binOp .leq 3 (.tmp 11) (.tmp 12) 3),(some (10,true))⟩,pP 14 10 13,pA 6 14]) ⟨[6],[],[],[]⟩)
def c91:PC:=(sq (.reg [pN 6 false]) (sq (.pre ⟨[0,1,2],[],[],[]⟩ k91_1) .ret))
def i91:FnI:=⟨15,[(.tmp 6)],c91,0,[[0],[0],[0]],[[0]],false,false,0,false⟩
def c76:PC:=(sq (.reg [pN 2 false]) (sq (.reg [pM 3 0,⟨(some 4),(.call { callee:=(.value (.func 91)),args:=#[(.tmp 3),(.const (.int .i64 0)),(.const (.int .i64 5))],argTypes:=#[3,3,3] }),none⟩,pA 2 4]) .ret))
def i76:FnI:=⟨5,[(.tmp 2)],c76,0,[[0]],[[0]],false,false,0,false⟩
def k115_1b:PC:=(sq (.reg [pO 9 .lss 3 8 7 3]) (sq (cd 9 .skip (.pre ⟨[],[],[],[]⟩ (.exit 0))) (sq (.block 1 (sq (.reg [pM 10 8,pA 5 10]) (sq (.reg [pM 11 1,pM 12 0,pM 13 5,pI 14 29 12 13,pL 15 3 14,⟨(some 16),(.call { callee:=(.value (.tmp 11)),args:=#[(.tmp 15)],argTypes:=#[3] }),none⟩]) (cd 16 (sq (.reg [pM 17 5,pA 4 17]) (.pre ⟨[4],[],[],[]⟩ .ret)) .skip)))) (.post (.reg [pB 18 .add 3 8 1 3,pM 8 18]) ⟨[0,1,7,8],[],[],[]⟩))))
def c115:PC:=(sq (.reg [pK 4 0]) (sq (sq (.reg [pM 6 0,pE 7 6 29,pV 8 0]) (.block 0 (.pre ⟨[0,1,7,8],[],[],[]⟩ (.loop k115_1b)))) (sq (.reg [pK 4 (-1)]) .ret)))
def i115:FnI:=⟨19,[(.tmp 4)],c115,0,[[1],[0]],[[0]],false,false,0,false⟩
def c109:PC:=(sq (.reg [pN 4 false]) (sq (.reg [pM 5 0,pM 6 1,pC2 7 115 5 6 29 80,pB 8 .geq 3 7 0 3,pA 4 8]) .ret))
def i109:FnI:=⟨9,[(.tmp 4)],c109,0,[[1],[0]],[[0]],false,false,0,false⟩
def c66:PC:=(sq (.reg [pN 2 false]) (sq (.reg [pM 3 0,⟨(some 4),(.call { callee:=(.value (.func 91)),args:=#[(.tmp 3),(.const (.int .i64 1)),(.const (.int .i64 65535))],argTypes:=#[3,3,3] }),none⟩,pA 2 4]) .ret))
def i66:FnI:=⟨5,[(.tmp 2)],c66,0,[[0]],[[0]],false,false,0,false⟩
def c110:PC:=(sq (.reg [pN 2 false]) (sq (.reg [pM 3 0,pC 4 66 3 3,pU 5 4 4,pA 2 5]) .ret))
def i110:FnI:=⟨6,[(.tmp 2)],c110,0,[[0]],[[0]],false,false,0,false⟩
def k98_1:PC:=(.post (.reg [pM 3 0,pE 4 3 29,pB 5 .leq 3 4 10 3,pM 6 5,⟨(some 7),(.move (.tmp 0)),(some (6,true))⟩,⟨(some 8),(.call { callee:=(.value (.func 109)),args:=#[(.tmp 7),(.func 110)],argTypes:=#[29,80] }),(some (6,true))⟩,⟨(some 9),(.unOp .not 4 (.tmp 8)),(some (6,true))⟩,pP 10 6 9,pA 2 10]) ⟨[2],[],[],[]⟩)
def c98:PC:=(sq (.reg [pN 2 false]) (sq (.pre ⟨[0],[],[],[]⟩ k98_1) .ret))
def i98:FnI:=⟨11,[(.tmp 2)],c98,0,[[1]],[[0]],false,false,0,false⟩
def c99:PC:=(sq (.reg [pN 2 false]) (sq (.reg [pM 3 0,⟨(some 4),(.call { callee:=(.value (.func 91)),args:=#[(.tmp 3),(.const (.int .i64 0)),(.const (.int .i64 4294967295))],argTypes:=#[3,3,3] }),none⟩,pA 2 4]) .ret))
def i99:FnI:=⟨5,[(.tmp 2)],c99,0,[[0]],[[0]],false,false,0,false⟩
def c100:PC:=(sq (.reg [pN 2 false]) (sq (.reg [pM 3 0,⟨(some 4),(.call { callee:=(.value (.func 91)),args:=#[(.tmp 3),(.const (.int .i64 0)),(.const (.int .i64 1000000))],argTypes:=#[3,3,3] }),none⟩,pA 2 4]) .ret))
def i100:FnI:=⟨5,[(.tmp 2)],c100,0,[[0]],[[0]],false,false,0,false⟩
def k101_3:PC:=(.post (.reg [pM 12 4,pC 13 100 12 3,pU 14 4 13,pM 15 14,⟨(some 16),(.move (.tmp 3)),(some (15,false))⟩,⟨(some 17),(.binOp .gtr 3 (.tmp 16) (.const (.int .i64 0)) 3),(some (15,false))⟩,⟨(some 18),(.move (.tmp 17)),(some (15,false))⟩,⟨(some 19),(.move (.tmp 4)),(some (18,true))⟩,⟨(some 20),(.move (.tmp 0)),(some (18,true))⟩,⟨(some 21),(.move (.tmp 3)),(some (18,true))⟩,⟨(some 22),(.binOp .sub 3 (.tmp 21) (.const (.int .i64 1)) 3),(some (18,true))⟩,⟨(some 23),(.indexAddr 29 (.tmp 20) (.tmp 22)),(some (18,true))⟩,⟨(some 24),(.load 3 (.tmp 23)),(some (18,true))⟩,⟨(some 25),(.binOp .leq 3 (.tmp 19) (.tmp 24) 3),(some (18,true))⟩,⟨(some 26),(.pick (.tmp 18) (.tmp 25) (.const (.bool false))),(some (15,false))⟩,pQ 27 15 26]) ⟨[0,5,6,7,27],[],[],[]⟩)
def k101_1b:PC:=(sq (.reg [pO 8 .lss 3 7 6 3]) (sq (cd 8 .skip (.pre ⟨[0],[],[],[]⟩ (.exit 0))) (sq (.block 1 (sq (.reg [pM 9 7,pI 10 29 5 7,pL 11 3 10,pA 3 9,pA 4 11]) (sq (.pre ⟨[0,3,4,5,6,7],[],[],[]⟩ k101_3) (cd 27 (sq (.reg [pN 2 false]) (.pre ⟨[2],[],[],[]⟩ .ret)) .skip)))) (.post (.reg [pB 28 .add 3 7 1 3,pM 7 28]) ⟨[0,5,6,7],[],[],[]⟩))))
def c101:PC:=(sq (.reg [pN 2 false]) (sq (sq (.reg [pM 5 0,pE 6 5 29,pV 7 0]) (.block 0 (.pre ⟨[0,5,6,7],[],[],[]⟩ (.loop k101_1b)))) (sq (.reg [pM 29 0,pE 30 29 29,pB 31 .leq 3 30 6 3,pA 2 31]) .ret)))
def i101:FnI:=⟨32,[(.tmp 2)],c101,0,[[1]],[[0]],false,false,0,false⟩
def k77_1:PC:=(.post (.reg [pF 3 37 1 0,pL 4 3 3,⟨(some 5),(.call { callee:=(.value (.func 91)),args:=#[(.tmp 4),(.const (.int .i64 0)),(.const (.int .i64 2))],argTypes:=#[3,3,3] }),none⟩,pM 6 5,⟨(some 7),(.fieldAddr 37 (.tmp 1) 1),(some (6,true))⟩,⟨(some 8),(.load 29 (.tmp 7)),(some (6,true))⟩,⟨(some 9),(.call { callee:=(.value (.func 98)),args:=#[(.tmp 8)],argTypes:=#[29] }),(some (6,true))⟩,pP 10 6 9,pM 11 10,⟨(some 12),(.fieldAddr 37 (.tmp 1) 2),(some (11,true))⟩,⟨(some 13),(.load 3 (.tmp 12)),(some (11,true))⟩,⟨(some 14),(.call { callee:=(.value (.func 99)),args:=#[(.tmp 13)],argTypes:=#[3] }),(some (11,true))⟩,pP 15 11 14,pM 16 15,⟨(some 17),(.fieldAddr 37 (.tmp 1) 3),(some (16,true))⟩,⟨(some 18),(.load 3 (.tmp 17)),(some (16,true))⟩,⟨(some 19),(.call { callee:=(.value (.func 100)),args:=#[(.tmp 18)],argTypes:=#[3] }),(some (16,true))⟩,pP 20 16 19,pM 21 20,⟨(some 22),(.fieldAddr 37 (.tmp 1) 4),(some (21,true))⟩,⟨(some 23),(.load 3 (.tmp 22)),(some (21,true))⟩,⟨(some 24),(.call { callee:=(.value (.func 100)),args:=#[(.tmp 23)],argTypes:=#[3] }),(some (21,true))⟩,pP 25 21 24,pM 26 25,⟨(some 27),(.fieldAddr 37 (.tmp 1) 5),(some (26,true))⟩,⟨(some 28),(.load 29 (.tmp 27)),(some (26,true))⟩,⟨(some 29),(.call { callee:=(.value (.func 101)),args:=#[(.tmp 28)],argTypes:=#[29] }),(some (26,true))⟩,pP 30 26 29,pA 2 30]) ⟨[2],[],[],[]⟩)
def c77:PC:=(sq (.reg [pX 1 37 0,pN 2 false]) (sq (.pre ⟨[1],[.old 0],[],[]⟩ k77_1) .ret))
def i77:FnI:=⟨31,[(.tmp 2)],c77,0,[[0,1,0,0,0,1]],[[0]],false,false,0,false⟩
def k50_1:PC:=(.post (.reg [pF 3 39 1 0,pL 4 3 3,pC 5 76 4 3,pM 6 5,⟨(some 7),(.fieldAddr 39 (.tmp 1) 1),(some (6,true))⟩,⟨(some 8),(.load 37 (.tmp 7)),(some (6,true))⟩,⟨(some 9),(.call { callee:=(.value (.func 77)),args:=#[(.tmp 8)],argTypes:=#[37] }),(some (6,true))⟩,pP 10 6 9,pA 2 10]) ⟨[2],[],[],[]⟩)
def c50:PC:=(sq (.reg [pX 1 39 0,pN 2 false]) (sq (.pre ⟨[1],[.old 0],[],[]⟩ k50_1) .ret))
def i50:FnI:=⟨11,[(.tmp 2)],c50,0,[[0,0,1,0,0,0,1]],[[0]],false,false,0,false⟩
def k15_3:PC:=(.post (.fz [pL 12 39 4,pC 13 50 12 39,pU 14 4 13,pM 15 14,⟨(some 16),(.move (.tmp 3)),(some (15,false))⟩,⟨(some 17),(.binOp .gtr 3 (.tmp 16) (.const (.int .i64 0)) 3),(some (15,false))⟩,⟨(some 18),(.move (.tmp 17)),(some (15,false))⟩,⟨(some 19),(.fieldAddr 39 (.tmp 4) 0),(some (18,true))⟩,⟨(some 20),(.load 3 (.tmp 19)),(some (18,true))⟩,⟨(some 21),(.move (.tmp 0)),(some (18,true))⟩,⟨(some 22),(.move (.tmp 3)),(some (18,true))⟩,⟨(some 23),(.binOp .sub 3 (.tmp 22) (.const (.int .i64 1)) 3),(some (18,true))⟩,⟨(some 24),(.indexAddr 25 (.tmp 21) (.tmp 23)),(some (18,true))⟩,⟨(some 25),(.fieldAddr 39 (.tmp 24) 0),(some (18,true))⟩,⟨(some 26),(.load 3 (.tmp 25)),(some (18,true))⟩,⟨(some 27),(.binOp .leq 3 (.tmp 20) (.tmp 26) 3),(some (18,true))⟩,⟨(some 28),(.pick (.tmp 18) (.tmp 27) (.const (.bool false))),(some (15,false))⟩,pQ 29 15 28]) ⟨[0,5,6,7,29],[],[],[]⟩)
def k15_1b:PC:=(sq (.reg [pO 8 .lss 3 7 6 3]) (sq (cd 8 .skip (.pre ⟨[],[],[],[]⟩ (.exit 0))) (sq (.block 1 (sq (.reg [pM 9 7,pI 10 25 5 7,pL 11 39 10,pG 4 39,pA 3 9,⟨none,(.store 39 (.tmp 4) (.tmp 11)),none⟩]) (sq (.pre ⟨[0,3,4,5,6,7],[.old 0],[],[]⟩ k15_3) (cd 29 (sq (.reg [pN 2 false]) (.pre ⟨[2],[],[],[]⟩ .ret)) .skip)))) (.post (.reg [pB 30 .add 3 7 1 3,pM 7 30]) ⟨[0,5,6,7],[],[],[]⟩))))
def c15:PC:=(sq (.reg [pN 2 false]) (sq (sq (.reg [pM 5 0,pE 6 5 25,pV 7 0]) (.block 0 (.pre ⟨[0,5,6,7],[],[],[]⟩ (.loop k15_1b)))) (sq (.reg [pN 2 true]) .ret)))
def i15:FnI:=⟨31,[(.tmp 2)],c15,0,[[7]],[[0]],false,false,0,false⟩
def i90:FnI:=⟨4,[(.tmp 2)],.bad,8,[[108]],[],false,false,25,false⟩
def i106:FnI:=⟨5,[(.tmp 2)],.bad,7,[[108]],[],false,false,25,false⟩
def ren106:Go.Shelf.Ren where
 f x:=if x=1 then 108 else if x=2 then 112 else if x=3 then 106 else if x=4 then 90 else x
 t x:=if x=0 then 0 else if x=1 then 39 else if x=2 then 25 else if x=3 then 3 else if x=4 then 4 else if x=5 then 97 else if x=6 then 70 else if x=7 then 96 else x
 g x:=x
theorem colb106 : ColOf Try.prog ren106 := ⟨by kernel_rfl, ⟨"slices.Values[[]loop.example/g00344/impl.Offer,loop.example/g00344/impl.Offer]$1", by decide, by kernel_rfl⟩, ⟨"slices.AppendSeq[[]loop.example/g00344/impl.Offer,loop.example/g00344/impl.Offer]", by decide, by kernel_rfl⟩, ⟨"slices.Collect[loop.example/g00344/impl.Offer]", by decide, by kernel_rfl⟩, by kernel_rfl, by kernel_rfl, by kernel_rfl, by kernel_rfl, (tyChk_ok (t := 25) (ti := ⟨1, 24, false, [.nil], [7], 39, [], .other, false⟩) (by kernel_rfl)).run_sizeOf⟩
theorem prim106:PrimOk Try.prog 106 i106:=col_prim rfl (collOk_of colb106)
def i107:FnI:=⟨14,[],.bad,6,[[7],[0]],[],false,false,25,false⟩
def ren107:Go.Shelf.Ren where
 f x:=if x=6 then 107 else if x=14 then 113 else if x=15 then 114 else if x=20 then 117 else if x=21 then 118 else if x=22 then 119 else if x=23 then 120 else if x=24 then 121 else if x=25 then 122 else if x=26 then 123 else if x=27 then 124 else if x=28 then 125 else if x=29 then 126 else if x=46 then 127 else if x=47 then 128 else if x=48 then 129 else if x=49 then 130 else if x=50 then 131 else if x=57 then 132 else x
 t x:=if x=0 then 0 else if x=3 then 3 else if x=4 then 4 else if x=5 then 5 else if x=9 then 9 else if x=22 then 25 else if x=24 then 39 else if x=25 then 72 else if x=39 then 104 else if x=45 then 115 else if x=46 then 116 else if x=50 then 35 else if x=53 then 122 else if x=55 then 83 else if x=66 then 124 else if x=70 then 128 else if x=76 then 130 else if x=77 then 131 else x
 g x:=x
theorem srl107:Go.Proofs.SlLaysF0.n6 Try.prog ren107:=⟨by kernel_rfl,
 ⟨"slices.SortFunc[[]loop.example/g00344/impl.Offer,loop.example/g00344/impl.Offer]", by decide, by kernel_rfl⟩,
 ⟨"slices.pdqsortCmpFunc[loop.example/g00344/impl.Offer]", by decide, by kernel_rfl⟩,
 by kernel_rfl,
 ⟨"slices.insertionSortCmpFunc[loop.example/g00344/impl.Offer]", by decide, by kernel_rfl⟩,
 ⟨"slices.heapSortCmpFunc[loop.example/g00344/impl.Offer]", by decide, by kernel_rfl⟩,
 ⟨"slices.breakPatternsCmpFunc[loop.example/g00344/impl.Offer]", by decide, by kernel_rfl⟩,
 ⟨"slices.choosePivotCmpFunc[loop.example/g00344/impl.Offer]", by decide, by kernel_rfl⟩,
 ⟨"slices.reverseRangeCmpFunc[loop.example/g00344/impl.Offer]", by decide, by kernel_rfl⟩,
 ⟨"slices.partialInsertionSortCmpFunc[loop.example/g00344/impl.Offer]", by decide, by kernel_rfl⟩,
 ⟨"slices.partitionEqualCmpFunc[loop.example/g00344/impl.Offer]", by decide, by kernel_rfl⟩,
 ⟨"slices.partitionCmpFunc[loop.example/g00344/impl.Offer]", by decide, by kernel_rfl⟩,
 by kernel_rfl,
 by kernel_rfl,
 ⟨"slices.siftDownCmpFunc[loop.example/g00344/impl.Offer]", by decide, by kernel_rfl⟩,
 by kernel_rfl,
 by kernel_rfl,
 ⟨"slices.medianAdjacentCmpFunc[loop.example/g00344/impl.Offer]", by decide, by kernel_rfl⟩,
 ⟨"slices.medianCmpFunc[loop.example/g00344/impl.Offer]", by decide, by kernel_rfl⟩,
 ⟨"slices.order2CmpFunc[loop.example/g00344/impl.Offer]", by decide, by kernel_rfl⟩,
 by kernel_rfl,
 agg_ofM (t:=ren107.t 0) (by kernel_rfl),
 size_ofS (t:=ren107.t 0) (by kernel_rfl),
 zero_ofS (t:=ren107.t 0) (by kernel_rfl),
 by kernel_rfl,
 agg_ofM (t:=ren107.t 3) (by kernel_rfl),
 size_ofS (t:=ren107.t 3) (by kernel_rfl),
 zero_ofS (t:=ren107.t 3) (by kernel_rfl),
 by kernel_rfl,
 agg_ofM (t:=ren107.t 4) (by kernel_rfl),
 size_ofS (t:=ren107.t 4) (by kernel_rfl),
 zero_ofS (t:=ren107.t 4) (by kernel_rfl),
 by kernel_rfl,
 agg_ofM (t:=ren107.t 5) (by kernel_rfl),
 size_ofS (t:=ren107.t 5) (by kernel_rfl),
 zero_ofS (t:=ren107.t 5) (by kernel_rfl),
 by kernel_rfl,
 agg_ofM (t:=ren107.t 9) (by kernel_rfl),
 size_ofS (t:=ren107.t 9) (by kernel_rfl),
 zero_ofS (t:=ren107.t 9) (by kernel_rfl),
 by kernel_rfl,
 agg_ofM (t:=ren107.t 22) (by kernel_rfl),
 size_ofS (t:=ren107.t 22) (by kernel_rfl),
 zero_ofS (t:=ren107.t 22) (by kernel_rfl),
 by kernel_rfl,
 agg_ofM (t:=ren107.t 25) (by kernel_rfl),
 size_ofS (t:=ren107.t 25) (by kernel_rfl),
 zero_ofS (t:=ren107.t 25) (by kernel_rfl),
 by kernel_rfl,
 agg_ofM (t:=ren107.t 39) (by kernel_rfl),
 size_ofS (t:=ren107.t 39) (by kernel_rfl),
 zero_ofS (t:=ren107.t 39) (by kernel_rfl),
 by kernel_rfl,
 agg_ofM (t:=ren107.t 45) (by kernel_rfl),
 size_ofS (t:=ren107.t 45) (by kernel_rfl),
 zero_ofS (t:=ren107.t 45) (by kernel_rfl),
 by kernel_rfl,
 agg_ofM (t:=ren107.t 46) (by kernel_rfl),
 size_ofS (t:=ren107.t 46) (by kernel_rfl),
 zero_ofS (t:=ren107.t 46) (by kernel_rfl),
 by kernel_rfl,
 agg_ofM (t:=ren107.t 50) (by kernel_rfl),
 size_ofS (t:=ren107.t 50) (by kernel_rfl),
 zero_ofS (t:=ren107.t 50) (by kernel_rfl),
 by kernel_rfl,
 agg_ofM (t:=ren107.t 53) (by kernel_rfl),
 size_ofS (t:=ren107.t 53) (by kernel_rfl),
 zero_ofS (t:=ren107.t 53) (by kernel_rfl),
 by kernel_rfl,
 agg_ofM (t:=ren107.t 55) (by kernel_rfl),
 size_ofS (t:=ren107.t 55) (by kernel_rfl),
 zero_ofS (t:=ren107.t 55) (by kernel_rfl),
 by kernel_rfl,
 agg_ofM (t:=ren107.t 66) (by kernel_rfl),
 size_ofS (t:=ren107.t 66) (by kernel_rfl),
 zero_ofS (t:=ren107.t 66) (by kernel_rfl),
 by kernel_rfl,
 agg_ofM (t:=ren107.t 70) (by kernel_rfl),
 size_ofS (t:=ren107.t 70) (by kernel_rfl),
 zero_ofS (t:=ren107.t 70) (by kernel_rfl),
 by kernel_rfl,
 agg_ofM (t:=ren107.t 76) (by kernel_rfl),
 size_ofS (t:=ren107.t 76) (by kernel_rfl),
 zero_ofS (t:=ren107.t 76) (by kernel_rfl),
 by kernel_rfl,
 agg_ofM (t:=ren107.t 77) (by kernel_rfl),
 size_ofS (t:=ren107.t 77) (by kernel_rfl),
 zero_ofS (t:=ren107.t 77) (by kernel_rfl)⟩
theorem prim107:PrimOk Try.prog 107 i107:=srt_prim rfl (srtOk_Q srl107 (by kernel_rfl))
def c102:PC:=(sq (.reg [pN 2 false]) (sq (.reg [pM 3 0,pM 4 0,pO 5 .neq 3 3 4 3,pA 2 5]) .ret))
def i102:FnI:=⟨6,[(.tmp 2)],c102,0,[[0]],[[0]],false,false,0,false⟩
def c82:PC:=(sq (.reg [pK 4 0]) (sq (.reg [pM 7 0,pC 8 102 7 3,pA 5 8]) (sq (.reg [pM 9 1,pC 10 102 9 3,pA 6 10]) (sq (sq (.reg [pM 11 5]) (cd 11 (sq (sq (.reg [pM 12 6]) (cd 12 (sq (.reg [pK 4 0]) .ret) .skip)) (sq (.reg [pK 4 (-1)]) .ret)) .skip)) (sq (sq (.reg [pM 13 6]) (cd 13 (sq (.reg [pK 4 1]) .ret) .skip)) (sq (sq (.reg [pM 14 0,pM 15 1,pO 16 .lss 3 14 15 3]) (cd 16 (sq (.reg [pK 4 (-1)]) .ret) .skip)) (sq (sq (.reg [pM 17 0,pM 18 1,pO 19 .gtr 3 17 18 3]) (cd 19 (sq (.reg [pK 4 1]) .ret) .skip)) (sq (.reg [pK 4 0]) .ret))))))))
def i82:FnI:=⟨20,[(.tmp 4)],c82,0,[[0],[0]],[[0]],false,false,0,false⟩
def k81_1b:PC:=(sq (.reg [pO 9 .lss 3 8 7 3]) (sq (cd 9 .skip (.pre ⟨[3],[],[],[]⟩ (.exit 0))) (sq (.block 1 (sq (.reg [pI 10 29 6 8,pL 11 3 10,pA 5 11]) (sq (.reg [pM 12 5,pM 13 3,pO 14 .neq 3 12 13 3]) (cd 14 (sq (.reg [pM 15 5,pA 2 15]) (.pre ⟨[2],[],[],[]⟩ .ret)) .skip)))) (.post (.reg [pB 16 .add 3 8 1 3,pM 8 16]) ⟨[3,6,7,8],[],[],[]⟩))))
def c81:PC:=(sq (.reg [pK 2 0]) (sq (.reg [pK 3 0]) (sq (sq (.reg [pM 6 0,pE 7 6 29,pV 8 0]) (.block 0 (.pre ⟨[3,6,7,8],[],[],[]⟩ (.loop k81_1b)))) (sq (.reg [pM 17 3,pA 2 17]) .ret))))
def i81:FnI:=⟨18,[(.tmp 2)],c81,0,[[1]],[[0]],false,false,0,false⟩
@[go_sem] def x54_3:FxI:=⟨[4,5,6,7],[none,none,none,none,some 0,some 1,none,none],2,[[],[4],[4,5],[4,5,6],[4,5,6,7],[5]],[(0,5)],[(1,1,1),(1,2,2),(1,5,5),(3,1,1),(3,2,2),(3,3,3),(3,5,5),(4,5,2),(5,0,5)]⟩
@[go_sem] def x54_4:FxI:=⟨[4,11,16,21,26,31,32,33],[none,none,none,none,none,none,none,none,none,none,none,none,none,none,none,none,none,none,none,none,none,none,none,none,none,none,none,none,none,none,none,none,none,none,none],0,[[],[4],[4,11],[4,11,16],[4,11,16,21],[4,11,16,21,26],[4,11,16,21,26,31],[4,11,16,21,26,31,32],[4,11,16,21,26,31,32,33]],[],[(6,0,0),(7,0,0),(9,0,0),(10,0,0),(13,0,0),(13,1,1),(15,0,0),(15,1,1),(18,0,0),(18,1,1),(18,2,2),(20,0,0),(20,1,1),(20,2,2),(23,0,0),(23,1,1),(23,2,2),(23,3,3),(25,0,0),(25,1,1),(25,2,2),(25,3,3),(28,0,0),(28,1,1),(28,2,2),(28,3,3),(28,4,4),(30,0,0),(30,1,1),(30,2,2),(30,3,3),(30,4,4)]⟩
def c54:PC:=(sq (.reg [pX 2 39 0,pX 3 39 1,pK 4 0]) (sq (sq (.reg [pF 7 39 2 0,pL 8 3 7,pF 9 39 3 0,pL 10 3 9,pO 11 .eql 3 8 10 3]) (cd 11 (sq (.reg [pK 4 0]) .ret) .skip)) (sq (.fx [pF 12 39 2 1,pL 13 37 12,pF 14 39 3 1,pL 15 37 14,pG 5 37,pG 6 37,⟨none,(.store 37 (.tmp 5) (.tmp 13)),none⟩,⟨none,(.store 37 (.tmp 6) (.tmp 15)),none⟩] x54_3) (sq (.fx [pF 16 37 6 4,pL 17 3 16,pF 18 37 5 4,pL 19 3 18,pC2 20 82 17 19 3 3,pF 21 37 5 1,pL 22 29 21,pE 23 22 29,pF 24 37 6 1,pL 25 29 24,pE 26 25 29,pC2 27 82 23 26 3 3,pF 28 37 5 0,pL 29 3 28,pF 30 37 6 0,pL 31 3 30,pC2 32 82 29 31 3 3,pF 33 37 5 3,pL 34 3 33,pF 35 37 6 3,pL 36 3 35,pC2 37 82 34 36 3 3,pF 38 37 5 2,pL 39 3 38,pF 40 37 6 2,pL 41 3 40,pC2 42 82 39 41 3 3,pF 43 39 2 0,pL 44 3 43,pF 45 39 3 0,pL 46 3 45,pC2 47 82 44 46 3 3,⟨(some 48),(.buildSlice 29 6 #[(0,(.tmp 20)),(1,(.tmp 27)),(2,(.tmp 32)),(3,(.tmp 37)),(4,(.tmp 42)),(5,(.tmp 47))]),none⟩,pC 49 81 48 29,pA 4 49] x54_4) .ret))))
def i54:FnI:=⟨50,[(.tmp 4)],c54,0,[[0,0,1,0,0,0,1],[0,0,1,0,0,0,1]],[[0]],false,false,0,false⟩
def c89:PC:=(sq (.reg [pS 4]) (sq (.reg [pM 6 0,pC 7 106 6 97,pA 5 7]) (sq (.reg [pM 8 5,pM 9 1,pC2 10 107 8 9 25 72]) (sq (.reg [pM 11 5,pA 4 11]) .ret))))
def i89:FnI:=⟨12,[(.tmp 4)],c89,0,[[0],[0]],[[7]],true,false,0,false⟩
def k64_1b:PC:=(sq (.reg [pO 12 .lss 3 11 10 3]) (sq (cd 12 .skip (.pre ⟨[3],[.old 0],[],[]⟩ (.exit 0))) (sq (.block 1 (sq (.reg [pI 13 25 9 11,pL 14 39 13,pG 5 39,⟨none,(.store 39 (.tmp 5) (.tmp 14)),none⟩]) (.reg [pM 15 3,pF 16 39 5 0,pL 17 3 16,⟨(some 18),(.buildSlice 29 1 #[(0,(.tmp 17))]),none⟩,⟨(some 19),(.call { callee:=(.builtin .append),args:=#[(.tmp 15),(.tmp 18)],argTypes:=#[29,29] }),none⟩,pA 3 19]))) (.post (.reg [pB 20 .add 3 11 1 3,pM 11 20]) ⟨[3,9,10,11],[.old 3],[],[]⟩))))
def c64:PC:=(sq (.reg [pS 2]) (sq (.reg [⟨(some 6),(.buildSlice 29 0 #[]),none⟩,pA 3 6]) (sq (sq (.reg [pM 7 0,pC 8 90 7 25,⟨(some 9),(.call { callee:=(.value (.func 89)),args:=#[(.tmp 8),(.func 54)],argTypes:=#[97,72] }),none⟩,pE 10 9 25,pV 11 0]) (.block 0 (.pre ⟨[3,9,10,11],[.old 0],[],[]⟩ (.loop k64_1b)))) (sq (.reg [pM 21 3,pA 2 21]) .ret))))
def i64:FnI:=⟨22,[(.tmp 2)],c64,0,[[7]],[[1]],false,false,0,false⟩
def c32:PC:=(sq (.reg [pS 2,pN 3 false]) (sq (sq (.reg [pM 4 0,pC 5 15 4 25,pU 6 4 5]) (cd 6 (sq (.reg [pS 2,pN 3 false]) .ret) .skip)) (sq (.reg [pM 7 0,pC 8 64 7 25,pA 2 8,pN 3 true]) .ret)))
def i32:FnI:=⟨9,[(.tmp 2),(.tmp 3)],c32,0,[[7]],[[1],[0]],false,false,0,false⟩
def k33_1b:PC:=(sq (sq (.reg [pM 11 5,pM 12 0,pE 13 12 29,pO 14 .lss 3 11 13 3]) (cd 14 .skip (.pre ⟨[],[],[],[]⟩ (.exit 0)))) (sq (.block 1 (sq (.fz [pM 17 0,pM 18 5,pI 19 29 17 18,pL 20 3 19,pM 21 1,pM 22 5,pI 23 29 21 22,pL 24 3 23,pO 25 .neq 3 20 24 3]) (cd 25 (sq (.reg [pN 4 false]) (.pre ⟨[4],[],[],[]⟩ .ret)) .skip))) (.post (.reg [pM 15 5,pB 16 .add 3 15 1 3,pA 5 16]) ⟨[0,1,5],[],[],[]⟩)))
def c33:PC:=(sq (.reg [pN 4 false]) (sq (sq (.reg [pM 6 0,pE 7 6 29,pM 8 1,pE 9 8 29,pO 10 .neq 3 7 9 3]) (cd 10 (sq (.reg [pN 4 false]) .ret) .skip)) (sq (sq (.reg [pK 5 0]) (.block 0 (.pre ⟨[0,1,5],[],[],[]⟩ (.loop k33_1b)))) (sq (.reg [pN 4 true]) .ret))))
def i33:FnI:=⟨26,[(.tmp 4)],c33,0,[[1],[1]],[[0]],false,false,0,false⟩
def c55:PC:=(sq (.reg [pX 2 37 0,pX 3 37 1,pN 4 false]) (sq (sq (.reg [pF 5 37 2 0,pL 6 3 5,pF 7 37 3 0,pL 8 3 7,pO 9 .neq 3 6 8 3]) (cd 9 (sq (.reg [pN 4 false]) .ret) .skip)) (sq (sq (.reg [pF 10 37 2 1,pL 11 29 10,pF 12 37 3 1,pL 13 29 12,pC2 14 33 11 13 29 29,pU 15 4 14]) (cd 15 (sq (.reg [pN 4 false]) .ret) .skip)) (sq (sq (.reg [pF 16 37 2 2,pL 17 3 16,pF 18 37 3 2,pL 19 3 18,pO 20 .neq 3 17 19 3]) (cd 20 (sq (.reg [pN 4 false]) .ret) .skip)) (sq (sq (.reg [pF 21 37 2 3,pL 22 3 21,pF 23 37 3 3,pL 24 3 23,pO 25 .neq 3 22 24 3]) (cd 25 (sq (.reg [pN 4 false]) .ret) .skip)) (sq (sq (.reg [pF 26 37 2 4,pL 27 3 26,pF 28 37 3 4,pL 29 3 28,pO 30 .neq 3 27 29 3]) (cd 30 (sq (.reg [pN 4 false]) .ret) .skip)) (sq (sq (.reg [pF 31 37 2 5,pL 32 29 31,pF 33 37 3 5,pL 34 29 33,pC2 35 33 32 34 29 29,pU 36 4 35]) (cd 36 (sq (.reg [pN 4 false]) .ret) .skip)) (sq (.reg [pN 4 true]) .ret))))))))
def i55:FnI:=⟨37,[(.tmp 4)],c55,0,[[0,1,0,0,0,1],[0,1,0,0,0,1]],[[0]],false,false,0,false⟩
def c21:PC:=(sq (.reg [pX 2 39 0,pX 3 39 1,pN 4 false]) (sq (sq (.reg [pF 5 39 2 0,pL 6 3 5,pF 7 39 3 0,pL 8 3 7,pO 9 .neq 3 6 8 3]) (cd 9 (sq (.reg [pN 4 false]) .ret) .skip)) (sq (sq (.reg [pF 10 39 2 1,pL 11 37 10,pF 12 39 3 1,pL 13 37 12,pC2 14 55 11 13 37 37,pU 15 4 14]) (cd 15 (sq (.reg [pN 4 false]) .ret) .skip)) (sq (.reg [pN 4 true]) .ret))))
def i21:FnI:=⟨16,[(.tmp 4)],c21,0,[[0,0,1,0,0,0,1],[0,0,1,0,0,0,1]],[[0]],false,false,0,false⟩
def k16_1b:PC:=(sq (sq (.reg [pM 11 5,pM 12 0,pE 13 12 25,pO 14 .lss 3 11 13 3]) (cd 14 .skip (.pre ⟨[],[],[],[]⟩ (.exit 0)))) (sq (.block 1 (sq (.fz [pM 17 0,pM 18 5,pI 19 25 17 18,pL 20 39 19,pM 21 1,pM 22 5,pI 23 25 21 22,pL 24 39 23,pC2 25 21 20 24 39 39,pU 26 4 25]) (cd 26 (sq (.reg [pN 4 false]) (.pre ⟨[4],[],[],[]⟩ .ret)) .skip))) (.post (.reg [pM 15 5,pB 16 .add 3 15 1 3,pA 5 16]) ⟨[0,1,5],[],[],[]⟩)))
def c16:PC:=(sq (.reg [pN 4 false]) (sq (sq (.reg [pM 6 0,pE 7 6 25,pM 8 1,pE 9 8 25,pO 10 .neq 3 7 9 3]) (cd 10 (sq (.reg [pN 4 false]) .ret) .skip)) (sq (sq (.reg [pK 5 0]) (.block 0 (.pre ⟨[0,1,5],[],[],[]⟩ (.loop k16_1b)))) (sq (.reg [pN 4 true]) .ret))))
def i16:FnI:=⟨27,[(.tmp 4)],c16,0,[[7],[7]],[[0]],false,false,0,false⟩
def k34_1b:PC:=(sq (sq (.reg [pM 6 5,pM 7 0,pE 8 7 29,pO 9 .lss 3 6 8 3]) (cd 9 .skip (.pre ⟨[1],[],[],[]⟩ (.exit 0)))) (sq (.block 1 (sq (.reg [pM 12 0,pM 13 5,pM 14 1,pI 15 29 12 13,⟨none,(.store 3 (.tmp 15) (.tmp 14)),none⟩]) (.reg [pM 16 1,pB 17 .add 3 16 1 3,pA 1 17]))) (.post (.reg [pM 10 5,pB 11 .add 3 10 1 3,pA 5 11]) ⟨[0,1,5],[],[],[]⟩)))
def c34:PC:=(sq (.reg [pK 4 0]) (sq (sq (.reg [pK 5 0]) (.block 0 (.pre ⟨[0,1,5],[],[],[]⟩ (.loop k34_1b)))) (sq (.reg [pM 18 1,pA 4 18]) (.pre ⟨[4],[],[],[]⟩ .ret))))
def i34:FnI:=⟨19,[(.tmp 4)],c34,3,[[1],[0]],[[0]],false,true,1,false⟩
def k24_1b:PC:=(sq (sq (.reg [pM 6 5,pM 7 0,pE 8 7 25,pO 9 .lss 3 6 8 3]) (cd 9 .skip (.pre ⟨[1],[],[],[]⟩ (.exit 0)))) (sq (.block 1 (sq (.reg [pM 12 0,pM 13 5,pM 14 1,pI 15 25 12 13,pF 16 39 15 0,⟨none,(.store 3 (.tmp 16) (.tmp 14)),none⟩]) (sq (.reg [pM 17 1,pB 18 .add 3 17 1 3,pA 1 18]) (sq (.reg [pM 19 0,pM 20 5,pM 21 1,pI 22 25 19 20,pF 23 39 22 1,pF 24 37 23 0,⟨none,(.store 3 (.tmp 24) (.tmp 21)),none⟩]) (sq (.reg [pM 25 1,pB 26 .add 3 25 1 3,pA 1 26]) (sq (.nest [pM 27 0,pM 28 5,pI 29 25 27 28,pF 30 39 29 1,pF 31 37 30 1,pL 32 29 31,pM 33 1,pC2 34 34 32 33 29 3,pA 1 34] 5 2) (sq (.reg [pM 35 0,pM 36 5,pM 37 1,pI 38 25 35 36,pF 39 39 38 1,pF 40 37 39 2,⟨none,(.store 3 (.tmp 40) (.tmp 37)),none⟩]) (sq (.reg [pM 41 1,pB 42 .add 3 41 1 3,pA 1 42]) (sq (.reg [pM 43 0,pM 44 5,pM 45 1,pI 46 25 43 44,pF 47 39 46 1,pF 48 37 47 3,⟨none,(.store 3 (.tmp 48) (.tmp 45)),none⟩]) (sq (.reg [pM 49 1,pB 50 .add 3 49 1 3,pA 1 50]) (sq (.reg [pM 51 0,pM 52 5,pM 53 1,pI 54 25 51 52,pF 55 39 54 1,pF 56 37 55 4,⟨none,(.store 3 (.tmp 56) (.tmp 53)),none⟩]) (sq (.reg [pM 57 1,pB 58 .add 3 57 1 3,pA 1 58]) (.nest [pM 59 0,pM 60 5,pI 61 25 59 60,pF 62 39 61 1,pF 63 37 62 5,pL 64 29 63,pM 65 1,pC2 66 34 64 65 29 3,pA 1 66] 5 2))))))))))))) (.post (.reg [pM 10 5,pB 11 .add 3 10 1 3,pA 5 11]) ⟨[0,1,5],[],[],[]⟩)))
def c24:PC:=(sq (.reg [pK 4 0]) (sq (sq (.reg [pK 5 0]) (.block 0 (.pre ⟨[0,1,5],[],[],[]⟩ (.loop k24_1b)))) (sq (.reg [pM 67 1,pA 4 67]) (.pre ⟨[4],[],[],[]⟩ .ret))))
def i24:FnI:=⟨68,[(.tmp 4)],c24,3,[[7],[0]],[[0]],false,true,1,true⟩
def k35_1b:PC:=(sq (sq (.reg [pM 6 5,pM 7 0,pE 8 7 29,pO 9 .lss 3 6 8 3]) (cd 9 .skip (.pre ⟨[1],[],[],[]⟩ (.exit 0)))) (sq (.block 1 (sq (sq (.reg [pM 12 0,pM 13 5,pI 14 29 12 13,pL 15 3 14,pM 16 1,pO 17 .neq 3 15 16 3]) (cd 17 (sq (.reg [pK 4 (-1)]) (.pre ⟨[4],[],[],[]⟩ .ret)) .skip)) (.reg [pM 18 1,pB 19 .add 3 18 1 3,pA 1 19]))) (.post (.reg [pM 10 5,pB 11 .add 3 10 1 3,pA 5 11]) ⟨[0,1,5],[],[],[]⟩)))
def c35:PC:=(sq (.reg [pK 4 0]) (sq (sq (.reg [pK 5 0]) (.block 0 (.pre ⟨[0,1,5],[],[],[]⟩ (.loop k35_1b)))) (sq (.reg [pM 20 1,pA 4 20]) .ret)))
def i35:FnI:=⟨21,[(.tmp 4)],c35,0,[[1],[0]],[[0]],false,false,0,false⟩
def k8_1:PC:=(.post (.reg [pM 32 7,pM 33 4,pC2 34 33 32 33 29 29,pU 35 4 34,pM 36 35,⟨(some 37),(.move (.tmp 8)),(some (36,false))⟩,⟨(some 38),(.move (.tmp 5)),(some (36,false))⟩,⟨(some 39),(.binOp .neq 4 (.tmp 37) (.tmp 38) 4),(some (36,false))⟩,pQ 40 36 39]) ⟨[0,4,5,6,7,8,40],[.old 0,.old 1,.old 2],[],[]⟩)
def k8_2:PC:=(.post (.reg [pM 49 9,pB 50 .lss 3 49 0 3,pM 51 50,⟨(some 52),(.move (.tmp 7)),(some (51,false))⟩,⟨(some 53),(.move (.tmp 4)),(some (51,false))⟩,⟨(some 54),(.call { callee:=(.value (.func 33)),args:=#[(.tmp 52),(.tmp 53)],argTypes:=#[29,29] }),(some (51,false))⟩,⟨(some 55),(.unOp .not 4 (.tmp 54)),(some (51,false))⟩,pQ 56 51 55,pM 57 56,⟨(some 58),(.move (.tmp 8)),(some (57,false))⟩,⟨(some 59),(.move (.tmp 5)),(some (57,false))⟩,⟨(some 60),(.binOp .neq 4 (.tmp 58) (.tmp 59) 4),(some (57,false))⟩,pQ 61 57 60]) ⟨[0,4,5,7,61],[.old 0,.old 1],[],[]⟩)
def k8_3:PC:=(.post (.reg [pM 79 12,pM 80 4,pC2 81 33 79 80 29 29,pU 82 4 81,pM 83 82,⟨(some 84),(.move (.tmp 13)),(some (83,false))⟩,⟨(some 85),(.move (.tmp 5)),(some (83,false))⟩,⟨(some 86),(.binOp .neq 4 (.tmp 84) (.tmp 85) 4),(some (83,false))⟩,pQ 87 83 86]) ⟨[7,10,87],[.old 1],[],[]⟩)
def c8:PC:=(sq (.reg [pN 2 false]) (sq (.reg [pK 3 1048576]) (sq (.reg [pM 14 0,pM 15 3,pC2 16 12 14 15 22 3,pA 3 16]) (sq (sq (.reg [pM 17 3,pB 18 .lss 3 17 0 3]) (cd 18 (sq (.reg [pN 2 true]) .ret) .skip)) (sq (.reg [pM 20 0,pC 21 14 20 22,pC 22 31 21 25,pM 19 22,pT 23 19 0,pT 24 19 1,pA 4 23,pA 5 24]) (sq (.reg [pM 25 0,pC 26 14 25 22,pA 6 26]) (sq (.reg [pM 28 6,pC 29 32 28 25,pM 27 29,pT 30 27 0,pT 31 27 1,pA 7 30,pA 8 31]) (sq (sq (.pre ⟨[0,4,5,6,7,8],[.old 1,.old 2,.old 3],[],[]⟩ k8_1) (cd 40 (sq (.reg [pN 2 false]) .ret) .skip)) (sq (sq (.reg [pM 41 6,pM 42 0,pC 43 14 42 22,pC2 44 16 41 43 25 25,pU 45 4 44]) (cd 45 (sq (.reg [pN 2 false]) .ret) .skip)) (sq (.reg [pK 9 1]) (sq (.reg [pM 46 6,pM 47 9,pC2 48 24 46 47 25 3,pA 9 48]) (sq (sq (.pre ⟨[0,4,5,7,8,9],[.old 0,.old 2],[],[]⟩ k8_2) (cd 61 (sq (.reg [pN 2 false]) .ret) .skip)) (sq (.reg [pK 10 1]) (sq (.reg [pM 62 7,pM 63 10,pC2 64 34 62 63 29 3,pA 10 64]) (sq (.reg [pK 11 1]) (sq (.reg [pM 65 7,pM 66 11,pC2 67 35 65 66 29 3,pA 11 67]) (sq (sq (.reg [pM 68 11,pB 69 .lss 3 68 0 3]) (cd 69 (sq (.reg [pN 2 false]) .ret) .skip)) (sq (sq (.reg [pM 70 11,pM 71 10,pO 72 .neq 3 70 71 3]) (cd 72 (sq (.reg [pN 2 false]) .ret) .skip)) (sq (.reg [pM 74 0,pC 75 14 74 22,pC 76 32 75 25,pM 73 76,pT 77 73 0,pT 78 73 1,pA 12 77,pA 13 78]) (sq (sq (.pre ⟨[4,5,7,10,12,13],[.old 0,.old 1,.old 3],[],[]⟩ k8_3) (cd 87 (sq (.reg [pN 2 false]) .ret) .skip)) (sq (.reg [pK 11 1]) (sq (.reg [pM 88 7,pM 89 11,pC2 90 35 88 89 29 3,pA 11 90]) (sq (sq (.reg [pM 91 11,pB 92 .lss 3 91 0 3]) (cd 92 .bad .skip)) (sq (sq (.reg [pM 93 11,pM 94 10,pO 95 .neq 3 93 94 3]) (cd 95 .bad .skip)) (sq (.reg [pN 2 true]) .ret)))))))))))))))))))))))))
def i8:FnI:=⟨96,[(.tmp 2)],c8,0,[[7]],[[0]],false,false,0,true⟩
theorem valb90 : ValOf Try.prog ren106 := ⟨by kernel_rfl, ⟨"slices.Values[[]loop.example/g00344/impl.Offer,loop.example/g00344/impl.Offer]", by decide, by kernel_rfl⟩, by kernel_rfl, colb106.z2⟩
theorem prim90:PrimOk Try.prog 90 i90:=val_prim rfl (valsOk_of valb90)
def tys:List (Nat×TyI):=[(3,⟨1,8,false,[.int .i64 0],[0],0,[],.int .i64,false⟩),
 (4,⟨1,1,false,[.bool false],[0],0,[],.bool,false⟩),
 (22,⟨1,24,false,[.nil],[7],33,[],.other,false⟩),
 (25,⟨1,24,false,[.nil],[7],39,[],.other,false⟩),
 (29,⟨1,24,false,[.nil],[1],3,[],.other,false⟩),
 (31,⟨6,80,true,[.int .i64 0,.nil,.int .i64 0,.int .i64 0,.int .i64 0,.nil],[0,1,0,0,0,1],0,[(0,1,false),(1,1,false),(2,1,false),(3,1,false),(4,1,false),(5,1,false)],.other,false⟩),
 (33,⟨7,88,true,[.int .i64 0,.int .i64 0,.nil,.int .i64 0,.int .i64 0,.int .i64 0,.nil],[0,0,1,0,0,0,1],0,[(0,1,false),(1,6,true)],.other,false⟩),
 (37,⟨6,80,true,[.int .i64 0,.nil,.int .i64 0,.int .i64 0,.int .i64 0,.nil],[0,1,0,0,0,1],0,[(0,1,false),(1,1,false),(2,1,false),(3,1,false),(4,1,false),(5,1,false)],.other,false⟩),
 (39,⟨7,88,true,[.int .i64 0,.int .i64 0,.nil,.int .i64 0,.int .i64 0,.int .i64 0,.nil],[0,0,1,0,0,0,1],0,[(0,1,false),(1,6,true)],.other,false⟩),
 (104,⟨1,8,false,[.int .u64 0],[0],0,[],.int .u64,false⟩)]
def fns:List (Nat×FnI):=[(8,i8),(12,i12),(13,i13),(14,i14),(15,i15),(16,i16),(17,i17),(19,i19),(21,i21),(24,i24),(31,i31),(32,i32),(33,i33),(34,i34),(35,i35),(48,i48),(49,i49),(50,i50),(51,i51),(52,i52),(53,i53),(54,i54),(55,i55),(63,i63),(64,i64),(66,i66),(75,i75),(76,i76),(77,i77),(78,i78),(79,i79),(80,i80),(81,i81),(82,i82),(89,i89),(90,i90),(91,i91),(98,i98),(99,i99),(100,i100),(101,i101),(102,i102),(106,i106),(107,i107),(109,i109),(110,i110),(115,i115)]
def T:Tab:=mkTab tys fns
theorem soft0:T.soft=false:=rfl
theorem ty3:T.ty 3=some ⟨1,8,false,[.int .i64 0],[0],0,[],.int .i64,false⟩:=rfl
theorem base3:T.baseOf 3=Bs.int .i64:=rfl
theorem ty4:T.ty 4=some ⟨1,1,false,[.bool false],[0],0,[],.bool,false⟩:=rfl
theorem base4:T.baseOf 4=Bs.bool:=rfl
theorem ty22:T.ty 22=some ⟨1,24,false,[.nil],[7],33,[],.other,false⟩:=rfl
theorem base22:T.baseOf 22=Bs.other:=rfl
theorem elem22:T.elemOf 22=some ⟨7,88,true,[.int .i64 0,.int .i64 0,.nil,.int .i64 0,.int .i64 0,.int .i64 0,.nil],[0,0,1,0,0,0,1],0,[(0,1,false),(1,6,true)],.other,false⟩:=rfl
theorem ty25:T.ty 25=some ⟨1,24,false,[.nil],[7],39,[],.other,false⟩:=rfl
theorem base25:T.baseOf 25=Bs.other:=rfl
theorem elem25:T.elemOf 25=some ⟨7,88,true,[.int .i64 0,.int .i64 0,.nil,.int .i64 0,.int .i64 0,.int .i64 0,.nil],[0,0,1,0,0,0,1],0,[(0,1,false),(1,6,true)],.other,false⟩:=rfl
theorem ty29:T.ty 29=some ⟨1,24,false,[.nil],[1],3,[],.other,false⟩:=rfl
theorem base29:T.baseOf 29=Bs.other:=rfl
theorem elem29:T.elemOf 29=some ⟨1,8,false,[.int .i64 0],[0],0,[],.int .i64,false⟩:=rfl
theorem ty31:T.ty 31=some ⟨6,80,true,[.int .i64 0,.nil,.int .i64 0,.int .i64 0,.int .i64 0,.nil],[0,1,0,0,0,1],0,[(0,1,false),(1,1,false),(2,1,false),(3,1,false),(4,1,false),(5,1,false)],.other,false⟩:=rfl
theorem base31:T.baseOf 31=Bs.other:=rfl
theorem ty33:T.ty 33=some ⟨7,88,true,[.int .i64 0,.int .i64 0,.nil,.int .i64 0,.int .i64 0,.int .i64 0,.nil],[0,0,1,0,0,0,1],0,[(0,1,false),(1,6,true)],.other,false⟩:=rfl
theorem base33:T.baseOf 33=Bs.other:=rfl
theorem ty37:T.ty 37=some ⟨6,80,true,[.int .i64 0,.nil,.int .i64 0,.int .i64 0,.int .i64 0,.nil],[0,1,0,0,0,1],0,[(0,1,false),(1,1,false),(2,1,false),(3,1,false),(4,1,false),(5,1,false)],.other,false⟩:=rfl
theorem base37:T.baseOf 37=Bs.other:=rfl
theorem ty39:T.ty 39=some ⟨7,88,true,[.int .i64 0,.int .i64 0,.nil,.int .i64 0,.int .i64 0,.int .i64 0,.nil],[0,0,1,0,0,0,1],0,[(0,1,false),(1,6,true)],.other,false⟩:=rfl
theorem base39:T.baseOf 39=Bs.other:=rfl
theorem ty104:T.ty 104=some ⟨1,8,false,[.int .u64 0],[0],0,[],.int .u64,false⟩:=rfl
theorem base104:T.baseOf 104=Bs.int .u64:=rfl
attribute [go_sem] soft0 ty3 base3 ty4 base4 ty22 base22 elem22 ty25 base25 elem25 ty29 base29 elem29 ty31 base31 ty33 base33 ty37 base37 ty39 base39 ty104 base104
theorem ok8:FnOk Try.prog (8,i8):=⟨Try.f8,_,Try.func8,rfl,by kernel_rfl,rfl,rfl,by kernel_rfl⟩
theorem ok12:FnOk Try.prog (12,i12):=⟨Try.f12,_,Try.func12,rfl,by kernel_rfl,rfl,rfl,by kernel_rfl⟩
theorem ok13:FnOk Try.prog (13,i13):=⟨Try.f13,_,Try.func13,rfl,by kernel_rfl,rfl,rfl,by kernel_rfl⟩
theorem ok14:FnOk Try.prog (14,i14):=⟨Try.f14,_,Try.func14,rfl,by kernel_rfl,rfl,rfl,by kernel_rfl⟩
theorem ok15:FnOk Try.prog (15,i15):=⟨Try.f15,_,Try.func15,rfl,by kernel_rfl,rfl,rfl,by kernel_rfl⟩
theorem ok16:FnOk Try.prog (16,i16):=⟨Try.f16,_,Try.func16,rfl,by kernel_rfl,rfl,rfl,by kernel_rfl⟩
theorem ok17:FnOk Try.prog (17,i17):=⟨Try.f17,_,Try.func17,rfl,by kernel_rfl,rfl,rfl,by kernel_rfl⟩
theorem ok19:FnOk Try.prog (19,i19):=⟨Try.f19,_,Try.func19,rfl,by kernel_rfl,rfl,rfl,by kernel_rfl⟩
theorem ok21:FnOk Try.prog (21,i21):=⟨Try.f21,_,Try.func21,rfl,by kernel_rfl,rfl,rfl,by kernel_rfl⟩
theorem ok24:FnOk Try.prog (24,i24):=⟨Try.f24,_,Try.func24,rfl,by kernel_rfl,rfl,rfl,by kernel_rfl⟩
theorem ok31:FnOk Try.prog (31,i31):=⟨Try.f31,_,Try.func31,rfl,by kernel_rfl,rfl,rfl,by kernel_rfl⟩
theorem ok32:FnOk Try.prog (32,i32):=⟨Try.f32,_,Try.func32,rfl,by kernel_rfl,rfl,rfl,by kernel_rfl⟩
theorem ok33:FnOk Try.prog (33,i33):=⟨Try.f33,_,Try.func33,rfl,by kernel_rfl,rfl,rfl,by kernel_rfl⟩
theorem ok34:FnOk Try.prog (34,i34):=⟨Try.f34,_,Try.func34,rfl,by kernel_rfl,rfl,rfl,by kernel_rfl⟩
theorem ok35:FnOk Try.prog (35,i35):=⟨Try.f35,_,Try.func35,rfl,by kernel_rfl,rfl,rfl,by kernel_rfl⟩
theorem ok48:FnOk Try.prog (48,i48):=⟨Try.f48,_,Try.func48,rfl,by kernel_rfl,rfl,rfl,by kernel_rfl⟩
theorem ok49:FnOk Try.prog (49,i49):=⟨Try.f49,_,Try.func49,rfl,by kernel_rfl,rfl,rfl,by kernel_rfl⟩
theorem ok50:FnOk Try.prog (50,i50):=⟨Try.f50,_,Try.func50,rfl,by kernel_rfl,rfl,rfl,by kernel_rfl⟩
theorem ok51:FnOk Try.prog (51,i51):=⟨Try.f51,_,Try.func51,rfl,by kernel_rfl,rfl,rfl,by kernel_rfl⟩
theorem ok52:FnOk Try.prog (52,i52):=⟨Try.f52,_,Try.func52,rfl,by kernel_rfl,rfl,rfl,by kernel_rfl⟩
theorem ok53:FnOk Try.prog (53,i53):=⟨Try.f53,_,Try.func53,rfl,by kernel_rfl,rfl,rfl,by kernel_rfl⟩
theorem ok54:FnOk Try.prog (54,i54):=⟨Try.f54,_,Try.func54,rfl,by kernel_rfl,rfl,rfl,by kernel_rfl⟩
theorem ok55:FnOk Try.prog (55,i55):=⟨Try.f55,_,Try.func55,rfl,by kernel_rfl,rfl,rfl,by kernel_rfl⟩
theorem ok63:FnOk Try.prog (63,i63):=⟨Try.f63,_,Try.func63,rfl,by kernel_rfl,rfl,rfl,by kernel_rfl⟩
theorem ok64:FnOk Try.prog (64,i64):=⟨Try.f64,_,Try.func64,rfl,by kernel_rfl,rfl,rfl,by kernel_rfl⟩
theorem ok66:FnOk Try.prog (66,i66):=⟨Try.f66,_,Try.func66,rfl,by kernel_rfl,rfl,rfl,by kernel_rfl⟩
theorem ok75:FnOk Try.prog (75,i75):=⟨Try.f75,_,Try.func75,rfl,by kernel_rfl,rfl,rfl,by kernel_rfl⟩
theorem ok76:FnOk Try.prog (76,i76):=⟨Try.f76,_,Try.func76,rfl,by kernel_rfl,rfl,rfl,by kernel_rfl⟩
theorem ok77:FnOk Try.prog (77,i77):=⟨Try.f77,_,Try.func77,rfl,by kernel_rfl,rfl,rfl,by kernel_rfl⟩
theorem ok78:FnOk Try.prog (78,i78):=⟨Try.f78,_,Try.func78,rfl,by kernel_rfl,rfl,rfl,by kernel_rfl⟩
theorem ok79:FnOk Try.prog (79,i79):=⟨Try.f79,_,Try.func79,rfl,by kernel_rfl,rfl,rfl,by kernel_rfl⟩
theorem ok80:FnOk Try.prog (80,i80):=⟨Try.f80,_,Try.func80,rfl,by kernel_rfl,rfl,rfl,by kernel_rfl⟩
theorem ok81:FnOk Try.prog (81,i81):=⟨Try.f81,_,Try.func81,rfl,by kernel_rfl,rfl,rfl,by kernel_rfl⟩
theorem ok82:FnOk Try.prog (82,i82):=⟨Try.f82,_,Try.func82,rfl,by kernel_rfl,rfl,rfl,by kernel_rfl⟩
theorem ok89:FnOk Try.prog (89,i89):=⟨Try.f89,_,Try.func89,rfl,by kernel_rfl,rfl,rfl,by kernel_rfl⟩
theorem ok90:FnOk Try.prog (90,i90):=⟨Try.f90,_,Try.func90,rfl,by kernel_rfl,rfl,rfl,by kernel_rfl⟩
theorem ok91:FnOk Try.prog (91,i91):=⟨Try.f91,_,Try.func91,rfl,by kernel_rfl,rfl,rfl,by kernel_rfl⟩
theorem ok98:FnOk Try.prog (98,i98):=⟨Try.f98,_,Try.func98,rfl,by kernel_rfl,rfl,rfl,by kernel_rfl⟩
theorem ok99:FnOk Try.prog (99,i99):=⟨Try.f99,_,Try.func99,rfl,by kernel_rfl,rfl,rfl,by kernel_rfl⟩
theorem ok100:FnOk Try.prog (100,i100):=⟨Try.f100,_,Try.func100,rfl,by kernel_rfl,rfl,rfl,by kernel_rfl⟩
theorem ok101:FnOk Try.prog (101,i101):=⟨Try.f101,_,Try.func101,rfl,by kernel_rfl,rfl,rfl,by kernel_rfl⟩
theorem ok102:FnOk Try.prog (102,i102):=⟨Try.f102,_,Try.func102,rfl,by kernel_rfl,rfl,rfl,by kernel_rfl⟩
theorem ok106:FnOk Try.prog (106,i106):=⟨Try.f106,_,Try.func106,rfl,by kernel_rfl,rfl,rfl,by kernel_rfl⟩
theorem ok107:FnOk Try.prog (107,i107):=⟨Try.f107,_,Try.func107,rfl,by kernel_rfl,rfl,rfl,by kernel_rfl⟩
theorem ok109:FnOk Try.prog (109,i109):=⟨Try.f109,_,Try.func109,rfl,by kernel_rfl,rfl,rfl,by kernel_rfl⟩
theorem ok110:FnOk Try.prog (110,i110):=⟨Try.f110,_,Try.func110,rfl,by kernel_rfl,rfl,rfl,by kernel_rfl⟩
theorem ok115:FnOk Try.prog (115,i115):=⟨Try.f115,_,Try.func115,rfl,by kernel_rfl,rfl,rfl,by kernel_rfl⟩
theorem primAll:∀q∈([(90,i90),(106,i106),(107,i107)]:List (Nat×FnI)),(mkTab tys fns).fn q.1=some q.2∧PrimOk Try.prog q.1 q.2:=by
 intro q hq;simp only [List.mem_cons,List.not_mem_nil,or_false] at hq
 rcases hq with rfl|rfl|rfl
 · exact ⟨rfl,prim90⟩
 · exact ⟨rfl,prim106⟩
 · exact ⟨rfl,prim107⟩
theorem tab:TabOk Try.prog T:=tabOkL_of [(90,i90),(106,i106),(107,i107)] (by kernel_rfl) (.cons ok8 (.cons ok12 (.cons ok13 (.cons ok14 (.cons ok15 (.cons ok16 (.cons ok17 (.cons ok19 (.cons ok21 (.cons ok24 (.cons ok31 (.cons ok32 (.cons ok33 (.cons ok34 (.cons ok35 (.cons ok48 (.cons ok49 (.cons ok50 (.cons ok51 (.cons ok52 (.cons ok53 (.cons ok54 (.cons ok55 (.cons ok63 (.cons ok64 (.cons ok66 (.cons ok75 (.cons ok76 (.cons ok77 (.cons ok78 (.cons ok79 (.cons ok80 (.cons ok81 (.cons ok82 (.cons ok89 (.cons ok90 (.cons ok91 (.cons ok98 (.cons ok99 (.cons ok100 (.cons ok101 (.cons ok102 (.cons ok106 (.cons ok107 (.cons ok109 (.cons ok110 (.cons ok115 (.nil)))))))))))))))))))))))))))))))))))))))))))))))) (by kernel_rfl) primAll
theorem fn8:T.fn 8=some i8:=rfl
theorem fn12:T.fn 12=some i12:=rfl
theorem fn13:T.fn 13=some i13:=rfl
theorem fn14:T.fn 14=some i14:=rfl
theorem fn15:T.fn 15=some i15:=rfl
theorem fn16:T.fn 16=some i16:=rfl
theorem fn17:T.fn 17=some i17:=rfl
theorem fn19:T.fn 19=some i19:=rfl
theorem fn21:T.fn 21=some i21:=rfl
theorem fn24:T.fn 24=some i24:=rfl
theorem fn31:T.fn 31=some i31:=rfl
theorem fn32:T.fn 32=some i32:=rfl
theorem fn33:T.fn 33=some i33:=rfl
theorem fn34:T.fn 34=some i34:=rfl
theorem fn35:T.fn 35=some i35:=rfl
theorem fn48:T.fn 48=some i48:=rfl
theorem fn49:T.fn 49=some i49:=rfl
theorem fn50:T.fn 50=some i50:=rfl
theorem fn51:T.fn 51=some i51:=rfl
theorem fn52:T.fn 52=some i52:=rfl
theorem fn53:T.fn 53=some i53:=rfl
theorem fn54:T.fn 54=some i54:=rfl
theorem fn55:T.fn 55=some i55:=rfl
theorem fn63:T.fn 63=some i63:=rfl
theorem fn64:T.fn 64=some i64:=rfl
theorem fn66:T.fn 66=some i66:=rfl
theorem fn75:T.fn 75=some i75:=rfl
theorem fn76:T.fn 76=some i76:=rfl
theorem fn77:T.fn 77=some i77:=rfl
theorem fn78:T.fn 78=some i78:=rfl
theorem fn79:T.fn 79=some i79:=rfl
theorem fn80:T.fn 80=some i80:=rfl
theorem fn81:T.fn 81=some i81:=rfl
theorem fn82:T.fn 82=some i82:=rfl
theorem fn89:T.fn 89=some i89:=rfl
theorem fn90:T.fn 90=some i90:=rfl
theorem fn91:T.fn 91=some i91:=rfl
theorem fn98:T.fn 98=some i98:=rfl
theorem fn99:T.fn 99=some i99:=rfl
theorem fn100:T.fn 100=some i100:=rfl
theorem fn101:T.fn 101=some i101:=rfl
theorem fn102:T.fn 102=some i102:=rfl
theorem fn106:T.fn 106=some i106:=rfl
theorem fn107:T.fn 107=some i107:=rfl
theorem fn109:T.fn 109=some i109:=rfl
theorem fn110:T.fn 110=some i110:=rfl
theorem fn115:T.fn 115=some i115:=rfl
theorem fns12:(T.at true).fn 12=some i12:=rfl
theorem fns14:(T.at true).fn 14=some i14:=rfl
theorem fns16:(T.at true).fn 16=some i16:=rfl
theorem fns24:(T.at true).fn 24=some i24:=rfl
theorem fns31:(T.at true).fn 31=some i31:=rfl
theorem fns32:(T.at true).fn 32=some i32:=rfl
theorem fns33:(T.at true).fn 33=some i33:=rfl
theorem fns34:(T.at true).fn 34=some i34:=rfl
theorem fns35:(T.at true).fn 35=some i35:=rfl
abbrev CL (f:Nat)(p:List (List Nat)):Prop:=∀(args:List AV) (S:St),evCall T (evFL T) f args S=lendC (evFL T f) S (lendAll S p args)
abbrev CZ (f:Nat)(r p:List (List Nat)):Prop:=∀(args:List AV) (S:St),evCallFz T (evFL T) f args S=lendZ (evFL T f) S r (lendAll S p args)
abbrev clR (f:Nat)(c a:List AV)(v:AV):Prop:=(∀S,evCall T (evFL T) f (a++c) S=some (v,S))∧∀S,evCallFz T (evFL T) f (a++c) S=some (v,S)
attribute [go_sem] clR
end Go.Pi.Ytlcanbihlfncoaa.RankOffers
