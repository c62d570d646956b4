/- no condition -/
import Derived.Test.YthidbgihjhkjaaaGreatPiE
import Derived.Test.YthidbgihjhkjaaaGreatProg
import Derived.Test.YthidbgihjhkjaaaGreatPiD
import Derived.Test.YthidbgihjhkjaaaGreatPiC
set_option linter.all false
namespace Go.Pi.YthidbgihjhkjaaaGreat.ApplyPolicy
open Go Go.Proofs Go.Pi
set_option maxRecDepth 100000
attribute [go_sem] Nat.reduceLT Nat.reduceAdd Nat.reduceSub Nat.reduceMul Nat.reduceEqDiff Nat.reduceBEq Nat.reduceLeDiff Int.reduceToNat Int.reduceLT Int.reduceLE Int.reduceEq reduceCtorEq
attribute [go_sem] reduceIte
def c69:PC:=(sq (.reg [pK 4 0]) (sq (.reg [pM 5 1,pM 6 0,pE 7 6 77,pO 8 .sub 3 5 7 3,pA 1 8]) (sq (sq (.reg [pM 9 1,pB 10 .lss 3 9 0 3]) (cd 10 (sq (.reg [pK 4 (-1)]) .ret) .skip)) (sq (.reg [pM 11 1,pA 4 11]) .ret))))
def i69:FnI:=⟨12,[(.tmp 4)],c69,0,[[4],[0]],[[0]],false,false,0,false⟩
def c70:PC:=(sq (.reg [pK 4 0]) (sq (.reg [pM 5 1,pM 6 0,pE 7 6 78,pO 8 .sub 3 5 7 3,pA 1 8]) (sq (sq (.reg [pM 9 1,pB 10 .lss 3 9 0 3]) (cd 10 (sq (.reg [pK 4 (-1)]) .ret) .skip)) (sq (.reg [pM 11 1,pA 4 11]) .ret))))
def i70:FnI:=⟨12,[(.tmp 4)],c70,0,[[2],[0]],[[0]],false,false,0,false⟩
def c71:PC:=(sq (.reg [pK 4 0]) (sq (.reg [pM 5 1,pM 6 0,pE 7 6 79,pO 8 .sub 3 5 7 3,pA 1 8]) (sq (sq (.reg [pM 9 1,pB 10 .lss 3 9 0 3]) (cd 10 (sq (.reg [pK 4 (-1)]) .ret) .skip)) (sq (.reg [pM 11 1,pA 4 11]) .ret))))
def i71:FnI:=⟨12,[(.tmp 4)],c71,0,[[2],[0]],[[0]],false,false,0,false⟩
def c45:PC:=(sq (.reg [pX 2 81 0,pK 4 0]) (sq (.reg [pF 5 81 2 0,pL 6 77 5,pM 7 1,pC2 8 69 6 7 77 3,pA 1 8]) (sq (sq (.reg [pM 9 1,pB 10 .lss 3 9 0 3]) (cd 10 (sq (.reg [pK 4 (-1)]) .ret) .skip)) (sq (.reg [pF 11 81 2 1,pL 12 78 11,pM 13 1,pC2 14 70 12 13 78 3,pA 1 14]) (sq (sq (.reg [pM 15 1,pB 16 .lss 3 15 0 3]) (cd 16 (sq (.reg [pK 4 (-1)]) .ret) .skip)) (sq (.reg [pF 17 81 2 3,pL 18 79 17,pM 19 1,pC2 20 71 18 19 79 3,pA 1 20]) (sq (sq (.reg [pM 21 1,pB 22 .lss 3 21 0 3]) (cd 22 (sq (.reg [pK 4 (-1)]) .ret) .skip)) (sq (.reg [pM 23 1,pA 4 23]) .ret))))))))
def i45:FnI:=⟨24,[(.tmp 4)],c45,0,[[4,2,0,2,0],[0]],[[0]],false,false,0,false⟩
def k23_1b:PC:=(sq (sq (.reg [pM 12 5,pM 13 0,pE 14 13 22,pO 15 .lss 3 12 14 3]) (cd 15 .skip (.pre ⟨[1],[],[],[]⟩ (.exit 0)))) (sq (.block 1 (sq (.reg [pM 18 0,pM 19 5,pI 20 22 18 19,pL 21 81 20,pM 22 1,pC2 23 45 21 22 81 3,pA 1 23]) (sq (.reg [pM 24 1,pB 25 .lss 3 24 0 3]) (cd 25 (sq (.reg [pK 4 (-1)]) (.pre ⟨[4],[],[],[]⟩ .ret)) .skip)))) (.post (.reg [pM 16 5,pB 17 .add 3 16 1 3,pA 5 17]) ⟨[0,1,5],[],[],[]⟩)))
def c23:PC:=(sq (.reg [pK 4 0]) (sq (.reg [pM 6 1,pM 7 0,pE 8 7 22,pO 9 .sub 3 6 8 3,pA 1 9]) (sq (sq (.reg [pM 10 1,pB 11 .lss 3 10 0 3]) (cd 11 (sq (.reg [pK 4 (-1)]) .ret) .skip)) (sq (sq (.reg [pK 5 0]) (.block 0 (.pre ⟨[0,1,5],[],[],[]⟩ (.loop k23_1b)))) (sq (.reg [pM 26 1,pA 4 26]) .ret)))))
def i23:FnI:=⟨27,[(.tmp 4)],c23,0,[[5],[0]],[[0]],false,false,0,false⟩
def c5:PC:=(sq (.reg [pX 2 24 0,pK 4 0]) (sq (.reg [pF 5 24 2 0,pL 6 22 5,pM 7 1,pC2 8 23 6 7 22 3,pA 1 8]) (sq (sq (.reg [pM 9 1,pB 10 .lss 3 9 0 3]) (cd 10 (sq (.reg [pK 4 (-1)]) .ret) .skip)) (sq (.reg [pM 11 1,pA 4 11]) .ret))))
def i5:FnI:=⟨12,[(.tmp 4)],c5,0,[[5,0],[0]],[[0]],false,false,0,false⟩
def c46:PC:=(sq (.reg [pK 4 0]) (sq (.reg [pM 5 1,pM 6 0,pE 7 6 27,pO 8 .sub 3 5 7 3,pA 1 8]) (sq (sq (.reg [pM 9 1,pB 10 .lss 3 9 0 3]) (cd 10 (sq (.reg [pK 4 (-1)]) .ret) .skip)) (sq (.reg [pM 11 1,pA 4 11]) .ret))))
def i46:FnI:=⟨12,[(.tmp 4)],c46,0,[[1],[0]],[[0]],false,false,0,false⟩
def c24:PC:=(sq (.reg [pX 2 29 0,pK 4 0]) (sq (.reg [pF 5 29 2 1,pL 6 27 5,pM 7 1,pC2 8 46 6 7 27 3,pA 1 8]) (sq (sq (.reg [pM 9 1,pB 10 .lss 3 9 0 3]) (cd 10 (sq (.reg [pK 4 (-1)]) .ret) .skip)) (sq (.reg [pF 11 29 2 5,pL 12 27 11,pM 13 1,pC2 14 46 12 13 27 3,pA 1 14]) (sq (sq (.reg [pM 15 1,pB 16 .lss 3 15 0 3]) (cd 16 (sq (.reg [pK 4 (-1)]) .ret) .skip)) (sq (.reg [pM 17 1,pA 4 17]) .ret))))))
def i24:FnI:=⟨18,[(.tmp 4)],c24,0,[[0,1,0,0,0,1],[0]],[[0]],false,false,0,false⟩
def c6:PC:=(sq (.reg [pX 2 31 0,pK 4 0]) (sq (.reg [pF 5 31 2 1,pL 6 29 5,pM 7 1,pC2 8 24 6 7 29 3,pA 1 8]) (sq (sq (.reg [pM 9 1,pB 10 .lss 3 9 0 3]) (cd 10 (sq (.reg [pK 4 (-1)]) .ret) .skip)) (sq (.reg [pM 11 1,pA 4 11]) .ret))))
def i6:FnI:=⟨12,[(.tmp 4)],c6,0,[[0,0,0,1,0,0,0,1],[0]],[[0]],false,false,0,false⟩
def c30:PC:=(sq (.reg [pX 1 26 0,pG 2 34]) (sq (.reg [pG 3 34]) (sq (.reg [pF 4 26 1 0,pL 5 3 4,pF 6 34 3 0,⟨none,(.store 3 (.tmp 6) (.tmp 5)),none⟩]) (sq (.reg [pF 7 26 1 1,pL 8 3 7,pF 9 34 3 1,⟨none,(.store 3 (.tmp 9) (.tmp 8)),none⟩]) (sq (.reg [pL 10 34 3,⟨none,(.store 34 (.tmp 2) (.tmp 10)),none⟩]) .ret)))))
def i30:FnI:=⟨11,[(.cell 2 34)],c30,0,[[0,0]],[[0,0]],false,false,0,false⟩
def c113:PC:=(sq (.reg [pX 1 148 0,pG 2 110]) (sq (.reg [pG 3 110]) (sq (.reg [pF 4 148 1 0,pL 5 26 4,pC 6 30 5 26,pF 7 110 3 0,⟨none,(.store 34 (.tmp 7) (.tmp 6)),none⟩]) (sq (.reg [pF 8 148 1 1,pL 9 3 8,pF 10 110 3 1,⟨none,(.store 3 (.tmp 10) (.tmp 9)),none⟩]) (sq (.reg [pF 11 148 1 2,pL 12 3 11,pF 13 110 3 2,⟨none,(.store 3 (.tmp 13) (.tmp 12)),none⟩]) (sq (.reg [pL 14 110 3,⟨none,(.store 110 (.tmp 2) (.tmp 14)),none⟩]) .ret))))))
def i113:FnI:=⟨15,[(.cell 2 110)],c113,0,[[0,0,0,0]],[[0,0,0,0]],false,false,0,false⟩
def k81_1b:PC:=(sq (sq (.reg [pM 8 4,pM 9 0,pE 10 9 77,pO 11 .lss 3 8 10 3]) (cd 11 .skip (.pre ⟨[3],[.old 0],[],[]⟩ (.exit 0)))) (sq (.block 1 (.reg [pM 14 3,pM 15 4,pM 16 0,pM 17 4,pI 18 77 16 17,pL 19 148 18,pC 20 113 19 148,pI 21 82 14 15,⟨none,(.store 110 (.tmp 21) (.tmp 20)),none⟩])) (.post (.reg [pM 12 4,pB 13 .add 3 12 1 3,pA 4 13]) ⟨[0,3,4],[.old 0],[],[]⟩)))
def c81:PC:=(sq (.reg [pS 2]) (sq (.reg [pM 5 0,pE 6 5 77,⟨(some 7),(.makeSlice 82 (.tmp 6) (.tmp 6)),none⟩,pA 3 7]) (sq (sq (.reg [pK 4 0]) (.block 0 (.pre ⟨[0,3,4],[.old 0],[],[]⟩ (.loop k81_1b)))) (sq (.reg [pM 22 3,pA 2 22]) .ret))))
def i81:FnI:=⟨23,[(.tmp 2)],c81,0,[[4]],[[4]],false,false,0,false⟩
def c114:PC:=(sq (.reg [pX 1 150 0,pG 2 137]) (sq (.reg [pG 3 137]) (sq (.reg [pF 4 150 1 0,pL 5 3 4,pF 6 137 3 0,⟨none,(.store 3 (.tmp 6) (.tmp 5)),none⟩]) (sq (.reg [pF 7 150 1 1,pL 8 3 7,pF 9 137 3 1,⟨none,(.store 3 (.tmp 9) (.tmp 8)),none⟩]) (sq (.reg [pL 10 137 3,⟨none,(.store 137 (.tmp 2) (.tmp 10)),none⟩]) .ret)))))
def i114:FnI:=⟨11,[(.cell 2 137)],c114,0,[[0,0]],[[0,0]],false,false,0,false⟩
def k82_1b:PC:=(sq (sq (.reg [pM 8 4,pM 9 0,pE 10 9 78,pO 11 .lss 3 8 10 3]) (cd 11 .skip (.pre ⟨[3],[.old 0],[],[]⟩ (.exit 0)))) (sq (.block 1 (.reg [pM 14 3,pM 15 4,pM 16 0,pM 17 4,pI 18 78 16 17,pL 19 150 18,pC 20 114 19 150,pI 21 83 14 15,⟨none,(.store 137 (.tmp 21) (.tmp 20)),none⟩])) (.post (.reg [pM 12 4,pB 13 .add 3 12 1 3,pA 4 13]) ⟨[0,3,4],[.old 0],[],[]⟩)))
def c82:PC:=(sq (.reg [pS 2]) (sq (.reg [pM 5 0,pE 6 5 78,⟨(some 7),(.makeSlice 83 (.tmp 6) (.tmp 6)),none⟩,pA 3 7]) (sq (sq (.reg [pK 4 0]) (.block 0 (.pre ⟨[0,3,4],[.old 0],[],[]⟩ (.loop k82_1b)))) (sq (.reg [pM 22 3,pA 2 22]) .ret))))
def i82:FnI:=⟨23,[(.tmp 2)],c82,0,[[2]],[[2]],false,false,0,false⟩
def c115:PC:=(sq (.reg [pX 1 152 0,pG 2 92]) (sq (.reg [pG 3 92]) (sq (.reg [pF 4 152 1 0,pL 5 3 4,pF 6 92 3 0,⟨none,(.store 3 (.tmp 6) (.tmp 5)),none⟩]) (sq (.reg [pF 7 152 1 1,pL 8 3 7,pF 9 92 3 1,⟨none,(.store 3 (.tmp 9) (.tmp 8)),none⟩]) (sq (.reg [pL 10 92 3,⟨none,(.store 92 (.tmp 2) (.tmp 10)),none⟩]) .ret)))))
def i115:FnI:=⟨11,[(.cell 2 92)],c115,0,[[0,0]],[[0,0]],false,false,0,false⟩
def k83_1b:PC:=(sq (sq (.reg [pM 8 4,pM 9 0,pE 10 9 79,pO 11 .lss 3 8 10 3]) (cd 11 .skip (.pre ⟨[3],[.old 0],[],[]⟩ (.exit 0)))) (sq (.block 1 (.reg [pM 14 3,pM 15 4,pM 16 0,pM 17 4,pI 18 79 16 17,pL 19 152 18,pC 20 115 19 152,pI 21 84 14 15,⟨none,(.store 92 (.tmp 21) (.tmp 20)),none⟩])) (.post (.reg [pM 12 4,pB 13 .add 3 12 1 3,pA 4 13]) ⟨[0,3,4],[.old 0],[],[]⟩)))
def c83:PC:=(sq (.reg [pS 2]) (sq (.reg [pM 5 0,pE 6 5 79,⟨(some 7),(.makeSlice 84 (.tmp 6) (.tmp 6)),none⟩,pA 3 7]) (sq (sq (.reg [pK 4 0]) (.block 0 (.pre ⟨[0,3,4],[.old 0],[],[]⟩ (.loop k83_1b)))) (sq (.reg [pM 22 3,pA 2 22]) .ret))))
def i83:FnI:=⟨23,[(.tmp 2)],c83,0,[[2]],[[2]],false,false,0,false⟩
def c53:PC:=(sq (.reg [pX 1 81 0,pG 2 86]) (sq (.reg [pG 3 86]) (sq (.reg [pF 4 81 1 0,pL 5 77 4,pC 6 81 5 77,pF 7 86 3 0,⟨none,(.store 82 (.tmp 7) (.tmp 6)),none⟩]) (sq (.reg [pF 8 81 1 1,pL 9 78 8,pC 10 82 9 78,pF 11 86 3 1,⟨none,(.store 83 (.tmp 11) (.tmp 10)),none⟩]) (sq (.reg [pF 12 81 1 2,pL 13 3 12,pF 14 86 3 2,⟨none,(.store 3 (.tmp 14) (.tmp 13)),none⟩]) (sq (.reg [pF 15 81 1 3,pL 16 79 15,pC 17 83 16 79,pF 18 86 3 3,⟨none,(.store 84 (.tmp 18) (.tmp 17)),none⟩]) (sq (.reg [pF 19 81 1 4,pL 20 3 19,pF 21 86 3 4,⟨none,(.store 3 (.tmp 21) (.tmp 20)),none⟩]) (sq (.reg [pL 22 86 3,⟨none,(.store 86 (.tmp 2) (.tmp 22)),none⟩]) .ret))))))))
def i53:FnI:=⟨23,[(.cell 2 86)],c53,0,[[4,2,0,2,0]],[[4,2,0,2,0]],false,false,0,false⟩
def k29_1b:PC:=(sq (sq (.reg [pM 8 4,pM 9 0,pE 10 9 22,pO 11 .lss 3 8 10 3]) (cd 11 .skip (.pre ⟨[3],[.old 0],[],[]⟩ (.exit 0)))) (sq (.block 1 (.reg [pM 14 3,pM 15 4,pM 16 0,pM 17 4,pI 18 22 16 17,pL 19 81 18,pC 20 53 19 81,pI 21 40 14 15,⟨none,(.store 86 (.tmp 21) (.tmp 20)),none⟩])) (.post (.reg [pM 12 4,pB 13 .add 3 12 1 3,pA 4 13]) ⟨[0,3,4],[.old 0],[],[]⟩)))
def c29:PC:=(sq (.reg [pS 2]) (sq (.reg [pM 5 0,pE 6 5 22,⟨(some 7),(.makeSlice 40 (.tmp 6) (.tmp 6)),none⟩,pA 3 7]) (sq (sq (.reg [pK 4 0]) (.block 0 (.pre ⟨[0,3,4],[.old 0],[],[]⟩ (.loop k29_1b)))) (sq (.reg [pM 22 3,pA 2 22]) .ret))))
def i29:FnI:=⟨23,[(.tmp 2)],c29,0,[[5]],[[5]],false,false,0,false⟩
def c8:PC:=(sq (.reg [pX 1 24 0,pG 2 42]) (sq (.reg [pG 3 42]) (sq (.reg [pF 4 24 1 0,pL 5 22 4,pC 6 29 5 22,pF 7 42 3 0,⟨none,(.store 40 (.tmp 7) (.tmp 6)),none⟩]) (sq (.reg [pF 8 24 1 1,pL 9 4 8,pF 10 42 3 1,⟨none,(.store 4 (.tmp 10) (.tmp 9)),none⟩]) (sq (.reg [pL 11 42 3,⟨none,(.store 42 (.tmp 2) (.tmp 11)),none⟩]) .ret)))))
def i8:FnI:=⟨12,[(.cell 2 42)],c8,0,[[5,0]],[[5,0]],false,false,0,false⟩
def k54_1b:PC:=(sq (sq (.reg [pM 8 4,pM 9 0,pE 10 9 27,pO 11 .lss 3 8 10 3]) (cd 11 .skip (.pre ⟨[3],[.old 0],[],[]⟩ (.exit 0)))) (sq (.block 1 (.reg [pM 14 3,pM 15 4,pM 16 0,pM 17 4,pI 18 27 16 17,pL 19 3 18,pI 20 27 14 15,⟨none,(.store 3 (.tmp 20) (.tmp 19)),none⟩])) (.post (.reg [pM 12 4,pB 13 .add 3 12 1 3,pA 4 13]) ⟨[0,3,4],[.old 0],[],[]⟩)))
def c54:PC:=(sq (.reg [pS 2]) (sq (.reg [pM 5 0,pE 6 5 27,⟨(some 7),(.makeSlice 27 (.tmp 6) (.tmp 6)),none⟩,pA 3 7]) (sq (sq (.reg [pK 4 0]) (.block 0 (.pre ⟨[0,3,4],[.old 0],[],[]⟩ (.loop k54_1b)))) (sq (.reg [pM 21 3,pA 2 21]) .ret))))
def i54:FnI:=⟨22,[(.tmp 2)],c54,0,[[1]],[[1]],false,false,0,false⟩
def c31:PC:=(sq (.reg [pX 1 29 0,pG 2 35]) (sq (.reg [pG 3 35]) (sq (.reg [pF 4 29 1 0,pL 5 3 4,pF 6 35 3 0,⟨none,(.store 3 (.tmp 6) (.tmp 5)),none⟩]) (sq (.reg [pF 7 29 1 1,pL 8 27 7,pC 9 54 8 27,pF 10 35 3 1,⟨none,(.store 27 (.tmp 10) (.tmp 9)),none⟩]) (sq (.reg [pF 11 29 1 2,pL 12 3 11,pF 13 35 3 2,⟨none,(.store 3 (.tmp 13) (.tmp 12)),none⟩]) (sq (.reg [pF 14 29 1 3,pL 15 3 14,pF 16 35 3 3,⟨none,(.store 3 (.tmp 16) (.tmp 15)),none⟩]) (sq (.reg [pF 17 29 1 4,pL 18 3 17,pF 19 35 3 4,⟨none,(.store 3 (.tmp 19) (.tmp 18)),none⟩]) (sq (.reg [pF 20 29 1 5,pL 21 27 20,pC 22 54 21 27,pF 23 35 3 5,⟨none,(.store 27 (.tmp 23) (.tmp 22)),none⟩]) (sq (.reg [pL 24 35 3,⟨none,(.store 35 (.tmp 2) (.tmp 24)),none⟩]) .ret)))))))))
def i31:FnI:=⟨25,[(.cell 2 35)],c31,0,[[0,1,0,0,0,1]],[[0,1,0,0,0,1]],false,false,0,false⟩
def c9:PC:=(sq (.reg [pX 1 31 0,pG 2 37]) (sq (.reg [pG 3 37]) (sq (.reg [pF 4 31 1 0,pL 5 26 4,pC 6 30 5 26,pF 7 37 3 0,⟨none,(.store 34 (.tmp 7) (.tmp 6)),none⟩]) (sq (.reg [pF 8 31 1 1,pL 9 29 8,pC 10 31 9 29,pF 11 37 3 1,⟨none,(.store 35 (.tmp 11) (.tmp 10)),none⟩]) (sq (.reg [pL 12 37 3,⟨none,(.store 37 (.tmp 2) (.tmp 12)),none⟩]) .ret)))))
def i9:FnI:=⟨13,[(.cell 2 37)],c9,0,[[0,0,0,1,0,0,0,1]],[[0,0,0,1,0,0,0,1]],false,false,0,false⟩
def k72_1:PC:=(.post (.reg [pM 7 0,pM 8 1,pO 9 .geq 3 7 8 3,pM 10 9,⟨(some 11),(.move (.tmp 0)),(some (10,true))⟩,⟨(some 12),(.move (.tmp 2)),(some (10,true))⟩,⟨(some 13),(.binOp .leq 3 (.tmp 11) (.tmp 12) 3),(some (10,true))⟩,pP 14 10 13,pA 6 14]) ⟨[6],[],[],[]⟩)
def c72:PC:=(sq (.reg [pN 6 false]) (sq (.pre ⟨[0,1,2],[],[],[]⟩ k72_1) .ret))
def i72:FnI:=⟨15,[(.tmp 6)],c72,0,[[0],[0],[0]],[[0]],false,false,0,false⟩
def c75:PC:=(sq (.reg [pN 2 false]) (sq (.reg [pM 3 0,⟨(some 4),(.call { callee:=(.value (.func 72)),args:=#[(.tmp 3),(.const (.int .i64 0)),(.const (.int .i64 4294967295))],argTypes:=#[3,3,3] }),none⟩,pA 2 4]) .ret))
def i75:FnI:=⟨5,[(.tmp 2)],c75,0,[[0]],[[0]],false,false,0,false⟩
def c76:PC:=(sq (.reg [pX 1 34 0,pK 2 0]) (sq (.reg [pF 3 34 1 1,pL 4 3 3,⟨(some 5),(.binOp .sub 3 (.const (.int .i64 32)) (.tmp 4) 3),none⟩,⟨(some 6),(.convert 3 143 (.tmp 5)),none⟩,⟨(some 7),(.binOp .shl 3 (.const (.int .i64 1)) (.tmp 6) 143),none⟩,pA 2 7]) .ret))
def i76:FnI:=⟨8,[(.tmp 2)],c76,0,[[0,0]],[[0]],false,false,0,false⟩
def k48_1:PC:=(.post (.fz [pF 3 34 1 1,pL 4 3 3,⟨(some 5),(.call { callee:=(.value (.func 72)),args:=#[(.tmp 4),(.const (.int .i64 0)),(.const (.int .i64 32))],argTypes:=#[3,3,3] }),none⟩,pM 6 5,⟨(some 7),(.fieldAddr 34 (.tmp 1) 0),(some (6,true))⟩,⟨(some 8),(.load 3 (.tmp 7)),(some (6,true))⟩,⟨(some 9),(.call { callee:=(.value (.func 75)),args:=#[(.tmp 8)],argTypes:=#[3] }),(some (6,true))⟩,pP 10 6 9,pM 11 10,⟨(some 12),(.fieldAddr 34 (.tmp 1) 0),(some (11,true))⟩,⟨(some 13),(.load 3 (.tmp 12)),(some (11,true))⟩,⟨(some 14),(.load 34 (.tmp 1)),(some (11,true))⟩,⟨(some 15),(.call { callee:=(.value (.func 76)),args:=#[(.tmp 14)],argTypes:=#[34] }),(some (11,true))⟩,⟨(some 16),(.binOp .rem 3 (.tmp 13) (.tmp 15) 3),(some (11,true))⟩,⟨(some 17),(.binOp .eql 3 (.tmp 16) (.const (.int .i64 0)) 3),(some (11,true))⟩,pP 18 11 17,pA 2 18]) ⟨[2],[],[],[]⟩)
def c48:PC:=(sq (.reg [pX 1 34 0,pN 2 false]) (sq (.pre ⟨[1],[.old 0],[],[]⟩ k48_1) .ret))
def i48:FnI:=⟨19,[(.tmp 2)],c48,0,[[0,0]],[[0]],false,false,0,false⟩
def k73_3:PC:=(cd 5 (.post .skip ⟨[1,5],[.old 0],[],[]⟩) (.post (.reg [pB 9 .eql 3 4 4 3,pA 5 9]) ⟨[1,5],[.old 0],[],[]⟩))
def k73_2:PC:=(cd 5 (.post .skip ⟨[1,5],[.old 0],[],[]⟩) (sq (.reg [pB 8 .eql 3 4 3 3,pA 5 8]) (.post (.pre ⟨[1,4,5],[.old 0],[],[]⟩ k73_3) ⟨[1,5],[.old 0],[],[]⟩)))
def k73_1:PC:=(cd 5 (.post .skip ⟨[1,5],[.old 0],[],[]⟩) (sq (.reg [pB 7 .eql 3 4 2 3,pA 5 7]) (.post (.pre ⟨[1,4,5],[.old 0],[],[]⟩ k73_2) ⟨[1,5],[.old 0],[],[]⟩)))
def k73_4:PC:=(.post (.reg [pF 13 92 1 0,pL 14 3 13,pB 15 .eql 3 14 5 3,pM 16 15,⟨(some 17),(.fieldAddr 92 (.tmp 1) 1),(some (16,true))⟩,⟨(some 18),(.load 3 (.tmp 17)),(some (16,true))⟩,⟨(some 19),(.call { callee:=(.value (.func 72)),args:=#[(.tmp 18),(.const (.int .i64 1)),(.const (.int .i64 65535))],argTypes:=#[3,3,3] }),(some (16,true))⟩,pP 20 16 19,pA 2 20]) ⟨[2],[],[],[]⟩)
def c73:PC:=(sq (.reg [pX 1 92 0,pN 2 false]) (sq (sq (.reg [pF 3 92 1 0,pL 4 3 3]) (.block 0 (sq (sq (.reg [pB 6 .eql 3 4 1 3,pA 5 6]) (.pre ⟨[1,4,5],[.old 0],[],[]⟩ k73_1)) (cd 5 (sq (.reg [pF 10 92 1 1,pL 11 3 10,⟨(some 12),(.call { callee:=(.value (.func 72)),args:=#[(.tmp 11),(.const (.int .i64 0)),(.const (.int .i64 1000000))],argTypes:=#[3,3,3] }),none⟩,pA 2 12]) .ret) .skip)))) (sq (.pre ⟨[1],[.old 0],[],[]⟩ k73_4) .ret)))
def i73:FnI:=⟨21,[(.tmp 2)],c73,0,[[0,0]],[[0]],false,false,0,false⟩
def k149_3:PC:=(cd 4 (.post .skip ⟨[3,4],[],[],[]⟩) (.post (.reg [pB 8 .eql 3 3 4 3,pA 4 8]) ⟨[3,4],[],[],[]⟩))
def k149_2:PC:=(cd 4 (.post .skip ⟨[3,4],[],[],[]⟩) (sq (.reg [pB 7 .eql 3 3 3 3,pA 4 7]) (.post (.pre ⟨[3,4],[],[],[]⟩ k149_3) ⟨[3,4],[],[],[]⟩)))
def k149_1:PC:=(cd 4 (.post .skip ⟨[3,4],[],[],[]⟩) (sq (.reg [pB 6 .eql 3 3 2 3,pA 4 6]) (.post (.pre ⟨[3,4],[],[],[]⟩ k149_2) ⟨[3,4],[],[],[]⟩)))
def k149_4:PC:=(cd 9 (.post .skip ⟨[3,9],[],[],[]⟩) (.post (.reg [pB 11 .eql 3 3 6 3,pA 9 11]) ⟨[3,9],[],[],[]⟩))
def c149:PC:=(sq (.reg [pK 2 0]) (sq (sq (.reg [pM 3 0]) (.block 0 (sq (sq (.reg [pB 5 .eql 3 3 1 3,pA 4 5]) (.pre ⟨[3,4],[],[],[]⟩ k149_1)) (cd 4 (sq (.reg [pK 2 0]) .ret) (sq (sq (.reg [pB 10 .eql 3 3 5 3,pA 9 10]) (.pre ⟨[3,9],[],[],[]⟩ k149_4)) (cd 9 (sq (.reg [pK 2 2]) .ret) (sq (.reg [pB 13 .eql 3 3 7 3,pA 12 13]) (cd 12 (sq (.reg [pK 2 1]) .ret) .skip)))))))) (sq (.reg [pK 2 (-1)]) .ret)))
def i149:FnI:=⟨14,[(.tmp 2)],c149,0,[[0]],[[0]],false,false,0,false⟩
def k139_1:PC:=(.post (.reg [pM 23 7,pB 24 .lss 3 23 0 3,pM 25 24,⟨(some 26),(.fieldAddr 137 (.tmp 6) 0),(some (25,false))⟩,⟨(some 27),(.load 3 (.tmp 26)),(some (25,false))⟩,⟨(some 28),(.binOp .eql 3 (.tmp 27) (.const (.int .i64 3)) 3),(some (25,false))⟩,⟨(some 29),(.move (.tmp 28)),(some (25,false))⟩,⟨(some 30),(.fieldAddr 137 (.tmp 6) 1),(some (29,true))⟩,⟨(some 31),(.load 3 (.tmp 30)),(some (29,true))⟩,⟨(some 32),(.call { callee:=(.value (.func 72)),args:=#[(.tmp 31),(.const (.int .i64 1)),(.const (.int .i64 65535))],argTypes:=#[3,3,3] }),(some (29,true))⟩,⟨(some 33),(.unOp .not 4 (.tmp 32)),(some (29,true))⟩,⟨(some 34),(.pick (.tmp 29) (.tmp 33) (.const (.bool false))),(some (25,false))⟩,pQ 35 25 34,pM 36 35,⟨(some 37),(.fieldAddr 137 (.tmp 6) 0),(some (36,false))⟩,⟨(some 38),(.load 3 (.tmp 37)),(some (36,false))⟩,⟨(some 39),(.binOp .neq 3 (.tmp 38) (.const (.int .i64 3)) 3),(some (36,false))⟩,⟨(some 40),(.move (.tmp 39)),(some (36,false))⟩,⟨(some 41),(.fieldAddr 137 (.tmp 6) 1),(some (40,true))⟩,⟨(some 42),(.load 3 (.tmp 41)),(some (40,true))⟩,⟨(some 43),(.binOp .neq 3 (.tmp 42) (.const (.int .i64 0)) 3),(some (40,true))⟩,⟨(some 44),(.pick (.tmp 40) (.tmp 43) (.const (.bool false))),(some (36,false))⟩,pQ 45 36 44]) ⟨[0,1,4,6,7,45],[.old 0,.old 1,.old 2],[],[]⟩)
def k139_2b:PC:=(sq (sq (.reg [pM 54 7,pB 55 .gtr 3 54 0 3]) (cd 55 .skip (.pre ⟨[1,4,8],[.old 0,.old 1,.old 2,.old 3],[],[]⟩ (.exit 0)))) (sq (.block 1 (sq (.reg [pM 59 0,pM 60 1,pC2 61 139 59 60 83 3,pM 58 61,pT 62 58 0,pT 63 58 1,pG 9 140,⟨none,(.store 140 (.tmp 9) (.tmp 62)),none⟩,pA 10 63]) (sq (sq (.reg [pM 64 10,pB 65 .eql 3 64 0 3]) (cd 65 (sq (.reg [⟨(some 66),(.build 140 #[]),none⟩,⟨none,(.store 140 (.tmp 4) (.tmp 66)),none⟩,pK 5 0]) (.pre ⟨[4,5],[.old 0,.nilB 0 2 3],[],[]⟩ .ret)) .skip)) (sq (.reg [pF 67 140 8 2,pL 68 138 67,pL 69 140 9,⟨(some 70),(.buildSlice 138 1 #[(0,(.tmp 69))]),none⟩,⟨(some 71),(.call { callee:=(.builtin .append),args:=#[(.tmp 68),(.tmp 70)],argTypes:=#[138,138] }),none⟩,pF 72 140 8 2,⟨none,(.store 138 (.tmp 72) (.tmp 71)),none⟩]) (.reg [pM 73 10,pA 1 73]))))) (.post (.reg [pM 56 7,pB 57 .sub 3 56 1 3,pA 7 57]) ⟨[0,1,4,7,8],[.old 0,.old 1,.old 2,.old 7],[],[]⟩)))
def c139:PC:=(sq (.reg [pG 4 140,pK 5 0]) (sq (sq (.reg [pM 11 1,pM 12 0,pE 13 12 83,pO 14 .geq 3 11 13 3]) (cd 14 (sq (.reg [⟨(some 15),(.build 140 #[]),none⟩,⟨none,(.store 140 (.tmp 4) (.tmp 15)),none⟩,pK 5 0]) .ret) .skip)) (sq (.reg [pM 16 0,pM 17 1,pI 18 83 16 17,pL 19 137 18,pG 6 137,⟨none,(.store 137 (.tmp 6) (.tmp 19)),none⟩]) (sq (.reg [pF 20 137 6 0,pL 21 3 20,pC 22 149 21 3,pA 7 22]) (sq (sq (.pre ⟨[0,1,4,6,7],[.old 0,.nilB 0 2 3,.old 1],[],[]⟩ k139_1) (cd 45 (sq (.reg [⟨(some 46),(.build 140 #[]),none⟩,⟨none,(.store 140 (.tmp 4) (.tmp 46)),none⟩,pK 5 0]) .ret) .skip)) (sq (.reg [pF 47 137 6 0,pL 48 3 47,pF 49 137 6 1,pL 50 3 49,⟨(some 51),(.build 140 #[(0,(.tmp 48)),(1,(.tmp 50))]),none⟩,pG 8 140,⟨none,(.store 140 (.tmp 8) (.tmp 51)),none⟩]) (sq (.reg [pM 52 1,pB 53 .add 3 52 1 3,pA 1 53]) (sq (.block 0 (.pre ⟨[0,1,4,7,8],[.old 0,.old 1,.old 3,.nilB 3 2 3],[],[]⟩ (.loop k139_2b))) (sq (.reg [pL 74 140 8,pM 75 1,⟨none,(.store 140 (.tmp 4) (.tmp 74)),none⟩,pA 5 75]) .ret)))))))))
def i139:FnI:=⟨76,[(.cell 4 140),(.tmp 5)],c139,0,[[2],[0]],[[0,0,3],[0]],false,false,0,false⟩
def k109_1:PC:=(.post (.reg [pL 15 140 4,pM 16 5,pB 17 .gtr 3 16 0 3,pM 18 17,⟨(some 19),(.move (.tmp 5)),(some (18,true))⟩,⟨(some 20),(.move (.tmp 0)),(some (18,true))⟩,⟨(some 21),(.call { callee:=(.builtin .len),args:=#[(.tmp 20)],argTypes:=#[83] }),(some (18,true))⟩,⟨(some 22),(.binOp .eql 3 (.tmp 19) (.tmp 21) 3),(some (18,true))⟩,pP 23 18 22,⟨none,(.store 140 (.tmp 2) (.tmp 15)),none⟩,pA 3 23]) ⟨[2,3],[.old 0,.old 3],[],[]⟩)
def c109:PC:=(sq (.reg [pG 2 140,pN 3 false]) (sq (sq (.reg [pM 6 0,pE 7 6 83,pB 8 .gtr 3 7 30 3]) (cd 8 (sq (.reg [⟨(some 9),(.build 140 #[]),none⟩,⟨none,(.store 140 (.tmp 2) (.tmp 9)),none⟩,pN 3 false]) .ret) .skip)) (sq (.reg [pM 11 0,⟨(some 12),(.call { callee:=(.value (.func 139)),args:=#[(.tmp 11),(.const (.int .i64 0))],argTypes:=#[83,3] }),none⟩,pM 10 12,pT 13 10 0,pT 14 10 1,pG 4 140,⟨none,(.store 140 (.tmp 4) (.tmp 13)),none⟩,pA 5 14]) (sq (.pre ⟨[0,2,4,5],[.old 0,.nilB 0 2 3,.old 2,.old 1],[],[]⟩ k109_1) .ret))))
def i109:FnI:=⟨24,[(.cell 2 140),(.tmp 3)],c109,0,[[2]],[[0,0,3],[0]],false,false,0,false⟩
def c74:PC:=(sq (.reg [pN 2 false]) (sq (.reg [pM 6 0,pC 7 109 6 83,pM 5 7,pT 8 5 0,pT 9 5 1,pG 3 140,⟨none,(.store 140 (.tmp 3) (.tmp 8)),none⟩,pA 4 9]) (sq (.reg [pM 10 4,pA 2 10]) .ret)))
def i74:FnI:=⟨11,[(.tmp 2)],c74,0,[[2]],[[0]],false,false,0,false⟩
def k47_3:PC:=(.post (.reg [pF 14 110 4 0,pL 15 34 14,pC 16 48 15 34,pU 17 4 16,pM 18 17,⟨(some 19),(.fieldAddr 110 (.tmp 4) 1),(some (18,false))⟩,⟨(some 20),(.load 3 (.tmp 19)),(some (18,false))⟩,⟨(some 21),(.fieldAddr 110 (.tmp 4) 0),(some (18,false))⟩,⟨(some 22),(.fieldAddr 34 (.tmp 21) 1),(some (18,false))⟩,⟨(some 23),(.load 3 (.tmp 22)),(some (18,false))⟩,⟨(some 24),(.call { callee:=(.value (.func 72)),args:=#[(.tmp 20),(.tmp 23),(.const (.int .i64 32))],argTypes:=#[3,3,3] }),(some (18,false))⟩,⟨(some 25),(.unOp .not 4 (.tmp 24)),(some (18,false))⟩,pQ 26 18 25,pM 27 26,⟨(some 28),(.fieldAddr 110 (.tmp 4) 2),(some (27,false))⟩,⟨(some 29),(.load 3 (.tmp 28)),(some (27,false))⟩,⟨(some 30),(.fieldAddr 110 (.tmp 4) 1),(some (27,false))⟩,⟨(some 31),(.load 3 (.tmp 30)),(some (27,false))⟩,⟨(some 32),(.call { callee:=(.value (.func 72)),args:=#[(.tmp 29),(.tmp 31),(.const (.int .i64 32))],argTypes:=#[3,3,3] }),(some (27,false))⟩,⟨(some 33),(.unOp .not 4 (.tmp 32)),(some (27,false))⟩,pQ 34 27 33]) ⟨[1,8,9,10,34],[.old 0],[],[]⟩)
def k47_1b:PC:=(sq (.reg [pO 11 .lss 3 10 9 3]) (sq (cd 11 .skip (.pre ⟨[1],[.old 0],[],[]⟩ (.exit 0))) (sq (.block 1 (sq (.reg [pI 12 82 8 10,pL 13 110 12,pG 4 110,⟨none,(.store 110 (.tmp 4) (.tmp 13)),none⟩]) (sq (.pre ⟨[1,4,8,9,10],[.old 0,.old 1],[],[]⟩ k47_3) (cd 34 (sq (.reg [pN 2 false]) (.pre ⟨[2],[],[],[]⟩ .ret)) .skip)))) (.post (.reg [pB 35 .add 3 10 1 3,pM 10 35]) ⟨[1,8,9,10],[.old 0],[],[]⟩))))
def k47_4b:PC:=(sq (.reg [pO 40 .lss 3 39 38 3]) (sq (cd 40 .skip (.pre ⟨[1],[.old 0],[],[]⟩ (.exit 2))) (sq (.block 3 (sq (.reg [pI 41 84 37 39,pL 42 92 41,pG 6 92,⟨none,(.store 92 (.tmp 6) (.tmp 42)),none⟩]) (sq (.reg [pL 43 92 6,pC 44 73 43 92,pU 45 4 44]) (cd 45 (sq (.reg [pN 2 false]) (.pre ⟨[2],[],[],[]⟩ .ret)) .skip)))) (.post (.reg [pB 46 .add 3 39 1 3,pM 39 46]) ⟨[1,37,38,39],[.old 0],[],[]⟩))))
def k47_5:PC:=(.post (.reg [pF 47 86 1 0,pL 48 82 47,pE 49 48 82,pB 50 .leq 3 49 6 3,pM 51 50,⟨(some 52),(.fieldAddr 86 (.tmp 1) 3),(some (51,true))⟩,⟨(some 53),(.load 84 (.tmp 52)),(some (51,true))⟩,⟨(some 54),(.call { callee:=(.builtin .len),args:=#[(.tmp 53)],argTypes:=#[84] }),(some (51,true))⟩,⟨(some 55),(.binOp .leq 3 (.tmp 54) (.const (.int .i64 5)) 3),(some (51,true))⟩,pP 56 51 55,pM 57 56,⟨(some 58),(.fieldAddr 86 (.tmp 1) 1),(some (57,true))⟩,⟨(some 59),(.load 83 (.tmp 58)),(some (57,true))⟩,⟨(some 60),(.call { callee:=(.builtin .len),args:=#[(.tmp 59)],argTypes:=#[83] }),(some (57,true))⟩,⟨(some 61),(.binOp .eql 3 (.tmp 60) (.const (.int .i64 0)) 3),(some (57,true))⟩,⟨(some 62),(.move (.tmp 61)),(some (57,true))⟩,⟨(some 63),(.fieldAddr 86 (.tmp 1) 1),(some (62,false))⟩,⟨(some 64),(.load 83 (.tmp 63)),(some (62,false))⟩,⟨(some 65),(.call { callee:=(.value (.func 74)),args:=#[(.tmp 64)],argTypes:=#[83] }),(some (62,false))⟩,⟨(some 66),(.pick (.tmp 62) (.const (.bool true)) (.tmp 65)),(some (57,true))⟩,pP 67 57 66,pM 68 67,⟨(some 69),(.fieldAddr 86 (.tmp 1) 2),(some (68,true))⟩,⟨(some 70),(.load 3 (.tmp 69)),(some (68,true))⟩,⟨(some 71),(.call { callee:=(.value (.func 72)),args:=#[(.tmp 70),(.const (.int .i64 (-1))),(.const (.int .i64 1000000))],argTypes:=#[3,3,3] }),(some (68,true))⟩,pP 72 68 71,pM 73 72,⟨(some 74),(.fieldAddr 86 (.tmp 1) 4),(some (73,true))⟩,⟨(some 75),(.load 3 (.tmp 74)),(some (73,true))⟩,⟨(some 76),(.call { callee:=(.value (.func 72)),args:=#[(.tmp 75),(.const (.int .i64 0)),(.const (.int .i64 2))],argTypes:=#[3,3,3] }),(some (73,true))⟩,pP 77 73 76,pA 2 77]) ⟨[2],[],[],[]⟩)
def c47:PC:=(sq (.reg [pX 1 86 0,pN 2 false]) (sq (sq (.reg [pF 7 86 1 0,pL 8 82 7,pE 9 8 82,pV 10 0]) (.block 0 (.pre ⟨[1,8,9,10],[.old 0],[],[]⟩ (.loop k47_1b)))) (sq (sq (.reg [pF 36 86 1 3,pL 37 84 36,pE 38 37 84,pV 39 0]) (.block 2 (.pre ⟨[1,37,38,39],[.old 0],[],[]⟩ (.loop k47_4b)))) (sq (.pre ⟨[1],[.old 0],[],[]⟩ k47_5) .ret))))
def i47:FnI:=⟨78,[(.tmp 2)],c47,0,[[4,2,0,2,0]],[[0]],false,false,0,false⟩
def k25_1b:PC:=(sq (.reg [pO 9 .lss 3 8 7 3]) (sq (cd 9 .skip (.pre ⟨[1],[.old 0],[],[]⟩ (.exit 0))) (sq (.block 1 (sq (.reg [pI 10 40 6 8,pL 11 86 10,pG 4 86,⟨none,(.store 86 (.tmp 4) (.tmp 11)),none⟩]) (sq (.reg [pL 12 86 4,pC 13 47 12 86,pU 14 4 13]) (cd 14 (sq (.reg [pN 2 false]) (.pre ⟨[2],[],[],[]⟩ .ret)) .skip)))) (.post (.reg [pB 15 .add 3 8 1 3,pM 8 15]) ⟨[1,6,7,8],[.old 0],[],[]⟩))))
def c25:PC:=(sq (.reg [pX 1 42 0,pN 2 false]) (sq (sq (.reg [pF 5 42 1 0,pL 6 40 5,pE 7 6 40,pV 8 0]) (.block 0 (.pre ⟨[1,6,7,8],[.old 0],[],[]⟩ (.loop k25_1b)))) (sq (.reg [pF 16 42 1 0,pL 17 40 16,pE 18 17 40,pB 19 .leq 3 18 8 3,pA 2 19]) .ret)))
def i25:FnI:=⟨20,[(.tmp 2)],c25,0,[[5,0]],[[0]],false,false,0,false⟩
def k49_1b:PC:=(sq (.reg [pO 11 .lss 3 10 9 3]) (sq (cd 11 .skip (.pre ⟨[1],[.old 0],[],[]⟩ (.exit 0))) (sq (.block 1 (sq (.reg [pI 12 27 8 10,pL 13 3 12,pA 4 13]) (sq (.reg [pM 14 4,⟨(some 15),(.call { callee:=(.value (.func 72)),args:=#[(.tmp 14),(.const (.int .i64 1)),(.const (.int .i64 65535))],argTypes:=#[3,3,3] }),none⟩,pU 16 4 15]) (cd 16 (sq (.reg [pN 2 false]) (.pre ⟨[2],[],[],[]⟩ .ret)) .skip)))) (.post (.reg [pB 17 .add 3 10 1 3,pM 10 17]) ⟨[1,8,9,10],[.old 0],[],[]⟩))))
def k49_4:PC:=(.post (.reg [pM 26 6,⟨(some 27),(.call { callee:=(.value (.func 72)),args:=#[(.tmp 26),(.const (.int .i64 0)),(.const (.int .i64 1000000))],argTypes:=#[3,3,3] }),none⟩,pU 28 4 27,pM 29 28,⟨(some 30),(.move (.tmp 5)),(some (29,false))⟩,⟨(some 31),(.binOp .gtr 3 (.tmp 30) (.const (.int .i64 0)) 3),(some (29,false))⟩,⟨(some 32),(.move (.tmp 31)),(some (29,false))⟩,⟨(some 33),(.fieldAddr 35 (.tmp 1) 5),(some (32,true))⟩,⟨(some 34),(.load 27 (.tmp 33)),(some (32,true))⟩,⟨(some 35),(.move (.tmp 5)),(some (32,true))⟩,⟨(some 36),(.binOp .sub 3 (.tmp 35) (.const (.int .i64 1)) 3),(some (32,true))⟩,⟨(some 37),(.indexAddr 27 (.tmp 34) (.tmp 36)),(some (32,true))⟩,⟨(some 38),(.load 3 (.tmp 37)),(some (32,true))⟩,⟨(some 39),(.move (.tmp 6)),(some (32,true))⟩,⟨(some 40),(.binOp .geq 3 (.tmp 38) (.tmp 39) 3),(some (32,true))⟩,⟨(some 41),(.pick (.tmp 32) (.tmp 40) (.const (.bool false))),(some (29,false))⟩,pQ 42 29 41]) ⟨[1,19,20,21,42],[.old 0],[],[]⟩)
def k49_2b:PC:=(sq (.reg [pO 22 .lss 3 21 20 3]) (sq (cd 22 .skip (.pre ⟨[1],[.old 0],[],[]⟩ (.exit 2))) (sq (.block 3 (sq (.reg [pM 23 21,pI 24 27 19 21,pL 25 3 24,pA 5 23,pA 6 25]) (sq (.pre ⟨[1,5,6,19,20,21],[.old 0],[],[]⟩ k49_4) (cd 42 (sq (.reg [pN 2 false]) (.pre ⟨[2],[],[],[]⟩ .ret)) .skip)))) (.post (.reg [pB 43 .add 3 21 1 3,pM 21 43]) ⟨[1,19,20,21],[.old 0],[],[]⟩))))
def k49_5:PC:=(.post (.reg [pF 44 35 1 0,pL 45 3 44,⟨(some 46),(.call { callee:=(.value (.func 72)),args:=#[(.tmp 45),(.const (.int .i64 0)),(.const (.int .i64 2))],argTypes:=#[3,3,3] }),none⟩,pM 47 46,⟨(some 48),(.fieldAddr 35 (.tmp 1) 1),(some (47,true))⟩,⟨(some 49),(.load 27 (.tmp 48)),(some (47,true))⟩,⟨(some 50),(.call { callee:=(.builtin .len),args:=#[(.tmp 49)],argTypes:=#[27] }),(some (47,true))⟩,⟨(some 51),(.binOp .leq 3 (.tmp 50) (.const (.int .i64 10)) 3),(some (47,true))⟩,pP 52 47 51,pM 53 52,⟨(some 54),(.fieldAddr 35 (.tmp 1) 2),(some (53,true))⟩,⟨(some 55),(.load 3 (.tmp 54)),(some (53,true))⟩,⟨(some 56),(.call { callee:=(.value (.func 75)),args:=#[(.tmp 55)],argTypes:=#[3] }),(some (53,true))⟩,pP 57 53 56,pM 58 57,⟨(some 59),(.fieldAddr 35 (.tmp 1) 3),(some (58,true))⟩,⟨(some 60),(.load 3 (.tmp 59)),(some (58,true))⟩,⟨(some 61),(.call { callee:=(.value (.func 72)),args:=#[(.tmp 60),(.const (.int .i64 0)),(.const (.int .i64 1000000))],argTypes:=#[3,3,3] }),(some (58,true))⟩,pP 62 58 61,pM 63 62,⟨(some 64),(.fieldAddr 35 (.tmp 1) 4),(some (63,true))⟩,⟨(some 65),(.load 3 (.tmp 64)),(some (63,true))⟩,⟨(some 66),(.call { callee:=(.value (.func 72)),args:=#[(.tmp 65),(.const (.int .i64 0)),(.const (.int .i64 1000000))],argTypes:=#[3,3,3] }),(some (63,true))⟩,pP 67 63 66,pM 68 67,⟨(some 69),(.fieldAddr 35 (.tmp 1) 5),(some (68,true))⟩,⟨(some 70),(.load 27 (.tmp 69)),(some (68,true))⟩,⟨(some 71),(.call { callee:=(.builtin .len),args:=#[(.tmp 70)],argTypes:=#[27] }),(some (68,true))⟩,⟨(some 72),(.binOp .leq 3 (.tmp 71) (.const (.int .i64 6)) 3),(some (68,true))⟩,pP 73 68 72,pA 2 73]) ⟨[2],[],[],[]⟩)
def c49:PC:=(sq (.reg [pX 1 35 0,pN 2 false]) (sq (sq (.reg [pF 7 35 1 1,pL 8 27 7,pE 9 8 27,pV 10 0]) (.block 0 (.pre ⟨[1,8,9,10],[.old 0],[],[]⟩ (.loop k49_1b)))) (sq (sq (.reg [pF 18 35 1 5,pL 19 27 18,pE 20 19 27,pV 21 0]) (.block 2 (.pre ⟨[1,19,20,21],[.old 0],[],[]⟩ (.loop k49_2b)))) (sq (.pre ⟨[1],[.old 0],[],[]⟩ k49_5) .ret))))
def i49:FnI:=⟨74,[(.tmp 2)],c49,0,[[0,1,0,0,0,1]],[[0]],false,false,0,false⟩
def k26_1:PC:=(.post (.reg [pF 3 37 1 0,pL 4 34 3,pC 5 48 4 34,pM 6 5,⟨(some 7),(.fieldAddr 37 (.tmp 1) 1),(some (6,true))⟩,⟨(some 8),(.load 35 (.tmp 7)),(some (6,true))⟩,⟨(some 9),(.call { callee:=(.value (.func 49)),args:=#[(.tmp 8)],argTypes:=#[35] }),(some (6,true))⟩,pP 10 6 9,pA 2 10]) ⟨[2],[],[],[]⟩)
def c26:PC:=(sq (.reg [pX 1 37 0,pN 2 false]) (sq (.pre ⟨[1],[.old 0],[],[]⟩ k26_1) .ret))
def i26:FnI:=⟨11,[(.tmp 2)],c26,0,[[0,0,0,1,0,0,0,1]],[[0]],false,false,0,false⟩
def c52:PC:=(sq (.reg [pX 1 35 0,pG 2 35]) (sq (.reg [⟨(some 3),(.buildSlice 27 0 #[]),none⟩,pF 4 35 1 1,pL 5 27 4,⟨(some 6),(.call { callee:=(.builtin .append),args:=#[(.tmp 3),(.tmp 5)],argTypes:=#[27,27] }),none⟩,pF 7 35 1 1,⟨none,(.store 27 (.tmp 7) (.tmp 6)),none⟩]) (sq (.reg [⟨(some 8),(.buildSlice 27 0 #[]),none⟩,pF 9 35 1 5,pL 10 27 9,⟨(some 11),(.call { callee:=(.builtin .append),args:=#[(.tmp 8),(.tmp 10)],argTypes:=#[27,27] }),none⟩,pF 12 35 1 5,⟨none,(.store 27 (.tmp 12) (.tmp 11)),none⟩]) (sq (.reg [pL 13 35 1,⟨none,(.store 35 (.tmp 2) (.tmp 13)),none⟩]) .ret))))
def i52:FnI:=⟨14,[(.cell 2 35)],c52,0,[[0,1,0,0,0,1]],[[0,1,0,0,0,1]],false,false,0,false⟩
@[go_sem] def x28_1:FxI:=⟨[4,6],[none,none,none,none,none,none,none],0,[[],[4],[4,6]],[],[(1,1,1)]⟩
def c28:PC:=(sq (.reg [pX 1 37 0,pG 2 37]) (sq (.fx [pF 3 37 1 0,pL 4 34 3,pF 5 37 1 1,pL 6 35 5,pC 7 52 6 35,⟨(some 8),(.build 37 #[(0,(.tmp 4)),(1,(.tmp 7))]),none⟩,⟨none,(.store 37 (.tmp 2) (.tmp 8)),none⟩] x28_1) .ret))
def i28:FnI:=⟨9,[(.cell 2 37)],c28,0,[[0,0,0,1,0,0,0,1]],[[0,0,0,1,0,0,0,1]],false,false,0,false⟩
def c110:PC:=(sq (.reg [pX 2 34 0,pN 4 false]) (sq (.fz [pM 5 1,pM 6 1,pL 7 34 2,pC 8 76 7 34,pO 9 .rem 3 6 8 3,pO 10 .sub 3 5 9 3,pF 11 34 2 0,pL 12 3 11,pO 13 .eql 3 10 12 3,pA 4 13]) .ret))
def i110:FnI:=⟨14,[(.tmp 4)],c110,0,[[0,0],[0]],[[0]],false,false,0,false⟩
def k77_1:PC:=(.post (.reg [pF 5 34 2 1,pL 6 3 5,pF 7 34 3 1,pL 8 3 7,pO 9 .leq 3 6 8 3,pM 10 9,⟨(some 11),(.load 34 (.tmp 2)),(some (10,true))⟩,⟨(some 12),(.fieldAddr 34 (.tmp 3) 0),(some (10,true))⟩,⟨(some 13),(.load 3 (.tmp 12)),(some (10,true))⟩,⟨(some 14),(.call { callee:=(.value (.func 110)),args:=#[(.tmp 11),(.tmp 13)],argTypes:=#[34,3] }),(some (10,true))⟩,pP 15 10 14,pA 4 15]) ⟨[4],[],[],[]⟩)
def c77:PC:=(sq (.reg [pX 2 34 0,pX 3 34 1,pN 4 false]) (sq (.pre ⟨[2,3],[.old 0,.old 1],[],[]⟩ k77_1) .ret))
def i77:FnI:=⟨16,[(.tmp 4)],c77,0,[[0,0],[0,0]],[[0]],false,false,0,false⟩
def k111_1b:PC:=(sq (.reg [pO 8 .lss 3 7 6 3]) (sq (cd 8 .skip (.pre ⟨[0],[],[],[]⟩ (.exit 0))) (sq (.block 1 (sq (.reg [pI 9 27 5 7,pL 10 3 9,pA 4 10]) (sq (.reg [pM 11 4,⟨(some 12),(.call { callee:=(.value (.func 72)),args:=#[(.tmp 11),(.const (.int .i64 1)),(.const (.int .i64 65535))],argTypes:=#[3,3,3] }),none⟩,pU 13 4 12]) (cd 13 (sq (.reg [pN 2 false]) (.pre ⟨[2],[],[],[]⟩ .ret)) .skip)))) (.post (.reg [pB 14 .add 3 7 1 3,pM 7 14]) ⟨[0,5,6,7],[],[],[]⟩))))
def c111:PC:=(sq (.reg [pN 2 false]) (sq (sq (.reg [pM 5 0,pE 6 5 27,pV 7 0]) (.block 0 (.pre ⟨[0,5,6,7],[],[],[]⟩ (.loop k111_1b)))) (sq (.reg [pM 15 0,pE 16 15 27,pB 17 .leq 3 16 10 3,pA 2 17]) .ret)))
def i111:FnI:=⟨18,[(.tmp 2)],c111,0,[[1]],[[0]],false,false,0,false⟩
def k80_3:PC:=(.post (.reg [pM 7 5,pM 8 0,pE 9 8 27,pO 10 .lss 3 7 9 3,pM 11 10,⟨(some 12),(.move (.tmp 0)),(some (11,true))⟩,⟨(some 13),(.move (.tmp 5)),(some (11,true))⟩,⟨(some 14),(.indexAddr 27 (.tmp 12) (.tmp 13)),(some (11,true))⟩,⟨(some 15),(.load 3 (.tmp 14)),(some (11,true))⟩,⟨(some 16),(.move (.tmp 1)),(some (11,true))⟩,⟨(some 17),(.binOp .lss 3 (.tmp 15) (.tmp 16) 3),(some (11,true))⟩,pP 18 11 17]) ⟨[0,1,5,18],[.old 1],[0],[]⟩)
def k80_1b:PC:=(sq (sq (.pre ⟨[0,1,5],[.old 1],[0],[]⟩ k80_3) (cd 18 .skip (.pre ⟨[0,1,5],[.old 1],[0],[]⟩ (.exit 0)))) (.block 1 (.post (.reg [pM 19 5,pB 20 .add 3 19 1 3,pA 5 20]) ⟨[0,1,5],[.old 1],[0],[]⟩)))
def k80_4:PC:=(.post (.reg [pM 21 5,pM 22 0,pE 23 22 27,pO 24 .lss 3 21 23 3,pM 25 24,⟨(some 26),(.move (.tmp 0)),(some (25,true))⟩,⟨(some 27),(.move (.tmp 5)),(some (25,true))⟩,⟨(some 28),(.indexAddr 27 (.tmp 26) (.tmp 27)),(some (25,true))⟩,⟨(some 29),(.load 3 (.tmp 28)),(some (25,true))⟩,⟨(some 30),(.move (.tmp 1)),(some (25,true))⟩,⟨(some 31),(.binOp .eql 3 (.tmp 29) (.tmp 30) 3),(some (25,true))⟩,pP 32 25 31]) ⟨[0,1,5,32],[.old 1],[0],[]⟩)
def c80:PC:=(sq (.reg [pS 4]) (sq (.reg [pK 5 0]) (sq (.block 0 (.pre ⟨[0,1,5],[.old 0],[0],[]⟩ (.loop k80_1b))) (sq (sq (.pre ⟨[0,1,5],[.old 1],[0],[]⟩ k80_4) (cd 32 (sq (.reg [pM 33 0,pA 4 33]) (.pre ⟨[4],[.old 1],[0],[]⟩ .ret)) .skip)) (sq (.reg [pS 6]) (sq (.reg [pM 34 6,pM 35 0,pM 36 5,⟨(some 37),(.slice 27 (.tmp 35) none (some (.tmp 36)) none),none⟩,⟨(some 38),(.call { callee:=(.builtin .append),args:=#[(.tmp 34),(.tmp 37)],argTypes:=#[27,27] }),none⟩,pA 6 38]) (sq (.reg [pM 39 6,pM 40 1,⟨(some 41),(.buildSlice 27 1 #[(0,(.tmp 40))]),none⟩,⟨(some 42),(.call { callee:=(.builtin .append),args:=#[(.tmp 39),(.tmp 41)],argTypes:=#[27,27] }),none⟩,pA 6 42]) (sq (.reg [pM 43 6,pM 44 0,pM 45 5,⟨(some 46),(.slice 27 (.tmp 44) (some (.tmp 45)) none none),none⟩,⟨(some 47),(.call { callee:=(.builtin .append),args:=#[(.tmp 43),(.tmp 46)],argTypes:=#[27,27] }),none⟩,pA 4 47]) (.pre ⟨[4],[.old 5],[0],[]⟩ .ret)))))))))
def i80:FnI:=⟨48,[(.tmp 4)],c80,3,[[1],[0]],[[1]],false,true,1,false⟩
def k112_1:PC:=(cd 27 (.post .skip ⟨[1,2,3,22,27],[.old 0],[],[]⟩) (.post (.reg [pB 29 .eql 3 22 4 3,pA 27 29]) ⟨[1,2,3,22,27],[.old 0],[],[]⟩))
def k112_3:PC:=(.post (.fz [pM 30 2,pM 31 1,pE 32 31 27,pO 33 .lss 3 30 32 3,pM 34 33,⟨(some 35),(.fieldAddr 140 (.tmp 3) 0),(some (34,true))⟩,⟨(some 36),(.load 3 (.tmp 35)),(some (34,true))⟩,⟨(some 37),(.binOp .eql 3 (.tmp 36) (.const (.int .i64 4)) 3),(some (34,true))⟩,⟨(some 38),(.move (.tmp 37)),(some (34,true))⟩,⟨(some 39),(.move (.tmp 1)),(some (38,false))⟩,⟨(some 40),(.move (.tmp 2)),(some (38,false))⟩,⟨(some 41),(.indexAddr 27 (.tmp 39) (.tmp 40)),(some (38,false))⟩,⟨(some 42),(.load 3 (.tmp 41)),(some (38,false))⟩,⟨(some 43),(.fieldAddr 140 (.tmp 3) 1),(some (38,false))⟩,⟨(some 44),(.load 3 (.tmp 43)),(some (38,false))⟩,⟨(some 45),(.binOp .eql 3 (.tmp 42) (.tmp 44) 3),(some (38,false))⟩,⟨(some 46),(.pick (.tmp 38) (.const (.bool true)) (.tmp 45)),(some (34,true))⟩,pP 47 34 46]) ⟨[2,47],[],[],[]⟩)
def k112_4b:PC:=(sq (.reg [pO 69 .lss 3 68 67 3]) (sq (cd 69 .skip (.pre ⟨[7],[.old 0],[],[]⟩ (.exit 1))) (sq (.block 2 (sq (.reg [pI 70 27 66 68,pL 71 3 70,pA 9 71]) (.reg [pM 72 7,pM 73 9,pC2 74 80 72 73 27 3,pA 7 74]))) (.post (.reg [pB 75 .add 3 68 1 3,pM 68 75]) ⟨[7,66,67,68],[.old 2,.old 1],[],[]⟩))))
def k112_7b:PC:=(sq (.reg [pO 100 .lss 3 99 98 3]) (sq (cd 100 .skip (.pre ⟨[1,3,10,85,86,87],[.old 0,.old 1,.old 2],[],[]⟩ (.exit 5))) (sq (.block 6 (sq (.reg [pI 101 27 97 99,pL 102 3 101,pA 14 102]) (.reg [pM 103 10,pM 104 14,pC2 105 80 103 104 27 3,pA 10 105]))) (.post (.reg [pB 106 .add 3 99 1 3,pM 99 106]) ⟨[1,3,10,85,86,87,97,98,99],[.old 0,.old 4,.old 2,.old 3],[],[]⟩))))
def k112_5b:PC:=(sq (.reg [pO 88 .lss 3 87 86 3]) (sq (cd 88 .skip (.pre ⟨[10],[.old 1],[],[]⟩ (.exit 3))) (sq (.block 4 (sq (.reg [pI 89 27 85 87,pL 90 3 89,pA 12 90]) (sq (.reg [pF 91 140 3 2,pL 92 138 91,⟨(some 93),(.indexAddr 138 (.tmp 92) (.const (.int .i64 1))),none⟩,pL 94 140 93,pM 95 1,pM 96 12,pC3 97 112 94 95 96 140 27 3,pE 98 97 27,pV 99 0]) (.block 5 (.pre ⟨[1,3,10,85,86,87,97,98,99],[.old 0,.old 1,.old 2,.old 3],[],[]⟩ (.loop k112_7b)))))) (.post (.reg [pB 107 .add 3 87 1 3,pM 87 107]) ⟨[1,3,10,85,86,87],[.old 0,.old 1,.old 2],[],[]⟩))))
def k112_14b:PC:=(sq (.reg [pO 132 .lss 3 131 130 3]) (sq (cd 132 .skip (.pre ⟨[1,3,15,16,117,118,119],[.old 0,.old 1,.old 2],[],[]⟩ (.exit 11))) (sq (.block 12 (sq (.reg [pI 133 27 129 131,pL 134 3 133,pA 20 134]) (.reg [pM 135 15,pM 136 20,pC2 137 80 135 136 27 3,pA 15 137]))) (.post (.reg [pB 138 .add 3 131 1 3,pM 131 138]) ⟨[1,3,15,16,117,118,119,129,130,131],[.old 0,.old 4,.old 2,.old 3],[],[]⟩))))
def k112_12b:PC:=(sq (.reg [pO 120 .lss 3 119 118 3]) (sq (cd 120 .skip (.pre ⟨[1,3,15,16],[.old 0,.old 1],[],[]⟩ (.exit 9))) (sq (.block 10 (sq (.reg [pI 121 27 117 119,pL 122 3 121,pA 18 122]) (sq (.reg [pF 123 140 3 2,pL 124 138 123,⟨(some 125),(.indexAddr 138 (.tmp 124) (.const (.int .i64 0))),none⟩,pL 126 140 125,pM 127 1,pM 128 18,pC3 129 112 126 127 128 140 27 3,pE 130 129 27,pV 131 0]) (.block 11 (.pre ⟨[1,3,15,16,117,118,119,129,130,131],[.old 0,.old 1,.old 2,.old 3],[],[]⟩ (.loop k112_14b)))))) (.post (.reg [pB 139 .add 3 119 1 3,pM 119 139]) ⟨[1,3,15,16,117,118,119],[.old 0,.old 1,.old 2],[],[]⟩))))
def k112_8b:PC:=(.block 8 (sq (.reg [pM 113 15,pE 114 113 27,pA 16 114]) (sq (sq (.reg [⟨(some 115),(.buildSlice 27 0 #[]),none⟩,pM 116 15,⟨(some 117),(.call { callee:=(.builtin .append),args:=#[(.tmp 115),(.tmp 116)],argTypes:=#[27,27] }),none⟩,pE 118 117 27,pV 119 0]) (.block 9 (.pre ⟨[1,3,15,16,117,118,119],[.old 0,.old 1,.old 3],[],[]⟩ (.loop k112_12b)))) (sq (.reg [pM 140 15,pE 141 140 27,pM 142 16,pO 143 .eql 3 141 142 3]) (cd 143 (sq (.reg [pM 144 15,pA 6 144]) (.pre ⟨[6],[.old 1],[],[]⟩ .ret)) (.post .skip ⟨[1,3,15],[.old 0,.old 1],[],[]⟩))))))
def k112_2:PC:=(cd 27 (sq (.pre ⟨[1,2,3],[.old 0],[],[]⟩ k112_3) (cd 47 (sq (.reg [pM 48 2,pB 49 .add 3 48 1 3,⟨(some 50),(.buildSlice 27 1 #[(0,(.tmp 49))]),none⟩,pA 6 50]) (.pre ⟨[6],[.old 0],[],[]⟩ .ret)) (.post .skip ⟨[],[],[],[]⟩))) (sq (.reg [pB 52 .eql 3 22 6 3,pA 51 52]) (cd 51 (sq (.reg [pF 53 140 3 2,pL 54 138 53,⟨(some 55),(.indexAddr 138 (.tmp 54) (.const (.int .i64 0))),none⟩,pL 56 140 55,pM 57 1,pM 58 2,pC3 59 112 56 57 58 140 27 3,pA 7 59]) (sq (sq (.reg [pF 60 140 3 2,pL 61 138 60,⟨(some 62),(.indexAddr 138 (.tmp 61) (.const (.int .i64 1))),none⟩,pL 63 140 62,pM 64 1,pM 65 2,pC3 66 112 63 64 65 140 27 3,pE 67 66 27,pV 68 0]) (.block 1 (.pre ⟨[7,66,67,68],[.old 1,.old 2],[],[]⟩ (.loop k112_4b)))) (sq (.reg [pM 76 7,pA 6 76]) (.pre ⟨[6],[.old 0],[],[]⟩ .ret)))) (sq (.reg [pB 78 .eql 3 22 5 3,pA 77 78]) (cd 77 (sq (.reg [pS 10]) (sq (sq (.reg [pF 79 140 3 2,pL 80 138 79,⟨(some 81),(.indexAddr 138 (.tmp 80) (.const (.int .i64 0))),none⟩,pL 82 140 81,pM 83 1,pM 84 2,pC3 85 112 82 83 84 140 27 3,pE 86 85 27,pV 87 0]) (.block 3 (.pre ⟨[1,3,10,85,86,87],[.old 0,.nilT 10 0 1,.old 1],[],[]⟩ (.loop k112_5b)))) (sq (.reg [pM 108 10,pA 6 108]) (.pre ⟨[6],[.old 0],[],[]⟩ .ret)))) (sq (.reg [pB 110 .eql 3 22 7 3,pA 109 110]) (cd 109 (sq (.reg [pM 111 2,⟨(some 112),(.buildSlice 27 1 #[(0,(.tmp 111))]),none⟩,pA 15 112]) (.block 7 (.pre ⟨[1,3,15],[.old 0,.old 1],[],[]⟩ (.loop k112_8b)))) (.post .skip ⟨[],[],[],[]⟩))))))))
def c112:PC:=(sq (.reg [pX 3 140 0,pS 6]) (sq (sq (.reg [pF 21 140 3 0,pL 22 3 21]) (.block 0 (sq (.reg [pB 24 .eql 3 22 2 3,pA 23 24]) (cd 23 (sq (.reg [pM 25 2,⟨(some 26),(.buildSlice 27 1 #[(0,(.tmp 25))]),none⟩,pA 6 26]) .ret) (sq (sq (.reg [pB 28 .eql 3 22 3 3,pA 27 28]) (.pre ⟨[1,2,3,22,27],[.old 0],[],[]⟩ k112_1)) (.pre ⟨[1,2,3,22,27],[.old 0],[],[]⟩ k112_2)))))) (sq (.reg [pS 6]) .ret)))
def i112:FnI:=⟨145,[(.tmp 6)],c112,0,[[0,0,3],[1],[0]],[[1]],false,false,0,false⟩
def k79_1b:PC:=(sq (.reg [pO 10 .lss 3 9 8 3]) (sq (cd 10 .skip (.pre ⟨[],[],[],[]⟩ (.exit 0))) (sq (.block 1 (sq (.reg [pI 11 27 7 9,pL 12 3 11,pA 6 12]) (sq (.reg [pM 13 6,pM 14 1,pO 15 .eql 3 13 14 3]) (cd 15 (sq (.reg [pN 4 true]) (.pre ⟨[4],[],[],[]⟩ .ret)) .skip)))) (.post (.reg [pB 16 .add 3 9 1 3,pM 9 16]) ⟨[1,7,8,9],[],[],[]⟩))))
def c79:PC:=(sq (.reg [pN 4 false]) (sq (sq (.reg [pM 7 0,pE 8 7 27,pV 9 0]) (.block 0 (.pre ⟨[1,7,8,9],[],[],[]⟩ (.loop k79_1b)))) (sq (.reg [pN 4 false]) .ret)))
def i79:FnI:=⟨17,[(.tmp 4)],c79,0,[[1],[0]],[[0]],false,false,0,false⟩
def k78_1:PC:=(.post (.reg [pM 13 7,pU 14 4 13,pM 15 14,⟨(some 16),(.move (.tmp 1)),(some (15,false))⟩,⟨(some 17),(.call { callee:=(.value (.func 111)),args:=#[(.tmp 16)],argTypes:=#[27] }),(some (15,false))⟩,⟨(some 18),(.unOp .not 4 (.tmp 17)),(some (15,false))⟩,pQ 19 15 18]) ⟨[1,6,19],[.old 0,.old 1],[],[]⟩)
def c78:PC:=(sq (.reg [pN 4 false,pN 5 false]) (sq (.reg [pM 9 0,pC 10 109 9 83,pM 8 10,pT 11 8 0,pT 12 8 1,pG 6 140,⟨none,(.store 140 (.tmp 6) (.tmp 11)),none⟩,pA 7 12]) (sq (sq (.pre ⟨[1,6,7],[.old 1,.old 0],[],[]⟩ k78_1) (cd 19 (sq (.reg [pN 4 false,pN 5 false]) .ret) .skip)) (sq (.reg [pL 20 140 6,pM 21 1,⟨(some 22),(.call { callee:=(.value (.func 112)),args:=#[(.tmp 20),(.tmp 21),(.const (.int .i64 0))],argTypes:=#[140,27,3] }),none⟩,pM 23 1,pE 24 23 27,pC2 25 79 22 24 27 3,pA 4 25,pN 5 true]) .ret))))
def i78:FnI:=⟨26,[(.tmp 4),(.tmp 5)],c78,0,[[2],[1]],[[0],[0]],false,false,0,false⟩
def k50_4:PC:=(.post (.reg [pM 21 5,pM 22 21,⟨(some 23),(.fieldAddr 110 (.tmp 7) 0),(some (22,false))⟩,⟨(some 24),(.load 34 (.tmp 23)),(some (22,false))⟩,⟨(some 25),(.fieldAddr 37 (.tmp 3) 0),(some (22,false))⟩,⟨(some 26),(.load 34 (.tmp 25)),(some (22,false))⟩,⟨(some 27),(.call { callee:=(.value (.func 77)),args:=#[(.tmp 24),(.tmp 26)],argTypes:=#[34,34] }),(some (22,false))⟩,⟨(some 28),(.move (.tmp 27)),(some (22,false))⟩,⟨(some 29),(.fieldAddr 37 (.tmp 3) 0),(some (28,true))⟩,⟨(some 30),(.fieldAddr 34 (.tmp 29) 1),(some (28,true))⟩,⟨(some 31),(.load 3 (.tmp 30)),(some (28,true))⟩,⟨(some 32),(.fieldAddr 110 (.tmp 7) 1),(some (28,true))⟩,⟨(some 33),(.load 3 (.tmp 32)),(some (28,true))⟩,⟨(some 34),(.fieldAddr 110 (.tmp 7) 2),(some (28,true))⟩,⟨(some 35),(.load 3 (.tmp 34)),(some (28,true))⟩,⟨(some 36),(.call { callee:=(.value (.func 72)),args:=#[(.tmp 31),(.tmp 33),(.tmp 35)],argTypes:=#[3,3,3] }),(some (28,true))⟩,⟨(some 37),(.pick (.tmp 28) (.tmp 36) (.const (.bool false))),(some (22,false))⟩,pQ 38 22 37,pA 5 38]) ⟨[2,3,5,15,16,17],[.old 0,.old 1],[],[]⟩)
def k50_2b:PC:=(sq (.reg [pO 18 .lss 3 17 16 3]) (sq (cd 18 .skip (.pre ⟨[2,3,5],[.old 0,.old 1],[],[]⟩ (.exit 0))) (sq (.block 1 (sq (.reg [pI 19 82 15 17,pL 20 110 19,pG 7 110,⟨none,(.store 110 (.tmp 7) (.tmp 20)),none⟩]) (.pre ⟨[2,3,5,7,15,16,17],[.old 0,.old 1,.old 2],[],[]⟩ k50_4))) (.post (.reg [pB 39 .add 3 17 1 3,pM 17 39]) ⟨[2,3,5,15,16,17],[.old 0,.old 1],[],[]⟩))))
def k50_1:PC:=(cd 13 (sq (.reg [pN 5 false]) (sq (sq (.reg [pF 14 86 2 0,pL 15 82 14,pE 16 15 82,pV 17 0]) (.block 0 (.pre ⟨[2,3,5,15,16,17],[.old 0,.old 1],[],[]⟩ (.loop k50_2b)))) (sq (.reg [pM 40 5,pU 41 4 40]) (cd 41 (sq (.reg [pN 4 false]) (.pre ⟨[4],[],[],[]⟩ .ret)) (.post .skip ⟨[2,3],[.old 0,.old 1],[],[]⟩))))) (.post .skip ⟨[2,3],[.old 0,.old 1],[],[]⟩))
def k50_5:PC:=(cd 45 (sq (.reg [pF 47 86 2 1,pL 48 83 47,pF 49 37 3 1,pF 50 35 49 1,pL 51 27 50,pC2 52 78 48 51 83 27,pM 46 52,pT 53 46 0,pT 54 46 1,pA 8 53,pA 9 54]) (sq (.reg [pM 55 8,pU 56 4 55]) (cd 56 (sq (.reg [pN 4 false]) (.pre ⟨[4],[],[],[]⟩ .ret)) (.post .skip ⟨[2,3],[.old 0,.old 1],[],[]⟩)))) (.post .skip ⟨[2,3],[.old 0,.old 1],[],[]⟩))
def k50_6:PC:=(.post (.reg [pF 57 86 2 2,pL 58 3 57,pB 59 .eql 3 58 (-1) 3,pM 60 59,⟨(some 61),(.fieldAddr 37 (.tmp 3) 1),(some (60,false))⟩,⟨(some 62),(.fieldAddr 35 (.tmp 61) 5),(some (60,false))⟩,⟨(some 63),(.load 27 (.tmp 62)),(some (60,false))⟩,⟨(some 64),(.fieldAddr 86 (.tmp 2) 2),(some (60,false))⟩,⟨(some 65),(.load 3 (.tmp 64)),(some (60,false))⟩,⟨(some 66),(.call { callee:=(.value (.func 79)),args:=#[(.tmp 63),(.tmp 65)],argTypes:=#[27,3] }),(some (60,false))⟩,pQ 67 60 66,pA 4 67]) ⟨[4],[],[],[]⟩)
def c50:PC:=(sq (.reg [pX 2 86 0,pX 3 37 1,pN 4 false]) (sq (sq (.reg [pF 10 86 2 0,pL 11 82 10,pE 12 11 82,pB 13 .gtr 3 12 0 3]) (.pre ⟨[2,3,13],[.old 0,.old 1],[],[]⟩ k50_1)) (sq (sq (.reg [pF 42 86 2 1,pL 43 83 42,pE 44 43 83,pB 45 .gtr 3 44 0 3]) (.pre ⟨[2,3,45],[.old 0,.old 1],[],[]⟩ k50_5)) (sq (.pre ⟨[2,3],[.old 0,.old 1],[],[]⟩ k50_6) .ret))))
def i50:FnI:=⟨68,[(.tmp 4)],c50,0,[[4,2,0,2,0],[0,0,0,1,0,0,0,1]],[[0]],false,false,0,false⟩
def k51_7:PC:=(cd 52 (.post (.reg [pM 53 6,pM 54 8,⟨(some 55),(.buildSlice 27 1 #[(0,(.tmp 54))]),none⟩,⟨(some 56),(.call { callee:=(.builtin .append),args:=#[(.tmp 53),(.tmp 55)],argTypes:=#[27,27] }),none⟩,pA 6 56]) ⟨[2,4,5,6,43,44,45],[.old 0,.old 1,.old 2,.old 3,.old 4,.old 5,.old 6,.old 9],[],[]⟩) (.post .skip ⟨[2,4,5,6,43,44,45],[.old 0,.old 1,.old 2,.old 3,.old 4,.old 5,.old 6,.old 7],[],[]⟩))
def k51_5b:PC:=(sq (.reg [pO 46 .lss 3 45 44 3]) (sq (cd 46 .skip (.pre ⟨[4,5,6],[.old 1,.old 2,.old 3,.old 4,.old 5,.old 6,.old 7],[],[]⟩ (.exit 1))) (sq (.block 2 (sq (.reg [pI 47 27 43 45,pL 48 3 47,pA 8 48]) (sq (.reg [pM 49 8,pF 50 92 2 1,pL 51 3 50,pO 52 .neq 3 49 51 3]) (.pre ⟨[2,4,5,6,8,43,44,45,52],[.old 0,.old 1,.old 2,.old 3,.old 4,.old 5,.old 6,.old 7],[],[]⟩ k51_7)))) (.post (.reg [pB 57 .add 3 45 1 3,pM 45 57]) ⟨[2,4,5,6,43,44,45],[.old 0,.old 1,.old 2,.old 3,.old 4,.old 5,.old 6,.old 7],[],[]⟩))))
def k51_8:PC:=(cd 61 (.post (.reg [pF 63 92 2 1,pL 64 3 63,⟨(some 65),(.buildSlice 27 1 #[(0,(.tmp 64))]),none⟩,pF 66 37 3 1,pF 67 35 66 1,pL 68 27 67,⟨(some 69),(.call { callee:=(.builtin .append),args:=#[(.tmp 65),(.tmp 68)],argTypes:=#[27,27] }),none⟩,pF 70 37 5 1,pF 71 35 70 1,⟨none,(.store 27 (.tmp 71) (.tmp 69)),none⟩]) ⟨[4,5],[.old 2,.old 3,.old 4,.old 5,.old 9,.old 7],[],[]⟩) (.post .skip ⟨[4,5],[.old 2,.old 3,.old 4,.old 5,.old 6,.old 7],[],[]⟩))
def k51_4:PC:=(cd 39 (sq (.reg [pS 6]) (sq (sq (.reg [pF 41 37 3 1,pF 42 35 41 5,pL 43 27 42,pE 44 43 27,pV 45 0]) (.block 1 (.pre ⟨[2,4,5,6,43,44,45],[.old 0,.old 2,.old 3,.old 4,.old 5,.old 6,.old 7,.nilT 6 0 1],[],[]⟩ (.loop k51_5b)))) (.post (.reg [pM 58 6,pF 59 37 5 1,pF 60 35 59 5,⟨none,(.store 27 (.tmp 60) (.tmp 58)),none⟩]) ⟨[4,5],[.old 0,.old 1,.old 2,.old 3,.old 4,.old 6],[],[]⟩))) (sq (.reg [pB 62 .eql 3 16 5 3,pA 61 62]) (.post (.pre ⟨[2,3,4,5,61],[.old 0,.old 1,.old 2,.old 3,.old 4,.old 5,.old 6,.old 7],[],[]⟩ k51_8) ⟨[4,5],[.old 0,.old 1,.old 2,.old 3,.old 4,.old 5],[],[]⟩)))
def k51_3:PC:=(cd 29 (.post (.reg [pF 31 37 5 1,pF 32 35 31 5,pL 33 27 32,pF 34 92 2 1,pL 35 3 34,pC2 36 80 33 35 27 3,pF 37 37 5 1,pF 38 35 37 5,⟨none,(.store 27 (.tmp 38) (.tmp 36)),none⟩]) ⟨[4,5],[.old 2,.old 3,.old 4,.old 5,.old 6,.old 8],[],[]⟩) (sq (.reg [pB 40 .eql 3 16 4 3,pA 39 40]) (.post (.pre ⟨[2,3,4,5,16,39],[.old 0,.old 1,.old 2,.old 3,.old 4,.old 5,.old 6,.old 7],[],[]⟩ k51_4) ⟨[4,5],[.old 0,.old 1,.old 2,.old 3,.old 4,.old 5],[],[]⟩)))
def k51_2:PC:=(cd 23 (.post (.reg [pF 25 92 2 1,pL 26 3 25,pF 27 37 5 1,pF 28 35 27 3,⟨none,(.store 3 (.tmp 28) (.tmp 26)),none⟩]) ⟨[4,5],[.old 2,.old 3,.old 4,.old 5,.old 6,.old 7],[],[]⟩) (sq (.reg [pB 30 .eql 3 16 3 3,pA 29 30]) (.post (.pre ⟨[2,3,4,5,16,29],[.old 0,.old 1,.old 2,.old 3,.old 4,.old 5,.old 6,.old 7],[],[]⟩ k51_3) ⟨[4,5],[.old 0,.old 1,.old 2,.old 3,.old 4,.old 5],[],[]⟩)))
def k51_1:PC:=(cd 17 (.post (.reg [pF 19 92 2 1,pL 20 3 19,pF 21 37 5 1,pF 22 35 21 4,⟨none,(.store 3 (.tmp 22) (.tmp 20)),none⟩]) ⟨[4,5],[.old 2,.old 3,.old 4,.old 5,.old 6,.old 7],[],[]⟩) (sq (.reg [pB 24 .eql 3 16 2 3,pA 23 24]) (.post (.pre ⟨[2,3,4,5,16,23],[.old 0,.old 1,.old 2,.old 3,.old 4,.old 5,.old 6,.old 7],[],[]⟩ k51_2) ⟨[4,5],[.old 0,.old 1,.old 2,.old 3,.old 4,.old 5],[],[]⟩)))
@[go_sem] def x51_1:FxI:=⟨[4,6,7],[none,none,none,none,none,none,some 0,none],1,[[],[4],[4,6],[4,6,7],[6]],[(0,6)],[(1,1,1),(1,2,2),(1,4,4),(3,4,4),(4,4,2),(5,2,2),(6,0,4)]⟩
def c51:PC:=(sq (.reg [pX 2 92 0,pX 3 37 1,pG 4 37]) (sq (.fx [pF 9 37 3 0,pL 10 34 9,pF 11 37 3 1,pL 12 35 11,pC 13 52 12 35,⟨(some 14),(.build 37 #[(0,(.tmp 10)),(1,(.tmp 13))]),none⟩,pG 5 37,⟨none,(.store 37 (.tmp 5) (.tmp 14)),none⟩] x51_1) (sq (sq (.reg [pF 15 92 2 0,pL 16 3 15]) (.block 0 (sq (.reg [pB 18 .eql 3 16 1 3,pA 17 18]) (.pre ⟨[2,3,4,5,16,17],[.old 0,.old 1,.old 2,.nilB 2 3 1,.nilB 2 7 1,.old 3,.old 4,.old 5],[],[]⟩ k51_1)))) (sq (.reg [pL 72 37 5,⟨none,(.store 37 (.tmp 4) (.tmp 72)),none⟩]) .ret))))
def i51:FnI:=⟨73,[(.cell 4 37)],c51,0,[[0,0],[0,0,0,1,0,0,0,1]],[[0,0,0,1,0,0,0,1]],false,false,0,false⟩
def k27_9:PC:=(cd 33 (.post (.reg [pL 34 37 10,⟨none,(.store 37 (.tmp 3) (.tmp 34)),none⟩]) ⟨[2,3,4,7,12,13,14,23,24,25],[.old 2,.old 3,.old 11,.old 12,.old 6,.old 7,.old 8,.old 9],[0,1],[]⟩) (.post .skip ⟨[2,3,4,7,12,13,14,23,24,25],[.old 2,.old 3,.old 4,.old 5,.old 6,.old 7,.old 8,.old 9],[0,1],[]⟩))
def k27_7b:PC:=(sq (.reg [pO 26 .lss 3 25 24 3]) (sq (cd 26 .skip (.pre ⟨[2,3,4,7,12,13,14],[.old 2,.old 3,.old 4,.old 5,.old 6,.old 7,.old 8,.old 9],[0,1],[]⟩ (.exit 2))) (sq (.block 3 (sq (.reg [pI 27 84 23 25,pL 28 92 27,pG 9 92,⟨none,(.store 92 (.tmp 9) (.tmp 28)),none⟩]) (sq (.reg [pL 29 92 9,pL 30 37 3,pC2 31 51 29 30 92 37,pG 10 37,⟨none,(.store 37 (.tmp 10) (.tmp 31)),none⟩]) (sq (.reg [pL 32 37 10,pC 33 26 32 37]) (.pre ⟨[2,3,4,7,10,12,13,14,23,24,25,33],[.old 2,.old 3,.old 4,.old 5,.old 6,.old 7,.old 8,.old 9,.old 13,.old 11,.old 12],[0,1],[]⟩ k27_9))))) (.post (.reg [pB 35 .add 3 25 1 3,pM 25 35]) ⟨[2,3,4,7,12,13,14,23,24,25],[.old 2,.old 3,.old 4,.old 5,.old 6,.old 7,.old 8,.old 9],[0,1],[]⟩))))
@[go_sem] def x27_14:FxI:=⟨[3],[none,none,none,none,none],0,[[],[3]],[],[(2,1,1)]⟩
@[go_sem] def x27_16:FxI:=⟨[3],[none,none,none,none,none],0,[[],[3]],[],[(2,1,1)]⟩
def k27_6:PC:=(.block 1 (sq (.reg [pI 16 40 12 14,pL 17 86 16,pG 7 86,⟨none,(.store 86 (.tmp 7) (.tmp 17)),none⟩]) (sq (sq (.reg [pL 18 86 7,pL 19 37 3,pC2 20 50 18 19 86 37,pU 21 4 20]) (cd 21 (.pre ⟨[2,3,4,12,13,14],[.old 2,.old 3,.old 4,.old 5,.old 6,.old 7,.old 8],[0,1],[]⟩ (.exit 1)) .skip)) (sq (sq (.reg [pF 22 86 7 3,pL 23 84 22,pE 24 23 84,pV 25 0]) (.block 2 (.pre ⟨[2,3,4,7,12,13,14,23,24,25],[.old 2,.old 3,.old 4,.old 5,.old 6,.old 7,.old 8,.old 9],[0,1],[]⟩ (.loop k27_7b)))) (sq (.reg [pF 36 86 7 4,pL 37 3 36]) (.block 4 (sq (.reg [pB 39 .eql 3 37 1 3,pA 38 39]) (cd 38 (sq (.fx [pL 40 37 3,pF 41 86 7 4,pL 42 3 41,⟨none,(.store 37 (.tmp 4) (.tmp 40)),none⟩,pA 5 42] x27_14) (.pre ⟨[4,5],[.old 6,.old 4,.old 5],[0,1],[]⟩ .ret)) (sq (.reg [pB 44 .eql 3 37 2 3,pA 43 44]) (cd 43 (sq (.fx [⟨(some 45),(.build 37 #[]),none⟩,pF 46 86 7 4,pL 47 3 46,⟨none,(.store 37 (.tmp 4) (.tmp 45)),none⟩,pA 5 47] x27_16) (.pre ⟨[4,5],[.old 6,.nilB 6 3 1,.nilB 6 7 1],[0,1],[]⟩ .ret)) (.post .skip ⟨[2,3,4,12,13,14],[.old 2,.old 3,.old 4,.old 5,.old 6,.old 7,.old 8],[0,1],[]⟩)))))))))))
def k27_1b:PC:=(sq (.reg [pO 15 .lss 3 14 13 3]) (sq (cd 15 .skip (.pre ⟨[2,3,4],[.old 2,.old 3,.old 4,.old 5,.old 6,.old 7,.old 8],[0,1],[]⟩ (.exit 0))) (sq (.pre ⟨[2,3,4,12,13,14],[.old 2,.old 3,.old 4,.old 5,.old 6,.old 7,.old 8],[0,1],[]⟩ k27_6) (.post (.reg [pB 48 .add 3 14 1 3,pM 14 48]) ⟨[2,3,4,12,13,14],[.old 2,.old 3,.old 4,.old 5,.old 6,.old 7,.old 8],[0,1],[]⟩))))
def c27:PC:=(sq (.reg [pX 2 42 0,pX 3 37 1,pG 4 37,pK 5 0]) (sq (sq (.reg [pF 11 42 2 0,pL 12 40 11,pE 13 12 40,pV 14 0]) (.block 0 (.pre ⟨[2,3,4,12,13,14],[.old 2,.old 3,.old 0,.old 1,.old 4,.nilB 4 3 1,.nilB 4 7 1],[0,1],[]⟩ (.loop k27_1b)))) (sq (sq (.reg [pF 49 42 2 1,pL 50 4 49]) (cd 50 (sq (.reg [pL 51 37 3,⟨none,(.store 37 (.tmp 4) (.tmp 51)),none⟩,pK 5 1]) (.pre ⟨[4,5],[.old 6,.old 4,.old 5],[0,1],[]⟩ .ret)) .skip)) (sq (.reg [⟨(some 52),(.build 37 #[]),none⟩,⟨none,(.store 37 (.tmp 4) (.tmp 52)),none⟩,pK 5 2]) (.pre ⟨[4,5],[.old 6,.nilB 6 3 1,.nilB 6 7 1],[0,1],[]⟩ .ret)))))
def i27:FnI:=⟨53,[(.cell 4 37),(.tmp 5)],c27,3,[[5,0],[0,0,0,1,0,0,0,1]],[[0,0,0,1,0,0,0,1],[0]],false,true,2,false⟩
def k7_1:PC:=(.post (.reg [pL 9 42 2,pC 10 25 9 42,pU 11 4 10,pM 12 11,⟨(some 13),(.load 37 (.tmp 3)),(some (12,false))⟩,⟨(some 14),(.call { callee:=(.value (.func 26)),args:=#[(.tmp 13)],argTypes:=#[37] }),(some (12,false))⟩,⟨(some 15),(.unOp .not 4 (.tmp 14)),(some (12,false))⟩,pQ 16 12 15]) ⟨[2,3,4,16],[.old 0,.old 1,.old 2,.old 3,.old 4],[],[]⟩)
@[go_sem] def x7_3:FxI:=⟨[2,3,7,8],[none,none,none,none,none,none,none,some 0,none,none],1,[[],[2],[2,3],[2,3,7],[2,3,7,8],[7],[2,7]],[(0,7),(1,7)],[(0,1,1),(0,5,5),(0,6,6),(1,5,5),(2,5,6),(3,6,3),(7,0,5),(7,1,6)]⟩
def c7:PC:=(sq (.reg [pX 2 42 0,pX 3 37 1,pG 4 37,pK 5 0,pN 6 false]) (sq (sq (.pre ⟨[2,3,4],[.old 0,.old 1,.old 2,.nilB 2 3 1,.nilB 2 7 1],[],[]⟩ k7_1) (cd 16 (sq (.reg [⟨(some 17),(.build 37 #[]),none⟩,⟨none,(.store 37 (.tmp 4) (.tmp 17)),none⟩,pK 5 0,pN 6 false]) .ret) .skip)) (sq (.fx [pL 19 42 2,pL 20 37 3,pC 21 28 20 37,pC2 22 27 19 21 42 37,pM 18 22,pT 23 18 0,pT 24 18 1,pG 7 37,⟨none,(.store 37 (.tmp 7) (.tmp 23)),none⟩,pA 8 24] x7_3) (sq (.reg [pL 25 37 7,pC 26 28 25 37,pM 27 8,⟨none,(.store 37 (.tmp 4) (.tmp 26)),none⟩,pA 5 27,pN 6 true]) .ret))))
def i7:FnI:=⟨28,[(.cell 4 37),(.tmp 5),(.tmp 6)],c7,0,[[5,0],[0,0,0,1,0,0,0,1]],[[0,0,0,1,0,0,0,1],[0],[0]],false,false,0,false⟩
def k84_1b:PC:=(sq (.reg [pO 9 .lss 3 8 7 3]) (sq (cd 9 .skip (.pre ⟨[],[],[],[]⟩ (.exit 0))) (sq (.block 1 (sq (.reg [pM 10 8,pA 5 10]) (sq (.reg [pM 11 1,pM 12 0,pM 13 5,pI 14 40 12 13,pL 15 86 14,⟨(some 16),(.call { callee:=(.value (.tmp 11)),args:=#[(.tmp 15)],argTypes:=#[86] }),none⟩]) (cd 16 (sq (.reg [pM 17 5,pA 4 17]) (.pre ⟨[4],[],[],[]⟩ .ret)) .skip)))) (.post (.reg [pB 18 .add 3 8 1 3,pM 8 18]) ⟨[0,1,7,8],[],[],[]⟩))))
def c84:PC:=(sq (.reg [pK 4 0]) (sq (sq (.reg [pM 6 0,pE 7 6 40,pV 8 0]) (.block 0 (.pre ⟨[0,1,7,8],[],[],[]⟩ (.loop k84_1b)))) (sq (.reg [pK 4 (-1)]) .ret)))
def i84:FnI:=⟨19,[(.tmp 4)],c84,0,[[5],[0]],[[0]],false,false,0,false⟩
def c55:PC:=(sq (.reg [pN 4 false]) (sq (.reg [pM 5 0,pM 6 1,pC2 7 84 5 6 40 87,pB 8 .geq 3 7 0 3,pA 4 8]) .ret))
def i55:FnI:=⟨9,[(.tmp 4)],c55,0,[[5],[0]],[[0]],false,false,0,false⟩
def k87_1:PC:=(.post (.reg [pM 7 0,pM 8 1,pO 9 .geq 3 7 8 3,pM 10 9,⟨(some 11),(.move (.tmp 0)),(some (10,true))⟩,⟨(some 12),(.move (.tmp 2)),(some (10,true))⟩,⟨(some 13),(.binOp .leq 3 (.tmp 11) (.tmp 12) 3),(some (10,true))⟩,pP 14 10 13,pA 6 14]) ⟨[6],[],[],[]⟩)
def c87:PC:=(sq (.reg [pN 6 false]) (sq (.pre ⟨[0,1,2],[],[],[]⟩ k87_1) .ret))
def i87:FnI:=⟨15,[(.tmp 6)],c87,0,[[0],[0],[0]],[[0]],false,false,0,false⟩
def k140_3:PC:=(cd 4 (.post .skip ⟨[3,4],[],[],[]⟩) (.post (.reg [pB 8 .eql 3 3 4 3,pA 4 8]) ⟨[3,4],[],[],[]⟩))
def k140_2:PC:=(cd 4 (.post .skip ⟨[3,4],[],[],[]⟩) (sq (.reg [pB 7 .eql 3 3 3 3,pA 4 7]) (.post (.pre ⟨[3,4],[],[],[]⟩ k140_3) ⟨[3,4],[],[],[]⟩)))
def k140_1:PC:=(cd 4 (.post .skip ⟨[3,4],[],[],[]⟩) (sq (.reg [pB 6 .eql 3 3 2 3,pA 4 6]) (.post (.pre ⟨[3,4],[],[],[]⟩ k140_2) ⟨[3,4],[],[],[]⟩)))
def k140_4:PC:=(cd 11 (.post .skip ⟨[11],[],[],[]⟩) (.post (.reg [pB 13 .eql 3 3 6 3,pA 11 13]) ⟨[11],[],[],[]⟩))
def c140:PC:=(sq (.reg [pK 2 0]) (sq (sq (.reg [pM 3 0]) (.block 0 (sq (sq (.reg [pB 5 .eql 3 3 1 3,pA 4 5]) (.pre ⟨[3,4],[],[],[]⟩ k140_1)) (cd 4 (sq (.reg [pK 2 0]) .ret) (sq (.reg [pB 10 .eql 3 3 7 3,pA 9 10]) (cd 9 (sq (.reg [pK 2 1]) .ret) (sq (sq (.reg [pB 12 .eql 3 3 5 3,pA 11 12]) (.pre ⟨[3,11],[],[],[]⟩ k140_4)) (cd 11 (sq (.reg [pK 2 2]) .ret) .skip)))))))) (sq (.reg [pK 2 (-1)]) .ret)))
def i140:FnI:=⟨14,[(.tmp 2)],c140,0,[[0]],[[0]],false,false,0,false⟩
def k116_1b:PC:=(sq (sq (.reg [pM 9 6,pM 10 0,pE 11 10 83,pO 12 .lss 3 9 11 3]) (cd 12 .skip (.pre ⟨[],[],[],[]⟩ (.exit 0)))) (sq (.block 1 (sq (.reg [pM 15 0,pM 16 6,pI 17 83 15 16,pF 18 137 17 0,pL 19 3 18,pC 20 140 19 3,pA 7 20]) (sq (sq (.reg [pM 21 7,pB 22 .lss 3 21 0 3]) (cd 22 (sq (.reg [pK 4 (-1)]) (.pre ⟨[4],[],[],[]⟩ .ret)) .skip)) (sq (.reg [pM 23 5,pM 24 7,pB 25 .sub 3 24 1 3,pO 26 .add 3 23 25 3,pA 5 26]) (sq (.reg [pM 27 5,pB 28 .eql 3 27 0 3]) (cd 28 (sq (.reg [pM 29 6,pB 30 .add 3 29 1 3,pM 31 1,pO 32 .sub 3 30 31 3,pA 4 32]) (.pre ⟨[4],[],[],[]⟩ .ret)) .skip)))))) (.post (.reg [pM 13 6,pB 14 .add 3 13 1 3,pA 6 14]) ⟨[0,1,5,6],[],[],[]⟩)))
def c116:PC:=(sq (.reg [pK 4 0]) (sq (.reg [pK 5 1]) (sq (sq (.reg [pM 8 1,pA 6 8]) (.block 0 (.pre ⟨[0,1,5,6],[],[],[]⟩ (.loop k116_1b)))) (sq (.reg [pK 4 (-1)]) .ret))))
def i116:FnI:=⟨33,[(.tmp 4)],c116,0,[[2],[0]],[[0]],false,false,0,false⟩
def k141_1b:PC:=(sq (.reg [pO 9 .lss 3 8 7 3]) (sq (cd 9 .skip (.pre ⟨[],[],[],[]⟩ (.exit 0))) (sq (.block 1 (sq (.reg [pM 10 8,pA 5 10]) (sq (.reg [pM 11 1,pM 12 0,pM 13 5,pI 14 83 12 13,pL 15 137 14,⟨(some 16),(.call { callee:=(.value (.tmp 11)),args:=#[(.tmp 15)],argTypes:=#[137] }),none⟩]) (cd 16 (sq (.reg [pM 17 5,pA 4 17]) (.pre ⟨[4],[],[],[]⟩ .ret)) .skip)))) (.post (.reg [pB 18 .add 3 8 1 3,pM 8 18]) ⟨[0,1,7,8],[],[],[]⟩))))
def c141:PC:=(sq (.reg [pK 4 0]) (sq (sq (.reg [pM 6 0,pE 7 6 83,pV 8 0]) (.block 0 (.pre ⟨[0,1,7,8],[],[],[]⟩ (.loop k141_1b)))) (sq (.reg [pK 4 (-1)]) .ret)))
def i141:FnI:=⟨19,[(.tmp 4)],c141,0,[[2],[0]],[[0]],false,false,0,false⟩
def c117:PC:=(sq (.reg [pN 4 false]) (sq (.reg [pM 5 0,pM 6 1,pC2 7 141 5 6 83 154,pB 8 .geq 3 7 0 3,pA 4 8]) .ret))
def i117:FnI:=⟨9,[(.tmp 4)],c117,0,[[2],[0]],[[0]],false,false,0,false⟩
def c119:PC:=(sq (.reg [pN 2 false]) (sq (.reg [pM 3 0,⟨(some 4),(.call { callee:=(.value (.func 87)),args:=#[(.tmp 3),(.const (.int .i64 1)),(.const (.int .i64 65535))],argTypes:=#[3,3,3] }),none⟩,pA 2 4]) .ret))
def i119:FnI:=⟨5,[(.tmp 2)],c119,0,[[0]],[[0]],false,false,0,false⟩
def k118_1:PC:=(.post (.reg [pF 3 137 1 0,pL 4 3 3,pB 5 .eql 3 4 3 3,pM 6 5,⟨(some 7),(.fieldAddr 137 (.tmp 1) 1),(some (6,true))⟩,⟨(some 8),(.load 3 (.tmp 7)),(some (6,true))⟩,⟨(some 9),(.call { callee:=(.value (.func 119)),args:=#[(.tmp 8)],argTypes:=#[3] }),(some (6,true))⟩,⟨(some 10),(.unOp .not 4 (.tmp 9)),(some (6,true))⟩,pP 11 6 10,pM 12 11,⟨(some 13),(.fieldAddr 137 (.tmp 1) 0),(some (12,false))⟩,⟨(some 14),(.load 3 (.tmp 13)),(some (12,false))⟩,⟨(some 15),(.binOp .neq 3 (.tmp 14) (.const (.int .i64 3)) 3),(some (12,false))⟩,⟨(some 16),(.move (.tmp 15)),(some (12,false))⟩,⟨(some 17),(.fieldAddr 137 (.tmp 1) 1),(some (16,true))⟩,⟨(some 18),(.load 3 (.tmp 17)),(some (16,true))⟩,⟨(some 19),(.binOp .neq 3 (.tmp 18) (.const (.int .i64 0)) 3),(some (16,true))⟩,⟨(some 20),(.pick (.tmp 16) (.tmp 19) (.const (.bool false))),(some (12,false))⟩,pQ 21 12 20,pA 2 21]) ⟨[2],[],[],[]⟩)
def c118:PC:=(sq (.reg [pX 1 137 0,pN 2 false]) (sq (.pre ⟨[1],[.old 0],[],[]⟩ k118_1) .ret))
def i118:FnI:=⟨22,[(.tmp 2)],c118,0,[[0,0]],[[0]],false,false,0,false⟩
def k85_1:PC:=(.post (.reg [pM 3 0,pE 4 3 83,⟨(some 5),(.call { callee:=(.value (.func 87)),args:=#[(.tmp 4),(.const (.int .i64 1)),(.const (.int .i64 30))],argTypes:=#[3,3,3] }),none⟩,pU 6 4 5,pM 7 6,⟨(some 8),(.move (.tmp 0)),(some (7,false))⟩,⟨(some 9),(.call { callee:=(.value (.func 116)),args:=#[(.tmp 8),(.const (.int .i64 0))],argTypes:=#[83,3] }),(some (7,false))⟩,⟨(some 10),(.move (.tmp 0)),(some (7,false))⟩,⟨(some 11),(.call { callee:=(.builtin .len),args:=#[(.tmp 10)],argTypes:=#[83] }),(some (7,false))⟩,⟨(some 12),(.binOp .neq 3 (.tmp 9) (.tmp 11) 3),(some (7,false))⟩,pQ 13 7 12]) ⟨[0,13],[],[],[]⟩)
def c85:PC:=(sq (.reg [pN 2 false]) (sq (sq (.pre ⟨[0],[],[],[]⟩ k85_1) (cd 13 (sq (.reg [pN 2 false]) .ret) .skip)) (sq (.reg [pM 14 0,⟨(some 15),(.call { callee:=(.value (.func 117)),args:=#[(.tmp 14),(.func 118)],argTypes:=#[83,154] }),none⟩,pU 16 4 15,pA 2 16]) .ret)))
def i85:FnI:=⟨17,[(.tmp 2)],c85,0,[[2]],[[0]],false,false,0,false⟩
def c86:PC:=(sq (.reg [pN 2 false]) (sq (.reg [pM 3 0,⟨(some 4),(.call { callee:=(.value (.func 87)),args:=#[(.tmp 3),(.const (.int .i64 0)),(.const (.int .i64 1000000))],argTypes:=#[3,3,3] }),none⟩,pA 2 4]) .ret))
def i86:FnI:=⟨5,[(.tmp 2)],c86,0,[[0]],[[0]],false,false,0,false⟩
def k120_1b:PC:=(sq (.reg [pO 9 .lss 3 8 7 3]) (sq (cd 9 .skip (.pre ⟨[],[],[],[]⟩ (.exit 0))) (sq (.block 1 (sq (.reg [pM 10 8,pA 5 10]) (sq (.reg [pM 11 1,pM 12 0,pM 13 5,pI 14 82 12 13,pL 15 110 14,⟨(some 16),(.call { callee:=(.value (.tmp 11)),args:=#[(.tmp 15)],argTypes:=#[110] }),none⟩]) (cd 16 (sq (.reg [pM 17 5,pA 4 17]) (.pre ⟨[4],[],[],[]⟩ .ret)) .skip)))) (.post (.reg [pB 18 .add 3 8 1 3,pM 8 18]) ⟨[0,1,7,8],[],[],[]⟩))))
def c120:PC:=(sq (.reg [pK 4 0]) (sq (sq (.reg [pM 6 0,pE 7 6 82,pV 8 0]) (.block 0 (.pre ⟨[0,1,7,8],[],[],[]⟩ (.loop k120_1b)))) (sq (.reg [pK 4 (-1)]) .ret)))
def i120:FnI:=⟨19,[(.tmp 4)],c120,0,[[4],[0]],[[0]],false,false,0,false⟩
def c88:PC:=(sq (.reg [pN 4 false]) (sq (.reg [pM 5 0,pM 6 1,pC2 7 120 5 6 82 125,pB 8 .geq 3 7 0 3,pA 4 8]) .ret))
def i88:FnI:=⟨9,[(.tmp 4)],c88,0,[[4],[0]],[[0]],false,false,0,false⟩
def c93:PC:=(sq (.reg [pN 2 false]) (sq (.reg [pM 3 0,⟨(some 4),(.call { callee:=(.value (.func 87)),args:=#[(.tmp 3),(.const (.int .i64 0)),(.const (.int .i64 4294967295))],argTypes:=#[3,3,3] }),none⟩,pA 2 4]) .ret))
def i93:FnI:=⟨5,[(.tmp 2)],c93,0,[[0]],[[0]],false,false,0,false⟩
def c94:PC:=(sq (.reg [pK 2 0]) (sq (.reg [pM 3 0,⟨(some 4),(.binOp .sub 3 (.const (.int .i64 32)) (.tmp 3) 3),none⟩,⟨(some 5),(.binOp .shl 3 (.const (.int .i64 1)) (.tmp 4) 3),none⟩,pA 2 5]) .ret))
def i94:FnI:=⟨6,[(.tmp 2)],c94,0,[[0]],[[0]],false,false,0,false⟩
def k58_1:PC:=(.post (.fz [pF 3 34 1 1,pL 4 3 3,⟨(some 5),(.call { callee:=(.value (.func 87)),args:=#[(.tmp 4),(.const (.int .i64 0)),(.const (.int .i64 32))],argTypes:=#[3,3,3] }),none⟩,pM 6 5,⟨(some 7),(.fieldAddr 34 (.tmp 1) 0),(some (6,true))⟩,⟨(some 8),(.load 3 (.tmp 7)),(some (6,true))⟩,⟨(some 9),(.call { callee:=(.value (.func 93)),args:=#[(.tmp 8)],argTypes:=#[3] }),(some (6,true))⟩,pP 10 6 9,pM 11 10,⟨(some 12),(.fieldAddr 34 (.tmp 1) 0),(some (11,true))⟩,⟨(some 13),(.load 3 (.tmp 12)),(some (11,true))⟩,⟨(some 14),(.fieldAddr 34 (.tmp 1) 1),(some (11,true))⟩,⟨(some 15),(.load 3 (.tmp 14)),(some (11,true))⟩,⟨(some 16),(.call { callee:=(.value (.func 94)),args:=#[(.tmp 15)],argTypes:=#[3] }),(some (11,true))⟩,⟨(some 17),(.binOp .rem 3 (.tmp 13) (.tmp 16) 3),(some (11,true))⟩,⟨(some 18),(.binOp .eql 3 (.tmp 17) (.const (.int .i64 0)) 3),(some (11,true))⟩,pP 19 11 18,pA 2 19]) ⟨[2],[],[],[]⟩)
def c58:PC:=(sq (.reg [pX 1 34 0,pN 2 false]) (sq (.pre ⟨[1],[.old 0],[],[]⟩ k58_1) .ret))
def i58:FnI:=⟨20,[(.tmp 2)],c58,0,[[0,0]],[[0]],false,false,0,false⟩
def k89_1:PC:=(.post (.reg [pF 3 110 1 0,pL 4 34 3,pC 5 58 4 34,pU 6 4 5,pM 7 6,⟨(some 8),(.fieldAddr 110 (.tmp 1) 1),(some (7,false))⟩,⟨(some 9),(.load 3 (.tmp 8)),(some (7,false))⟩,⟨(some 10),(.fieldAddr 110 (.tmp 1) 0),(some (7,false))⟩,⟨(some 11),(.fieldAddr 34 (.tmp 10) 1),(some (7,false))⟩,⟨(some 12),(.load 3 (.tmp 11)),(some (7,false))⟩,⟨(some 13),(.binOp .lss 3 (.tmp 9) (.tmp 12) 3),(some (7,false))⟩,pQ 14 7 13,pM 15 14,⟨(some 16),(.fieldAddr 110 (.tmp 1) 2),(some (15,false))⟩,⟨(some 17),(.load 3 (.tmp 16)),(some (15,false))⟩,⟨(some 18),(.fieldAddr 110 (.tmp 1) 1),(some (15,false))⟩,⟨(some 19),(.load 3 (.tmp 18)),(some (15,false))⟩,⟨(some 20),(.binOp .lss 3 (.tmp 17) (.tmp 19) 3),(some (15,false))⟩,pQ 21 15 20,pM 22 21,⟨(some 23),(.fieldAddr 110 (.tmp 1) 2),(some (22,false))⟩,⟨(some 24),(.load 3 (.tmp 23)),(some (22,false))⟩,⟨(some 25),(.binOp .gtr 3 (.tmp 24) (.const (.int .i64 32)) 3),(some (22,false))⟩,pQ 26 22 25,pA 2 26]) ⟨[2],[],[],[]⟩)
def c89:PC:=(sq (.reg [pX 1 110 0,pN 2 false]) (sq (.pre ⟨[1],[.old 0],[],[]⟩ k89_1) .ret))
def i89:FnI:=⟨27,[(.tmp 2)],c89,0,[[0,0,0,0]],[[0]],false,false,0,false⟩
def k121_1b:PC:=(sq (.reg [pO 9 .lss 3 8 7 3]) (sq (cd 9 .skip (.pre ⟨[],[],[],[]⟩ (.exit 0))) (sq (.block 1 (sq (.reg [pM 10 8,pA 5 10]) (sq (.reg [pM 11 1,pM 12 0,pM 13 5,pI 14 84 12 13,pL 15 92 14,⟨(some 16),(.call { callee:=(.value (.tmp 11)),args:=#[(.tmp 15)],argTypes:=#[92] }),none⟩]) (cd 16 (sq (.reg [pM 17 5,pA 4 17]) (.pre ⟨[4],[],[],[]⟩ .ret)) .skip)))) (.post (.reg [pB 18 .add 3 8 1 3,pM 8 18]) ⟨[0,1,7,8],[],[],[]⟩))))
def c121:PC:=(sq (.reg [pK 4 0]) (sq (sq (.reg [pM 6 0,pE 7 6 84,pV 8 0]) (.block 0 (.pre ⟨[0,1,7,8],[],[],[]⟩ (.loop k121_1b)))) (sq (.reg [pK 4 (-1)]) .ret)))
def i121:FnI:=⟨19,[(.tmp 4)],c121,0,[[2],[0]],[[0]],false,false,0,false⟩
def c90:PC:=(sq (.reg [pN 4 false]) (sq (.reg [pM 5 0,pM 6 1,pC2 7 121 5 6 84 112,pB 8 .geq 3 7 0 3,pA 4 8]) .ret))
def i90:FnI:=⟨9,[(.tmp 4)],c90,0,[[2],[0]],[[0]],false,false,0,false⟩
def k92_3:PC:=(cd 5 (.post .skip ⟨[1,4,5],[.old 0],[],[]⟩) (.post (.reg [pB 9 .eql 3 4 4 3,pA 5 9]) ⟨[1,4,5],[.old 0],[],[]⟩))
def k92_2:PC:=(cd 5 (.post .skip ⟨[1,4,5],[.old 0],[],[]⟩) (sq (.reg [pB 8 .eql 3 4 3 3,pA 5 8]) (.post (.pre ⟨[1,4,5],[.old 0],[],[]⟩ k92_3) ⟨[1,4,5],[.old 0],[],[]⟩)))
def k92_1:PC:=(cd 5 (.post .skip ⟨[1,4,5],[.old 0],[],[]⟩) (sq (.reg [pB 7 .eql 3 4 2 3,pA 5 7]) (.post (.pre ⟨[1,4,5],[.old 0],[],[]⟩ k92_2) ⟨[1,4,5],[.old 0],[],[]⟩)))
def c92:PC:=(sq (.reg [pX 1 92 0,pN 2 false]) (sq (sq (.reg [pF 3 92 1 0,pL 4 3 3]) (.block 0 (sq (sq (.reg [pB 6 .eql 3 4 1 3,pA 5 6]) (.pre ⟨[1,4,5],[.old 0],[],[]⟩ k92_1)) (cd 5 (sq (.reg [pF 10 92 1 1,pL 11 3 10,pC 12 86 11 3,pA 2 12]) .ret) (sq (.reg [pB 14 .eql 3 4 5 3,pA 13 14]) (cd 13 (sq (.reg [pF 15 92 1 1,pL 16 3 15,pC 17 119 16 3,pA 2 17]) .ret) .skip)))))) (sq (.reg [pN 2 false]) .ret)))
def i92:FnI:=⟨18,[(.tmp 2)],c92,0,[[0,0]],[[0]],false,false,0,false⟩
def c91:PC:=(sq (.reg [pX 1 92 0,pN 2 false]) (sq (.reg [pL 3 92 1,pC 4 92 3 92,pU 5 4 4,pA 2 5]) .ret))
def i91:FnI:=⟨6,[(.tmp 2)],c91,0,[[0,0]],[[0]],false,false,0,false⟩
def k57_1:PC:=(.post (.reg [pF 3 86 1 0,pL 4 82 3,pE 5 4 82,pB 6 .gtr 3 5 6 3,pM 7 6,⟨(some 8),(.fieldAddr 86 (.tmp 1) 1),(some (7,false))⟩,⟨(some 9),(.load 83 (.tmp 8)),(some (7,false))⟩,⟨(some 10),(.call { callee:=(.builtin .len),args:=#[(.tmp 9)],argTypes:=#[83] }),(some (7,false))⟩,⟨(some 11),(.binOp .gtr 3 (.tmp 10) (.const (.int .i64 0)) 3),(some (7,false))⟩,⟨(some 12),(.move (.tmp 11)),(some (7,false))⟩,⟨(some 13),(.fieldAddr 86 (.tmp 1) 1),(some (12,true))⟩,⟨(some 14),(.load 83 (.tmp 13)),(some (12,true))⟩,⟨(some 15),(.call { callee:=(.value (.func 85)),args:=#[(.tmp 14)],argTypes:=#[83] }),(some (12,true))⟩,⟨(some 16),(.unOp .not 4 (.tmp 15)),(some (12,true))⟩,⟨(some 17),(.pick (.tmp 12) (.tmp 16) (.const (.bool false))),(some (7,false))⟩,pQ 18 7 17,pM 19 18,⟨(some 20),(.fieldAddr 86 (.tmp 1) 2),(some (19,false))⟩,⟨(some 21),(.load 3 (.tmp 20)),(some (19,false))⟩,⟨(some 22),(.binOp .neq 3 (.tmp 21) (.const (.int .i64 (-1))) 3),(some (19,false))⟩,⟨(some 23),(.move (.tmp 22)),(some (19,false))⟩,⟨(some 24),(.fieldAddr 86 (.tmp 1) 2),(some (23,true))⟩,⟨(some 25),(.load 3 (.tmp 24)),(some (23,true))⟩,⟨(some 26),(.call { callee:=(.value (.func 86)),args:=#[(.tmp 25)],argTypes:=#[3] }),(some (23,true))⟩,⟨(some 27),(.unOp .not 4 (.tmp 26)),(some (23,true))⟩,⟨(some 28),(.pick (.tmp 23) (.tmp 27) (.const (.bool false))),(some (19,false))⟩,pQ 29 19 28,pM 30 29,⟨(some 31),(.fieldAddr 86 (.tmp 1) 3),(some (30,false))⟩,⟨(some 32),(.load 84 (.tmp 31)),(some (30,false))⟩,⟨(some 33),(.call { callee:=(.builtin .len),args:=#[(.tmp 32)],argTypes:=#[84] }),(some (30,false))⟩,⟨(some 34),(.binOp .gtr 3 (.tmp 33) (.const (.int .i64 5)) 3),(some (30,false))⟩,pQ 35 30 34,pM 36 35,⟨(some 37),(.fieldAddr 86 (.tmp 1) 4),(some (36,false))⟩,⟨(some 38),(.load 3 (.tmp 37)),(some (36,false))⟩,⟨(some 39),(.call { callee:=(.value (.func 87)),args:=#[(.tmp 38),(.const (.int .i64 0)),(.const (.int .i64 2))],argTypes:=#[3,3,3] }),(some (36,false))⟩,⟨(some 40),(.unOp .not 4 (.tmp 39)),(some (36,false))⟩,pQ 41 36 40]) ⟨[1,41],[.old 0],[],[]⟩)
def k57_2:PC:=(.post (.reg [pF 42 86 1 0,pL 43 82 42,⟨(some 44),(.call { callee:=(.value (.func 88)),args:=#[(.tmp 43),(.func 89)],argTypes:=#[82,125] }),none⟩,pU 45 4 44,pM 46 45,⟨(some 47),(.fieldAddr 86 (.tmp 1) 3),(some (46,true))⟩,⟨(some 48),(.load 84 (.tmp 47)),(some (46,true))⟩,⟨(some 49),(.call { callee:=(.value (.func 90)),args:=#[(.tmp 48),(.func 91)],argTypes:=#[84,112] }),(some (46,true))⟩,⟨(some 50),(.unOp .not 4 (.tmp 49)),(some (46,true))⟩,pP 51 46 50,pA 2 51]) ⟨[2],[],[],[]⟩)
def c57:PC:=(sq (.reg [pX 1 86 0,pN 2 false]) (sq (sq (.pre ⟨[1],[.old 0],[],[]⟩ k57_1) (cd 41 (sq (.reg [pN 2 false]) .ret) .skip)) (sq (.pre ⟨[1],[.old 0],[],[]⟩ k57_2) .ret)))
def i57:FnI:=⟨52,[(.tmp 2)],c57,0,[[4,2,0,2,0]],[[0]],false,false,0,false⟩
def c56:PC:=(sq (.reg [pX 1 86 0,pN 2 false]) (sq (.reg [pL 3 86 1,pC 4 57 3 86,pU 5 4 4,pA 2 5]) .ret))
def i56:FnI:=⟨6,[(.tmp 2)],c56,0,[[4,2,0,2,0]],[[0]],false,false,0,false⟩
def k32_1:PC:=(.post (.reg [pF 3 42 1 0,pL 4 40 3,pE 5 4 40,pB 6 .leq 3 5 8 3,pM 7 6,⟨(some 8),(.fieldAddr 42 (.tmp 1) 0),(some (7,true))⟩,⟨(some 9),(.load 40 (.tmp 8)),(some (7,true))⟩,⟨(some 10),(.call { callee:=(.value (.func 55)),args:=#[(.tmp 9),(.func 56)],argTypes:=#[40,87] }),(some (7,true))⟩,⟨(some 11),(.unOp .not 4 (.tmp 10)),(some (7,true))⟩,pP 12 7 11,pA 2 12]) ⟨[2],[],[],[]⟩)
def c32:PC:=(sq (.reg [pX 1 42 0,pN 2 false]) (sq (.pre ⟨[1],[.old 0],[],[]⟩ k32_1) .ret))
def i32:FnI:=⟨13,[(.tmp 2)],c32,0,[[5,0]],[[0]],false,false,0,false⟩
def k135_1b:PC:=(sq (.reg [pO 9 .lss 3 8 7 3]) (sq (cd 9 .skip (.pre ⟨[],[],[],[]⟩ (.exit 0))) (sq (.block 1 (sq (.reg [pM 10 8,pA 5 10]) (sq (.reg [pM 11 1,pM 12 0,pM 13 5,pI 14 27 12 13,pL 15 3 14,⟨(some 16),(.call { callee:=(.value (.tmp 11)),args:=#[(.tmp 15)],argTypes:=#[3] }),none⟩]) (cd 16 (sq (.reg [pM 17 5,pA 4 17]) (.pre ⟨[4],[],[],[]⟩ .ret)) .skip)))) (.post (.reg [pB 18 .add 3 8 1 3,pM 8 18]) ⟨[0,1,7,8],[],[],[]⟩))))
def c135:PC:=(sq (.reg [pK 4 0]) (sq (sq (.reg [pM 6 0,pE 7 6 27,pV 8 0]) (.block 0 (.pre ⟨[0,1,7,8],[],[],[]⟩ (.loop k135_1b)))) (sq (.reg [pK 4 (-1)]) .ret)))
def i135:FnI:=⟨19,[(.tmp 4)],c135,0,[[1],[0]],[[0]],false,false,0,false⟩
def c122:PC:=(sq (.reg [pN 4 false]) (sq (.reg [pM 5 0,pM 6 1,pC2 7 135 5 6 27 114,pB 8 .geq 3 7 0 3,pA 4 8]) .ret))
def i122:FnI:=⟨9,[(.tmp 4)],c122,0,[[1],[0]],[[0]],false,false,0,false⟩
def c123:PC:=(sq (.reg [pN 2 false]) (sq (.reg [pM 3 0,pC 4 119 3 3,pU 5 4 4,pA 2 5]) .ret))
def i123:FnI:=⟨6,[(.tmp 2)],c123,0,[[0]],[[0]],false,false,0,false⟩
def k95_1:PC:=(.post (.reg [pM 3 0,pE 4 3 27,pB 5 .leq 3 4 10 3,pM 6 5,⟨(some 7),(.move (.tmp 0)),(some (6,true))⟩,⟨(some 8),(.call { callee:=(.value (.func 122)),args:=#[(.tmp 7),(.func 123)],argTypes:=#[27,114] }),(some (6,true))⟩,⟨(some 9),(.unOp .not 4 (.tmp 8)),(some (6,true))⟩,pP 10 6 9,pA 2 10]) ⟨[2],[],[],[]⟩)
def c95:PC:=(sq (.reg [pN 2 false]) (sq (.pre ⟨[0],[],[],[]⟩ k95_1) .ret))
def i95:FnI:=⟨11,[(.tmp 2)],c95,0,[[1]],[[0]],false,false,0,false⟩
def k96_3:PC:=(.post (.reg [pM 12 4,pC 13 86 12 3,pU 14 4 13,pM 15 14,⟨(some 16),(.move (.tmp 3)),(some (15,false))⟩,⟨(some 17),(.binOp .gtr 3 (.tmp 16) (.const (.int .i64 0)) 3),(some (15,false))⟩,⟨(some 18),(.move (.tmp 17)),(some (15,false))⟩,⟨(some 19),(.move (.tmp 4)),(some (18,true))⟩,⟨(some 20),(.move (.tmp 0)),(some (18,true))⟩,⟨(some 21),(.move (.tmp 3)),(some (18,true))⟩,⟨(some 22),(.binOp .sub 3 (.tmp 21) (.const (.int .i64 1)) 3),(some (18,true))⟩,⟨(some 23),(.indexAddr 27 (.tmp 20) (.tmp 22)),(some (18,true))⟩,⟨(some 24),(.load 3 (.tmp 23)),(some (18,true))⟩,⟨(some 25),(.binOp .leq 3 (.tmp 19) (.tmp 24) 3),(some (18,true))⟩,⟨(some 26),(.pick (.tmp 18) (.tmp 25) (.const (.bool false))),(some (15,false))⟩,pQ 27 15 26]) ⟨[0,5,6,7,27],[],[],[]⟩)
def k96_1b:PC:=(sq (.reg [pO 8 .lss 3 7 6 3]) (sq (cd 8 .skip (.pre ⟨[0],[],[],[]⟩ (.exit 0))) (sq (.block 1 (sq (.reg [pM 9 7,pI 10 27 5 7,pL 11 3 10,pA 3 9,pA 4 11]) (sq (.pre ⟨[0,3,4,5,6,7],[],[],[]⟩ k96_3) (cd 27 (sq (.reg [pN 2 false]) (.pre ⟨[2],[],[],[]⟩ .ret)) .skip)))) (.post (.reg [pB 28 .add 3 7 1 3,pM 7 28]) ⟨[0,5,6,7],[],[],[]⟩))))
def c96:PC:=(sq (.reg [pN 2 false]) (sq (sq (.reg [pM 5 0,pE 6 5 27,pV 7 0]) (.block 0 (.pre ⟨[0,5,6,7],[],[],[]⟩ (.loop k96_1b)))) (sq (.reg [pM 29 0,pE 30 29 27,pB 31 .leq 3 30 6 3,pA 2 31]) .ret)))
def i96:FnI:=⟨32,[(.tmp 2)],c96,0,[[1]],[[0]],false,false,0,false⟩
def k59_1:PC:=(.post (.reg [pF 3 35 1 0,pL 4 3 3,⟨(some 5),(.call { callee:=(.value (.func 87)),args:=#[(.tmp 4),(.const (.int .i64 0)),(.const (.int .i64 2))],argTypes:=#[3,3,3] }),none⟩,pM 6 5,⟨(some 7),(.fieldAddr 35 (.tmp 1) 1),(some (6,true))⟩,⟨(some 8),(.load 27 (.tmp 7)),(some (6,true))⟩,⟨(some 9),(.call { callee:=(.value (.func 95)),args:=#[(.tmp 8)],argTypes:=#[27] }),(some (6,true))⟩,pP 10 6 9,pM 11 10,⟨(some 12),(.fieldAddr 35 (.tmp 1) 2),(some (11,true))⟩,⟨(some 13),(.load 3 (.tmp 12)),(some (11,true))⟩,⟨(some 14),(.call { callee:=(.value (.func 93)),args:=#[(.tmp 13)],argTypes:=#[3] }),(some (11,true))⟩,pP 15 11 14,pM 16 15,⟨(some 17),(.fieldAddr 35 (.tmp 1) 3),(some (16,true))⟩,⟨(some 18),(.load 3 (.tmp 17)),(some (16,true))⟩,⟨(some 19),(.call { callee:=(.value (.func 86)),args:=#[(.tmp 18)],argTypes:=#[3] }),(some (16,true))⟩,pP 20 16 19,pM 21 20,⟨(some 22),(.fieldAddr 35 (.tmp 1) 4),(some (21,true))⟩,⟨(some 23),(.load 3 (.tmp 22)),(some (21,true))⟩,⟨(some 24),(.call { callee:=(.value (.func 86)),args:=#[(.tmp 23)],argTypes:=#[3] }),(some (21,true))⟩,pP 25 21 24,pM 26 25,⟨(some 27),(.fieldAddr 35 (.tmp 1) 5),(some (26,true))⟩,⟨(some 28),(.load 27 (.tmp 27)),(some (26,true))⟩,⟨(some 29),(.call { callee:=(.value (.func 96)),args:=#[(.tmp 28)],argTypes:=#[27] }),(some (26,true))⟩,pP 30 26 29,pA 2 30]) ⟨[2],[],[],[]⟩)
def c59:PC:=(sq (.reg [pX 1 35 0,pN 2 false]) (sq (.pre ⟨[1],[.old 0],[],[]⟩ k59_1) .ret))
def i59:FnI:=⟨31,[(.tmp 2)],c59,0,[[0,1,0,0,0,1]],[[0]],false,false,0,false⟩
def k33_1:PC:=(.post (.reg [pF 3 37 1 0,pL 4 34 3,pC 5 58 4 34,pM 6 5,⟨(some 7),(.fieldAddr 37 (.tmp 1) 1),(some (6,true))⟩,⟨(some 8),(.load 35 (.tmp 7)),(some (6,true))⟩,⟨(some 9),(.call { callee:=(.value (.func 59)),args:=#[(.tmp 8)],argTypes:=#[35] }),(some (6,true))⟩,pP 10 6 9,pA 2 10]) ⟨[2],[],[],[]⟩)
def c33:PC:=(sq (.reg [pX 1 37 0,pN 2 false]) (sq (.pre ⟨[1],[.old 0],[],[]⟩ k33_1) .ret))
def i33:FnI:=⟨11,[(.tmp 2)],c33,0,[[0,0,0,1,0,0,0,1]],[[0]],false,false,0,false⟩
def r124_1:List PO:=[pM 3 0,
 ⟨(some 4),(.binOp .eql 27 (.tmp 3) (.const (.slice none 0 0)) 27),none⟩]
def c124:PC:=(sq (.reg [pS 2]) (.amb [pM 3 0,⟨(some 4),(.binOp .eql 27 (.tmp 3) (.const (.slice none 0 0)) 27),none⟩] (.tmp 4) (sq (sq (.reg [pS 2]) (.pre ⟨[2],[.nilT 2 0 1],[],[]⟩ .ret)) .bad) (sq .skip (sq (.reg [⟨(some 5),(.buildSlice 27 0 #[]),none⟩,pM 6 0,⟨(some 7),(.call { callee:=(.builtin .append),args:=#[(.tmp 5),(.tmp 6)],argTypes:=#[27,27] }),none⟩,pA 2 7]) (.pre ⟨[2],[.old 1],[],[]⟩ .ret)))))
def i124:FnI:=⟨8,[(.tmp 2)],c124,0,[[1]],[[1]],false,false,0,false⟩
@[go_sem] def x97_1:FxI:=⟨[2,5,7,9],[none,none,none,none,none,none,none,none,none,none],0,[[],[2],[2,5],[2,5,7],[2,5,7,9]],[],[(4,0,0)]⟩
def c97:PC:=(sq (.reg [pX 1 35 0,pG 2 35]) (sq (.fx [pF 3 35 1 1,pL 4 27 3,pC 5 124 4 27,pF 6 35 1 5,pL 7 27 6,pC 8 124 7 27,pF 9 35 1 1,⟨none,(.store 27 (.tmp 9) (.tmp 5)),none⟩,pF 10 35 1 5,⟨none,(.store 27 (.tmp 10) (.tmp 8)),none⟩] x97_1) (sq (.reg [pL 11 35 1,⟨none,(.store 35 (.tmp 2) (.tmp 11)),none⟩]) .ret)))
def i97:FnI:=⟨12,[(.cell 2 35)],c97,0,[[0,1,0,0,0,1]],[[0,1,0,0,0,1]],false,false,0,false⟩
@[go_sem] def x60_1:FxI:=⟨[4,6],[none,none,none,none,none,none,none],0,[[],[4],[4,6]],[],[(1,1,1)]⟩
def c60:PC:=(sq (.reg [pX 1 37 0,pG 2 37]) (sq (.fx [pF 3 37 1 0,pL 4 34 3,pF 5 37 1 1,pL 6 35 5,pC 7 97 6 35,⟨(some 8),(.build 37 #[(0,(.tmp 4)),(1,(.tmp 7))]),none⟩,⟨none,(.store 37 (.tmp 2) (.tmp 8)),none⟩] x60_1) .ret))
def i60:FnI:=⟨9,[(.cell 2 37)],c60,0,[[0,0,0,1,0,0,0,1]],[[0,0,0,1,0,0,0,1]],false,false,0,false⟩
def k130_1b:PC:=(sq (.reg [pO 9 .lss 3 8 7 3]) (sq (cd 9 .skip (.pre ⟨[],[],[],[]⟩ (.exit 0))) (sq (.block 1 (sq (.reg [pM 10 8,pA 5 10]) (sq (.reg [pM 11 1,pM 12 0,pM 13 5,pI 14 27 12 13,pL 15 3 14,pO 16 .eql 3 11 15 3]) (cd 16 (sq (.reg [pM 17 5,pA 4 17]) (.pre ⟨[4],[],[],[]⟩ .ret)) .skip)))) (.post (.reg [pB 18 .add 3 8 1 3,pM 8 18]) ⟨[0,1,7,8],[],[],[]⟩))))
def c130:PC:=(sq (.reg [pK 4 0]) (sq (sq (.reg [pM 6 0,pE 7 6 27,pV 8 0]) (.block 0 (.pre ⟨[0,1,7,8],[],[],[]⟩ (.loop k130_1b)))) (sq (.reg [pK 4 (-1)]) .ret)))
def i130:FnI:=⟨19,[(.tmp 4)],c130,0,[[1],[0]],[[0]],false,false,0,false⟩
def c101:PC:=(sq (.reg [pN 4 false]) (sq (.reg [pM 5 0,pM 6 1,pC2 7 130 5 6 27 3,pB 8 .geq 3 7 0 3,pA 4 8]) .ret))
def i101:FnI:=⟨9,[(.tmp 4)],c101,0,[[1],[0]],[[0]],false,false,0,false⟩
def k126_1b:PC:=(sq (.reg [pO 21 .lss 3 20 19 3]) (sq (cd 21 .skip (.pre ⟨[4,5],[.old 0,.old 1],[],[]⟩ (.exit 0))) (sq (.block 1 (sq (.reg [pM 23 5,pC 24 126 23 83,pM 22 24,pT 25 22 0,pT 26 22 1,pA 6 25,pA 7 26]) (sq (.reg [pM 27 4,pM 28 4,pJ 29 28,pF 30 176 29 1,pL 31 174 30,pM 32 6,⟨(some 33),(.buildSlice 174 1 #[(0,(.tmp 32))]),none⟩,⟨(some 34),(.call { callee:=(.builtin .append),args:=#[(.tmp 31),(.tmp 33)],argTypes:=#[174,174] }),none⟩,pJ 35 27,pF 36 176 35 1,⟨none,(.store 174 (.tmp 36) (.tmp 34)),none⟩]) (.reg [pM 37 7,pA 5 37])))) (.post (.reg [pB 38 .add 3 20 1 3,pM 20 38]) ⟨[4,5,19,20],[.old 0,.old 3],[],[]⟩))))
def c126:PC:=(sq (.reg [⟨(some 2),(.assign (.const (.pointer none))),none⟩,pS 3]) (sq (.reg [pM 8 0,⟨(some 9),(.indexAddr 83 (.tmp 8) (.const (.int .i64 0))),none⟩,pL 10 137 9,⟨(some 11),(.build 176 #[(0,(.tmp 10))]),none⟩,pX 12 176 11,pA 4 12]) (sq (.reg [pM 13 0,⟨(some 14),(.slice 83 (.tmp 13) (some (.const (.int .i64 1))) none none),none⟩,pA 5 14]) (sq (sq (.reg [pM 15 0,⟨(some 16),(.indexAddr 83 (.tmp 15) (.const (.int .i64 0))),none⟩,pF 17 137 16 0,pL 18 3 17,pC 19 140 18 3,pV 20 0]) (.block 0 (.pre ⟨[4,5,19,20],[.old 0,.nilB 0 2 1],[],[]⟩ (.loop k126_1b)))) (sq (.reg [pM 39 4,pM 40 5,pA 2 39,pA 3 40]) .ret)))))
def i126:FnI:=⟨41,[(.tmp 2),(.tmp 3)],c126,0,[[2]],[[0],[2]],true,false,0,false⟩
def c143:PC:=(sq (.reg [⟨(some 4),(.assign (.const (.pointer none))),none⟩]) (sq (.reg [pM 5 0,⟨(some 6),(.build 137 #[(0,(.tmp 5))]),none⟩,pM 7 1,⟨(some 8),(.build 176 #[(0,(.tmp 6)),(1,(.tmp 7))]),none⟩,pX 9 176 8,pA 4 9]) .ret))
def i143:FnI:=⟨10,[(.tmp 4)],c143,0,[[0],[1]],[[0]],true,false,0,false⟩
def k129_1:PC:=(cd 8 (.post .skip ⟨[0,7,8],[],[],[]⟩) (.post (.reg [pB 10 .eql 3 7 7 3,pA 8 10]) ⟨[0,7,8],[],[],[]⟩))
def k129_2:PC:=(.post (.reg [pM 13 0,pJ 14 13,pF 15 176 14 1,pL 16 174 15,⟨(some 17),(.indexAddr 174 (.tmp 16) (.const (.int .i64 0))),none⟩,pL 18 158 17,pC 19 129 18 158,pM 20 19,⟨(some 21),(.move (.tmp 0)),(some (20,true))⟩,⟨(some 22),(.nilCheck (.tmp 21)),(some (20,true))⟩,⟨(some 23),(.fieldAddr 176 (.tmp 22) 1),(some (20,true))⟩,⟨(some 24),(.load 174 (.tmp 23)),(some (20,true))⟩,⟨(some 25),(.indexAddr 174 (.tmp 24) (.const (.int .i64 1))),(some (20,true))⟩,⟨(some 26),(.load 158 (.tmp 25)),(some (20,true))⟩,⟨(some 27),(.call { callee:=(.value (.func 129)),args:=#[(.tmp 26)],argTypes:=#[158] }),(some (20,true))⟩,pP 28 20 27,pA 2 28]) ⟨[2],[],[],[]⟩)
def k129_3:PC:=(.post (.reg [pM 31 0,pJ 32 31,pF 33 176 32 1,pL 34 174 33,⟨(some 35),(.indexAddr 174 (.tmp 34) (.const (.int .i64 0))),none⟩,pL 36 158 35,pC 37 129 36 158,pM 38 37,⟨(some 39),(.move (.tmp 0)),(some (38,false))⟩,⟨(some 40),(.nilCheck (.tmp 39)),(some (38,false))⟩,⟨(some 41),(.fieldAddr 176 (.tmp 40) 1),(some (38,false))⟩,⟨(some 42),(.load 174 (.tmp 41)),(some (38,false))⟩,⟨(some 43),(.indexAddr 174 (.tmp 42) (.const (.int .i64 1))),(some (38,false))⟩,⟨(some 44),(.load 158 (.tmp 43)),(some (38,false))⟩,⟨(some 45),(.call { callee:=(.value (.func 129)),args:=#[(.tmp 44)],argTypes:=#[158] }),(some (38,false))⟩,pQ 46 38 45,pA 2 46]) ⟨[2],[],[],[]⟩)
def c129:PC:=(sq (.reg [pN 2 false]) (sq (sq (.reg [pM 3 0,pJ 4 3,pF 5 176 4 0,pF 6 137 5 0,pL 7 3 6]) (.block 0 (sq (sq (.reg [pB 9 .eql 3 7 2 3,pA 8 9]) (.pre ⟨[0,7,8],[],[],[]⟩ k129_1)) (cd 8 (sq (.reg [pN 2 true]) .ret) (sq (.reg [pB 12 .eql 3 7 5 3,pA 11 12]) (cd 11 (sq (.pre ⟨[0],[],[],[]⟩ k129_2) .ret) (sq (.reg [pB 30 .eql 3 7 6 3,pA 29 30]) (cd 29 (sq (.pre ⟨[0],[],[],[]⟩ k129_3) .ret) .skip)))))))) (sq (.reg [pN 2 false]) .ret)))
def i129:FnI:=⟨47,[(.tmp 2)],c129,0,[[0]],[[0]],false,false,0,false⟩
@[go_sem] def x127_8:FxI:=⟨[7,15,16,17],[none,none,none,none,none,none,none,none,none,none,none,none,none,none,none,none,none,none,none],0,[[],[7],[7,15],[7,15,16],[7,15,16,17]],[],[(11,0,0),(12,0,0),(13,0,0)]⟩
@[go_sem] def x127_12:FxI:=⟨[7,14,15],[none,none,none,none,none,none,none,none,none,none,none,none,none,none,none,none,none],0,[[],[7],[7,14],[7,14,15]],[],[(11,0,0),(12,0,0),(13,0,0)]⟩
def k127_1:PC:=(cd 14 (sq (.reg [pM 16 0,pJ 17 16,pF 18 176 17 0,pF 19 137 18 1,pL 20 3 19,pM 21 1,pO 22 .eql 3 20 21 3]) (cd 22 (sq (.reg [⟨(some 23),(.call { callee:=(.value (.func 143)),args:=#[(.const (.int .i64 2)),(.const (.slice none 0 0))],argTypes:=#[3,174] }),none⟩,pA 4 23]) (.pre ⟨[4],[],[],[]⟩ .ret)) (.post .skip ⟨[],[],[],[]⟩))) (sq (.reg [pB 25 .eql 3 10 6 3,pA 24 25]) (cd 24 (sq (.fx [pM 26 0,pJ 27 26,pF 28 176 27 1,pL 29 174 28,⟨(some 30),(.indexAddr 174 (.tmp 29) (.const (.int .i64 0))),none⟩,pL 31 158 30,pM 32 1,pC2 33 127 31 32 158 3,pM 34 0,pJ 35 34,pF 36 176 35 1,pL 37 174 36,⟨(some 38),(.indexAddr 174 (.tmp 37) (.const (.int .i64 1))),none⟩,pL 39 158 38,pM 40 1,pC2 41 127 39 40 158 3,⟨(some 42),(.buildSlice 174 2 #[(0,(.tmp 33)),(1,(.tmp 41))]),none⟩,⟨(some 43),(.call { callee:=(.value (.func 143)),args:=#[(.const (.int .i64 6)),(.tmp 42)],argTypes:=#[3,174] }),none⟩,pA 4 43] x127_8) (.pre ⟨[4],[],[],[]⟩ .ret)) (sq (.reg [pB 45 .eql 3 10 7 3,pA 44 45]) (cd 44 (sq (.reg [pM 46 0,pJ 47 46,pF 48 176 47 1,pL 49 174 48,⟨(some 50),(.indexAddr 174 (.tmp 49) (.const (.int .i64 0))),none⟩,pL 51 158 50,pM 52 1,pC2 53 127 51 52 158 3,pM 54 0,⟨(some 55),(.buildSlice 174 2 #[(0,(.tmp 53)),(1,(.tmp 54))]),none⟩,⟨(some 56),(.call { callee:=(.value (.func 143)),args:=#[(.const (.int .i64 5)),(.tmp 55)],argTypes:=#[3,174] }),none⟩,pA 4 56]) (.pre ⟨[4],[],[],[]⟩ .ret)) (sq (.reg [pB 58 .eql 3 10 5 3,pA 57 58]) (cd 57 (sq (.fx [pM 59 0,pJ 60 59,pF 61 176 60 1,pL 62 174 61,⟨(some 63),(.indexAddr 174 (.tmp 62) (.const (.int .i64 0))),none⟩,pL 64 158 63,pM 65 1,pC2 66 127 64 65 158 3,pM 67 0,pJ 68 67,pF 69 176 68 1,pL 70 174 69,⟨(some 71),(.indexAddr 174 (.tmp 70) (.const (.int .i64 1))),none⟩,pL 72 158 71,⟨(some 73),(.buildSlice 174 2 #[(0,(.tmp 66)),(1,(.tmp 72))]),none⟩,⟨(some 74),(.call { callee:=(.value (.func 143)),args:=#[(.const (.int .i64 5)),(.tmp 73)],argTypes:=#[3,174] }),none⟩,pA 5 74] x127_12) (sq (sq (.reg [pM 75 0,pJ 76 75,pF 77 176 76 1,pL 78 174 77,⟨(some 79),(.indexAddr 174 (.tmp 78) (.const (.int .i64 0))),none⟩,pL 80 158 79,pC 81 129 80 158]) (cd 81 (sq (.reg [pM 82 5,pM 83 0,pJ 84 83,pF 85 176 84 1,pL 86 174 85,⟨(some 87),(.indexAddr 174 (.tmp 86) (.const (.int .i64 1))),none⟩,pL 88 158 87,pM 89 1,pC2 90 127 88 89 158 3,⟨(some 91),(.buildSlice 174 2 #[(0,(.tmp 82)),(1,(.tmp 90))]),none⟩,⟨(some 92),(.call { callee:=(.value (.func 143)),args:=#[(.const (.int .i64 6)),(.tmp 91)],argTypes:=#[3,174] }),none⟩,pA 4 92]) (.pre ⟨[4],[],[],[]⟩ .ret)) .skip)) (sq (.reg [pM 93 5,pA 4 93]) (.pre ⟨[4],[],[],[]⟩ .ret)))) (.post .skip ⟨[],[],[],[]⟩))))))))
def c127:PC:=(sq (.reg [⟨(some 4),(.assign (.const (.pointer none))),none⟩]) (sq (sq (.reg [pM 6 0,pJ 7 6,pF 8 176 7 0,pF 9 137 8 0,pL 10 3 9]) (.block 0 (sq (.reg [pB 12 .eql 3 10 4 3,pA 11 12]) (cd 11 (sq (.reg [⟨(some 13),(.call { callee:=(.value (.func 143)),args:=#[(.const (.int .i64 2)),(.const (.slice none 0 0))],argTypes:=#[3,174] }),none⟩,pA 4 13]) .ret) (sq (.reg [pB 15 .eql 3 10 3 3,pA 14 15]) (.pre ⟨[0,1,10,14],[],[],[]⟩ k127_1)))))) (sq (.reg [⟨(some 94),(.call { callee:=(.value (.func 143)),args:=#[(.const (.int .i64 1)),(.const (.slice none 0 0))],argTypes:=#[3,174] }),none⟩,pA 4 94]) .ret)))
def i127:FnI:=⟨95,[(.tmp 4)],c127,0,[[0],[0]],[[0]],true,false,0,false⟩
def c144:PC:=(sq (.reg [pN 5 false]) (sq (.reg [pL 6 158 2,pJ 7 6,pF 8 176 7 1,pL 9 174 8,pM 10 0,pI 11 174 9 10,pL 12 158 11,pJ 13 12,pF 14 176 13 0,pF 15 137 14 0,pL 16 3 15,pM 17 1,pO 18 .eql 3 16 17 3,pA 5 18]) .ret))
def i144:FnI:=⟨19,[(.tmp 5)],c144,0,[[0],[0],[0]],[[0]],false,false,0,false⟩
def k146_1b:PC:=(sq (.reg [pO 17 .lss 3 16 15 3]) (sq (cd 17 .skip (.pre ⟨[3],[.old 0],[],[]⟩ (.exit 0))) (sq (.block 1 (sq (.reg [pI 18 174 14 16,pL 19 158 18,pA 5 19]) (.reg [pM 20 3,pM 21 5,pC 22 146 21 158,⟨(some 23),(.call { callee:=(.builtin .append),args:=#[(.tmp 20),(.tmp 22)],argTypes:=#[83,83] }),none⟩,pA 3 23]))) (.post (.reg [pB 24 .add 3 16 1 3,pM 16 24]) ⟨[3,14,15,16],[.old 2],[],[]⟩))))
def c146:PC:=(sq (.reg [pS 2]) (sq (.reg [pM 6 0,pJ 7 6,pF 8 176 7 0,pL 9 137 8,⟨(some 10),(.buildSlice 83 1 #[(0,(.tmp 9))]),none⟩,pA 3 10]) (sq (sq (.reg [pM 11 0,pJ 12 11,pF 13 176 12 1,pL 14 174 13,pE 15 14 174,pV 16 0]) (.block 0 (.pre ⟨[3,14,15,16],[.old 0],[],[]⟩ (.loop k146_1b)))) (sq (.reg [pM 25 3,pA 2 25]) .ret))))
def i146:FnI:=⟨26,[(.tmp 2)],c146,0,[[0]],[[2]],false,false,0,false⟩
def k145_1b:PC:=(sq (.reg [pO 14 .lss 3 13 12 3]) (sq (cd 14 .skip (.pre ⟨[],[],[],[]⟩ (.exit 0))) (sq (.block 1 (sq (.reg [pM 15 13,pA 5 15]) (sq (.fz [pM 16 0,pM 17 5,pI 18 83 16 17,pL 19 137 18,pM 20 1,pM 21 5,pI 22 83 20 21,pL 23 137 22,pO 24 .neq 137 19 23 137]) (cd 24 (sq (.reg [pN 4 false]) (.pre ⟨[4],[],[],[]⟩ .ret)) .skip)))) (.post (.reg [pB 25 .add 3 13 1 3,pM 13 25]) ⟨[0,1,12,13],[],[],[]⟩))))
def c145:PC:=(sq (.reg [pN 4 false]) (sq (sq (.reg [pM 6 0,pE 7 6 83,pM 8 1,pE 9 8 83,pO 10 .neq 3 7 9 3]) (cd 10 (sq (.reg [pN 4 false]) .ret) .skip)) (sq (sq (.reg [pM 11 0,pE 12 11 83,pV 13 0]) (.block 0 (.pre ⟨[0,1,12,13],[],[],[]⟩ (.loop k145_1b)))) (sq (.reg [pN 4 true]) .ret))))
def i145:FnI:=⟨26,[(.tmp 4)],c145,0,[[2],[2]],[[0]],false,false,0,false⟩
@[go_sem] def x128_5:FxI:=⟨[6,7,8,11],[none,none,none,none,none,none,none,none,none,none,none,none],0,[[],[6],[6,7],[6,7,8],[6,7,8,11]],[],[(0,1,1),(0,2,2),(0,3,3),(1,1,1),(1,2,2),(4,1,1),(4,2,2)]⟩
def k128_1b:PC:=(sq (.reg [pO 19 .lss 3 18 17 3]) (sq (cd 19 .skip (.pre ⟨[0,3],[.old 0,.old 1,.old 2],[],[]⟩ (.exit 0))) (sq (.block 1 (sq (.reg [pI 20 174 16 18,pL 21 158 20,pA 5 21]) (.fx [pL 22 158 3,pL 23 158 3,pJ 24 23,pF 25 176 24 1,pL 26 174 25,pM 27 5,pC 28 128 27 158,⟨(some 29),(.buildSlice 174 1 #[(0,(.tmp 28))]),none⟩,⟨(some 30),(.call { callee:=(.builtin .append),args:=#[(.tmp 26),(.tmp 29)],argTypes:=#[174,174] }),none⟩,pJ 31 22,pF 32 176 31 1,⟨none,(.store 174 (.tmp 32) (.tmp 30)),none⟩] x128_5))) (.post (.reg [pB 33 .add 3 18 1 3,pM 18 33]) ⟨[0,3,16,17,18],[.old 0,.old 1,.old 4],[],[]⟩))))
def k128_3:PC:=(.post (.reg [pM 43 6,⟨(some 44),(.call { callee:=(.value (.tmp 43)),args:=#[(.const (.int .i64 0)),(.const (.int .i64 1))],argTypes:=#[3,3] }),none⟩,pM 45 44,⟨(some 46),(.move (.tmp 6)),(some (45,false))⟩,⟨(some 47),(.call { callee:=(.value (.tmp 46)),args:=#[(.const (.int .i64 1)),(.const (.int .i64 1))],argTypes:=#[3,3] }),(some (45,false))⟩,pQ 48 45 47,pA 42 48]) ⟨[3,6,42],[.old 0],[],[]⟩)
def k128_5:PC:=(.post (.fz [pM 80 6,⟨(some 81),(.call { callee:=(.value (.tmp 80)),args:=#[(.const (.int .i64 1)),(.const (.int .i64 1))],argTypes:=#[3,3] }),none⟩,pM 82 81,⟨(some 83),(.load 158 (.tmp 3)),(some (82,false))⟩,⟨(some 84),(.nilCheck (.tmp 83)),(some (82,false))⟩,⟨(some 85),(.fieldAddr 176 (.tmp 84) 1),(some (82,false))⟩,⟨(some 86),(.load 174 (.tmp 85)),(some (82,false))⟩,⟨(some 87),(.indexAddr 174 (.tmp 86) (.const (.int .i64 0))),(some (82,false))⟩,⟨(some 88),(.load 158 (.tmp 87)),(some (82,false))⟩,⟨(some 89),(.call { callee:=(.value (.func 146)),args:=#[(.tmp 88)],argTypes:=#[158] }),(some (82,false))⟩,⟨(some 90),(.load 158 (.tmp 3)),(some (82,false))⟩,⟨(some 91),(.nilCheck (.tmp 90)),(some (82,false))⟩,⟨(some 92),(.fieldAddr 176 (.tmp 91) 1),(some (82,false))⟩,⟨(some 93),(.load 174 (.tmp 92)),(some (82,false))⟩,⟨(some 94),(.indexAddr 174 (.tmp 93) (.const (.int .i64 1))),(some (82,false))⟩,⟨(some 95),(.load 158 (.tmp 94)),(some (82,false))⟩,⟨(some 96),(.call { callee:=(.value (.func 146)),args:=#[(.tmp 95)],argTypes:=#[158] }),(some (82,false))⟩,⟨(some 97),(.call { callee:=(.value (.func 145)),args:=#[(.tmp 89),(.tmp 96)],argTypes:=#[83,83] }),(some (82,false))⟩,pQ 98 82 97,pA 79 98]) ⟨[3,79],[.old 0],[],[]⟩)
def k128_7:PC:=(.post (.reg [pM 108 6,⟨(some 109),(.call { callee:=(.value (.tmp 108)),args:=#[(.const (.int .i64 0)),(.const (.int .i64 1))],argTypes:=#[3,3] }),none⟩,pM 110 109,⟨(some 111),(.move (.tmp 6)),(some (110,false))⟩,⟨(some 112),(.call { callee:=(.value (.tmp 111)),args:=#[(.const (.int .i64 0)),(.const (.int .i64 2))],argTypes:=#[3,3] }),(some (110,false))⟩,pQ 113 110 112,pA 107 113]) ⟨[3,6,107],[.old 0],[],[]⟩)
def k128_6:PC:=(cd 105 (.block 5 (sq (.pre ⟨[3,6],[.old 0],[],[]⟩ k128_7) (cd 107 (sq (.reg [⟨(some 114),(.call { callee:=(.value (.func 143)),args:=#[(.const (.int .i64 2)),(.const (.slice none 0 0))],argTypes:=#[3,174] }),none⟩,pA 2 114]) (.pre ⟨[2],[],[],[]⟩ .ret)) (sq (.reg [pM 116 6,⟨(some 117),(.call { callee:=(.value (.tmp 116)),args:=#[(.const (.int .i64 0)),(.const (.int .i64 7))],argTypes:=#[3,3] }),none⟩,pA 115 117]) (cd 115 (sq (.reg [pL 118 158 3,pJ 119 118,pF 120 176 119 1,pL 121 174 120,⟨(some 122),(.indexAddr 174 (.tmp 121) (.const (.int .i64 0))),none⟩,pL 123 158 122,pA 2 123]) (.pre ⟨[2],[],[],[]⟩ .ret)) (.post .skip ⟨[3],[.old 0],[],[]⟩)))))) (.post .skip ⟨[3],[.old 0],[],[]⟩))
def k128_4:PC:=(cd 68 (.block 4 (sq (.reg [pM 71 6,⟨(some 72),(.call { callee:=(.value (.tmp 71)),args:=#[(.const (.int .i64 0)),(.const (.int .i64 1))],argTypes:=#[3,3] }),none⟩,pA 70 72]) (cd 70 (sq (.reg [pL 73 158 3,pJ 74 73,pF 75 176 74 1,pL 76 174 75,⟨(some 77),(.indexAddr 174 (.tmp 76) (.const (.int .i64 1))),none⟩,pL 78 158 77,pA 2 78]) (.pre ⟨[2],[],[],[]⟩ .ret)) (sq (.pre ⟨[3,6],[.old 0],[],[]⟩ k128_5) (cd 79 (sq (.reg [pL 99 158 3,pJ 100 99,pF 101 176 100 1,pL 102 174 101,⟨(some 103),(.indexAddr 174 (.tmp 102) (.const (.int .i64 0))),none⟩,pL 104 158 103,pA 2 104]) (.pre ⟨[2],[],[],[]⟩ .ret)) (.post .skip ⟨[3],[.old 0],[],[]⟩)))))) (sq (.reg [pB 106 .eql 3 39 7 3,pA 105 106]) (.post (.pre ⟨[3,6,105],[.old 0],[],[]⟩ k128_6) ⟨[3],[.old 0],[],[]⟩)))
def k128_2:PC:=(cd 40 (.block 3 (sq (.pre ⟨[3,6],[.old 0],[],[]⟩ k128_3) (cd 42 (sq (.reg [⟨(some 49),(.call { callee:=(.value (.func 143)),args:=#[(.const (.int .i64 1)),(.const (.slice none 0 0))],argTypes:=#[3,174] }),none⟩,pA 2 49]) (.pre ⟨[2],[],[],[]⟩ .ret)) (sq (.reg [pM 51 6,⟨(some 52),(.call { callee:=(.value (.tmp 51)),args:=#[(.const (.int .i64 0)),(.const (.int .i64 2))],argTypes:=#[3,3] }),none⟩,pA 50 52]) (cd 50 (sq (.reg [pL 53 158 3,pJ 54 53,pF 55 176 54 1,pL 56 174 55,⟨(some 57),(.indexAddr 174 (.tmp 56) (.const (.int .i64 1))),none⟩,pL 58 158 57,pA 2 58]) (.pre ⟨[2],[],[],[]⟩ .ret)) (sq (.reg [pM 60 6,⟨(some 61),(.call { callee:=(.value (.tmp 60)),args:=#[(.const (.int .i64 1)),(.const (.int .i64 2))],argTypes:=#[3,3] }),none⟩,pA 59 61]) (cd 59 (sq (.reg [pL 62 158 3,pJ 63 62,pF 64 176 63 1,pL 65 174 64,⟨(some 66),(.indexAddr 174 (.tmp 65) (.const (.int .i64 0))),none⟩,pL 67 158 66,pA 2 67]) (.pre ⟨[2],[],[],[]⟩ .ret)) (.post .skip ⟨[3],[.old 0],[],[]⟩)))))))) (sq (.reg [pB 69 .eql 3 39 6 3,pA 68 69]) (.post (.pre ⟨[3,6,39,68],[.old 0],[],[]⟩ k128_4) ⟨[3],[.old 0],[],[]⟩)))
def c128:PC:=(sq (.reg [⟨(some 2),(.assign (.const (.pointer none))),none⟩]) (sq (.reg [pM 7 0,pJ 8 7,pF 9 176 8 0,pL 10 137 9,⟨(some 11),(.build 176 #[(0,(.tmp 10))]),none⟩,pX 12 176 11,pG 3 158,⟨none,(.store 158 (.tmp 3) (.tmp 12)),none⟩]) (sq (sq (.reg [pM 13 0,pJ 14 13,pF 15 176 14 1,pL 16 174 15,pE 17 16 174,pV 18 0]) (.block 0 (.pre ⟨[0,3,16,17,18],[.old 1,.old 0,.nilB 0 2 1],[],[]⟩ (.loop k128_1b)))) (sq (.pre ⟨[0,3],[.old 0],[],[(0,0,0)]⟩ (.reg [⟨(some 34),(.makeFunc (.func 144) #[] #[(.tmp 3)]),none⟩,pA 6 34])) (sq (sq (.reg [pM 35 0,pJ 36 35,pF 37 176 36 0,pF 38 137 37 0,pL 39 3 38]) (.block 2 (sq (.reg [pB 41 .eql 3 39 5 3,pA 40 41]) (.pre ⟨[3,6,39,40],[.old 0],[],[]⟩ k128_2)))) (sq (.reg [pL 124 158 3,pA 2 124]) .ret))))))
def i128:FnI:=⟨125,[(.tmp 2)],c128,0,[[0]],[[0]],true,false,0,false⟩
def k100_1b:PC:=(sq (.reg [pO 17 .lss 3 16 15 3]) (sq (cd 17 .skip (.pre ⟨[5],[],[],[]⟩ (.exit 0))) (sq (.block 1 (sq (.reg [pI 18 27 14 16,pL 19 3 18,pA 8 19]) (.reg [pM 20 5,pM 21 8,pC2 22 127 20 21 158 3,pC 23 128 22 158,pA 5 23]))) (.post (.reg [pB 24 .add 3 16 1 3,pM 16 24]) ⟨[5,14,15,16],[],[],[]⟩))))
def c100:PC:=(sq (.reg [pN 4 false]) (sq (.reg [pM 10 0,pC 11 126 10 83,pM 9 11,pT 12 9 0,pT 13 9 1,pA 5 12,pA 6 13]) (sq (sq (.reg [pM 14 1,pE 15 14 27,pV 16 0]) (.block 0 (.pre ⟨[5,14,15,16],[],[],[]⟩ (.loop k100_1b)))) (sq (.reg [pM 25 5,pC 26 129 25 158,pA 4 26]) .ret))))
def i100:FnI:=⟨27,[(.tmp 4)],c100,0,[[2],[1]],[[0]],false,false,0,false⟩
def c142:PC:=(sq (.reg [pX 1 34 0,pK 2 0]) (sq (.fz [pF 3 34 1 0,pL 4 3 3,pF 5 34 1 1,pL 6 3 5,pC 7 94 6 3,pO 8 .add 3 4 7 3,pB 9 .sub 3 8 1 3,pA 2 9]) .ret))
def i142:FnI:=⟨10,[(.tmp 2)],c142,0,[[0,0]],[[0]],false,false,0,false⟩
def c125:PC:=(sq (.reg [pX 2 34 0,pN 4 false]) (sq (.fz [pM 5 1,pF 6 34 2 0,pL 7 3 6,pL 8 34 2,pC 9 142 8 34,pC3 10 87 5 7 9 3 3 3,pA 4 10]) .ret))
def i125:FnI:=⟨11,[(.tmp 4)],c125,0,[[0,0],[0]],[[0]],false,false,0,false⟩
def k99_1:PC:=(.post (.reg [pF 5 34 2 1,pL 6 3 5,pF 7 34 3 1,pL 8 3 7,pO 9 .leq 3 6 8 3,pM 10 9,⟨(some 11),(.load 34 (.tmp 2)),(some (10,true))⟩,⟨(some 12),(.fieldAddr 34 (.tmp 3) 0),(some (10,true))⟩,⟨(some 13),(.load 3 (.tmp 12)),(some (10,true))⟩,⟨(some 14),(.call { callee:=(.value (.func 125)),args:=#[(.tmp 11),(.tmp 13)],argTypes:=#[34,3] }),(some (10,true))⟩,pP 15 10 14,pA 4 15]) ⟨[4],[],[],[]⟩)
def c99:PC:=(sq (.reg [pX 2 34 0,pX 3 34 1,pN 4 false]) (sq (.pre ⟨[2,3],[.old 0,.old 1],[],[]⟩ k99_1) .ret))
def i99:FnI:=⟨16,[(.tmp 4)],c99,0,[[0,0],[0,0]],[[0]],false,false,0,false⟩
def k98_1:PC:=(.post (.reg [pF 4 110 2 0,pL 5 34 4,pF 6 37 1 0,pL 7 34 6,pC2 8 99 5 7 34 34,pM 9 8,⟨(some 10),(.fieldAddr 37 (.tmp 1) 0),(some (9,true))⟩,⟨(some 11),(.fieldAddr 34 (.tmp 10) 1),(some (9,true))⟩,⟨(some 12),(.load 3 (.tmp 11)),(some (9,true))⟩,⟨(some 13),(.fieldAddr 110 (.tmp 2) 1),(some (9,true))⟩,⟨(some 14),(.load 3 (.tmp 13)),(some (9,true))⟩,⟨(some 15),(.fieldAddr 110 (.tmp 2) 2),(some (9,true))⟩,⟨(some 16),(.load 3 (.tmp 15)),(some (9,true))⟩,⟨(some 17),(.call { callee:=(.value (.func 87)),args:=#[(.tmp 12),(.tmp 14),(.tmp 16)],argTypes:=#[3,3,3] }),(some (9,true))⟩,pP 18 9 17,pA 3 18]) ⟨[3],[],[],[]⟩)
def c98:PC:=(sq (.reg [pX 2 110 0,pN 3 false]) (sq (.pre ⟨[1,2],[.old 0],[],[]⟩ k98_1) .ret))
def i98:FnI:=⟨19,[(.tmp 3)],c98,0,[[0,0,0,0],[0]],[[0]],false,false,0,false⟩
def k61_1:PC:=(.post (.reg [pF 7 86 2 0,pL 8 82 7,pE 9 8 82,pB 10 .eql 3 9 0 3,pM 11 10,⟨(some 12),(.fieldAddr 86 (.tmp 2) 0),(some (11,false))⟩,⟨(some 13),(.load 82 (.tmp 12)),(some (11,false))⟩,⟨(some 14),(.move (.tmp 5)),(some (11,false))⟩,⟨(some 15),(.call { callee:=(.value (.func 88)),args:=#[(.tmp 13),(.tmp 14)],argTypes:=#[82,125] }),(some (11,false))⟩,pQ 16 11 15,pM 17 16,⟨(some 18),(.fieldAddr 86 (.tmp 2) 1),(some (17,true))⟩,⟨(some 19),(.load 83 (.tmp 18)),(some (17,true))⟩,⟨(some 20),(.call { callee:=(.builtin .len),args:=#[(.tmp 19)],argTypes:=#[83] }),(some (17,true))⟩,⟨(some 21),(.binOp .eql 3 (.tmp 20) (.const (.int .i64 0)) 3),(some (17,true))⟩,⟨(some 22),(.move (.tmp 21)),(some (17,true))⟩,⟨(some 23),(.fieldAddr 86 (.tmp 2) 1),(some (22,false))⟩,⟨(some 24),(.load 83 (.tmp 23)),(some (22,false))⟩,⟨(some 25),(.fieldAddr 37 (.tmp 3) 1),(some (22,false))⟩,⟨(some 26),(.fieldAddr 35 (.tmp 25) 1),(some (22,false))⟩,⟨(some 27),(.load 27 (.tmp 26)),(some (22,false))⟩,⟨(some 28),(.call { callee:=(.value (.func 100)),args:=#[(.tmp 24),(.tmp 27)],argTypes:=#[83,27] }),(some (22,false))⟩,⟨(some 29),(.pick (.tmp 22) (.const (.bool true)) (.tmp 28)),(some (17,true))⟩,pP 30 17 29,pM 31 30,⟨(some 32),(.fieldAddr 86 (.tmp 2) 2),(some (31,true))⟩,⟨(some 33),(.load 3 (.tmp 32)),(some (31,true))⟩,⟨(some 34),(.binOp .eql 3 (.tmp 33) (.const (.int .i64 (-1))) 3),(some (31,true))⟩,⟨(some 35),(.move (.tmp 34)),(some (31,true))⟩,⟨(some 36),(.fieldAddr 37 (.tmp 3) 1),(some (35,false))⟩,⟨(some 37),(.fieldAddr 35 (.tmp 36) 5),(some (35,false))⟩,⟨(some 38),(.load 27 (.tmp 37)),(some (35,false))⟩,⟨(some 39),(.fieldAddr 86 (.tmp 2) 2),(some (35,false))⟩,⟨(some 40),(.load 3 (.tmp 39)),(some (35,false))⟩,⟨(some 41),(.call { callee:=(.value (.func 101)),args:=#[(.tmp 38),(.tmp 40)],argTypes:=#[27,3] }),(some (35,false))⟩,⟨(some 42),(.pick (.tmp 35) (.const (.bool true)) (.tmp 41)),(some (31,true))⟩,pP 43 31 42,pA 4 43]) ⟨[4],[],[],[]⟩)
def c61:PC:=(sq (.reg [pX 2 86 0,pX 3 37 1,pN 4 false]) (sq (.reg [⟨(some 6),(.makeFunc (.func 98) #[] #[(.tmp 3)]),none⟩,pA 5 6]) (sq (.pre ⟨[2,3,5],[.old 0,.old 1],[],[]⟩ k61_1) .ret)))
def i61:FnI:=⟨44,[(.tmp 4)],c61,0,[[4,2,0,2,0],[0,0,0,1,0,0,0,1]],[[0]],false,false,0,false⟩
def c147:PC:=(sq (.reg [pN 2 false]) (sq (.reg [pM 3 0,pM 4 0,pO 5 .neq 3 3 4 3,pA 2 5]) .ret))
def i147:FnI:=⟨6,[(.tmp 2)],c147,0,[[0]],[[0]],false,false,0,false⟩
def k131_1:PC:=(.post (.reg [pM 5 0,pC 6 147 5 3,pM 7 6,⟨(some 8),(.move (.tmp 1)),(some (7,true))⟩,⟨(some 9),(.call { callee:=(.value (.func 147)),args:=#[(.tmp 8)],argTypes:=#[3] }),(some (7,true))⟩,⟨(some 10),(.unOp .not 4 (.tmp 9)),(some (7,true))⟩,pP 11 7 10,pM 12 11,⟨(some 13),(.move (.tmp 0)),(some (12,false))⟩,⟨(some 14),(.move (.tmp 1)),(some (12,false))⟩,⟨(some 15),(.binOp .lss 3 (.tmp 13) (.tmp 14) 3),(some (12,false))⟩,pQ 16 12 15,pA 4 16]) ⟨[4],[],[],[]⟩)
def c131:PC:=(sq (.reg [pN 4 false]) (sq (.pre ⟨[0,1],[],[],[]⟩ k131_1) .ret))
def i131:FnI:=⟨17,[(.tmp 4)],c131,0,[[0],[0]],[[0]],false,false,0,false⟩
def c132:PC:=(sq (.reg [pN 2 false]) (sq (.reg [pM 3 0,pM 4 0,pO 5 .neq 3 3 4 3,pA 2 5]) .ret))
def i132:FnI:=⟨6,[(.tmp 2)],c132,0,[[0]],[[0]],false,false,0,false⟩
def k102_3:PC:=(cd 27 (.post (.reg [pM 28 9,pB 29 .add 3 28 1 3,pA 7 29]) ⟨[0,1,6,7,8],[],[],[]⟩) (.post (.reg [pM 30 9,pA 8 30]) ⟨[0,1,6,7,8],[],[],[]⟩))
def k102_1b:PC:=(sq (sq (.reg [pM 13 7,pM 14 8,pO 15 .lss 3 13 14 3]) (cd 15 .skip (.pre ⟨[0,1,6,7],[],[],[]⟩ (.exit 0)))) (.block 1 (sq (.reg [pM 16 7,pM 17 8,pO 18 .add 3 16 17 3,⟨(some 19),(.convert 3 143 (.tmp 18)),none⟩,⟨(some 20),(.binOp .shr 143 (.tmp 19) (.const (.int .u64 1)) 143),none⟩,⟨(some 21),(.convert 143 3 (.tmp 20)),none⟩,pA 9 21]) (sq (.reg [pM 22 0,pM 23 9,pI 24 27 22 23,pL 25 3 24,pM 26 1,pC2 27 131 25 26 3 3]) (.post (.pre ⟨[0,1,6,7,8,9,27],[],[],[]⟩ k102_3) ⟨[0,1,6,7,8],[],[],[]⟩)))))
def k102_4:PC:=(.post (.reg [pM 31 7,pM 32 7,pM 33 6,pO 34 .lss 3 32 33 3,pM 35 34,⟨(some 36),(.move (.tmp 0)),(some (35,true))⟩,⟨(some 37),(.move (.tmp 7)),(some (35,true))⟩,⟨(some 38),(.indexAddr 27 (.tmp 36) (.tmp 37)),(some (35,true))⟩,⟨(some 39),(.load 3 (.tmp 38)),(some (35,true))⟩,⟨(some 40),(.move (.tmp 1)),(some (35,true))⟩,⟨(some 41),(.binOp .eql 3 (.tmp 39) (.tmp 40) 3),(some (35,true))⟩,⟨(some 42),(.move (.tmp 41)),(some (35,true))⟩,⟨(some 43),(.move (.tmp 0)),(some (42,false))⟩,⟨(some 44),(.move (.tmp 7)),(some (42,false))⟩,⟨(some 45),(.indexAddr 27 (.tmp 43) (.tmp 44)),(some (42,false))⟩,⟨(some 46),(.load 3 (.tmp 45)),(some (42,false))⟩,⟨(some 47),(.call { callee:=(.value (.func 132)),args:=#[(.tmp 46)],argTypes:=#[3] }),(some (42,false))⟩,⟨(some 48),(.move (.tmp 47)),(some (42,false))⟩,⟨(some 49),(.move (.tmp 1)),(some (48,true))⟩,⟨(some 50),(.call { callee:=(.value (.func 132)),args:=#[(.tmp 49)],argTypes:=#[3] }),(some (48,true))⟩,⟨(some 51),(.pick (.tmp 48) (.tmp 50) (.const (.bool false))),(some (42,false))⟩,⟨(some 52),(.pick (.tmp 42) (.const (.bool true)) (.tmp 51)),(some (35,true))⟩,pP 53 35 52,pA 4 31,pA 5 53]) ⟨[4,5],[],[],[]⟩)
def c102:PC:=(sq (.reg [pK 4 0,pN 5 false]) (sq (.reg [pM 10 0,pE 11 10 27,pA 6 11]) (sq (.reg [pM 12 6,pK 7 0,pA 8 12]) (sq (.block 0 (.pre ⟨[0,1,6,7,8],[],[],[]⟩ (.loop k102_1b))) (sq (.pre ⟨[0,1,6,7],[],[],[]⟩ k102_4) .ret)))))
def i102:FnI:=⟨54,[(.tmp 4),(.tmp 5)],c102,0,[[1],[0]],[[0],[0]],false,false,0,false⟩
def i103:FnI:=⟨95,[(.tmp 6)],.bad,4,[[1],[0],[1]],[[1]],false,false,27,false⟩
def ren103:Go.Shelf.Ren:=insRen 103 133 134 0 3 4 27
theorem insb103 : InsB Tryz.prog ren103 "slices.Insert[[]int,int]" "slices.Insert" #[27, 3] := ⟨by kernel_rfl, by kernel_rfl, ⟨Tryz.f133, by kernel_rfl, by kernel_rfl, by kernel_rfl, by kernel_rfl, by kernel_rfl⟩, by kernel_rfl, by kernel_rfl, by kernel_rfl⟩
theorem ins103:InsOk Tryz.prog 103 27:=insOk_of insb103
def k104_3:PC:=(cd 29 (sq (.reg [pM 30 0,pM 31 5,pM 32 7,pI 33 27 30 31,⟨none,(.store 3 (.tmp 33) (.tmp 32)),none⟩]) (.post (.reg [pM 34 5,pB 35 .add 3 34 1 3,pA 5 35]) ⟨[0,1,5,6],[.old 1],[0],[]⟩)) (.post .skip ⟨[0,1,5,6],[.old 1],[0],[]⟩))
def k104_1b:PC:=(sq (sq (.reg [pM 16 6,pM 17 0,pE 18 17 27,pO 19 .lss 3 16 18 3]) (cd 19 .skip (.pre ⟨[0,5],[.old 1],[0],[]⟩ (.exit 0)))) (sq (.block 1 (sq (.reg [pM 22 0,pM 23 6,pI 24 27 22 23,pL 25 3 24,pA 7 25]) (sq (.reg [pM 26 1,pM 27 7,⟨(some 28),(.call { callee:=(.value (.tmp 26)),args:=#[(.tmp 27)],argTypes:=#[3] }),none⟩,pU 29 4 28]) (.pre ⟨[0,1,5,6,7,29],[.old 1],[0],[]⟩ k104_3)))) (.post (.reg [pM 20 6,pB 21 .add 3 20 1 3,pA 6 21]) ⟨[0,1,5,6],[.old 1],[0],[]⟩)))
def c104:PC:=(sq (.reg [pS 4]) (sq (.reg [pM 8 0,pM 9 1,pC2 10 135 8 9 27 114,pA 5 10]) (sq (sq (.reg [pM 11 5,pB 12 .eql 3 11 (-1) 3]) (cd 12 (sq (.reg [pM 13 0,pA 4 13]) (.pre ⟨[4],[.old 0],[0],[]⟩ .ret)) .skip)) (sq (sq (.reg [pM 14 5,pB 15 .add 3 14 1 3,pA 6 15]) (.block 0 (.pre ⟨[0,1,5,6],[.old 0],[0],[]⟩ (.loop k104_1b)))) (sq (.reg [pM 36 0,pM 37 5,⟨(some 38),(.slice 27 (.tmp 36) (some (.tmp 37)) none none),none⟩,⟨none,(.call { callee:=(.builtin .clear),args:=#[(.tmp 38)],argTypes:=#[27] }),none⟩]) (sq (.reg [pM 39 0,pM 40 5,⟨(some 41),(.slice 27 (.tmp 39) none (some (.tmp 40)) none),none⟩,pA 4 41]) (.pre ⟨[4],[.old 1],[0],[]⟩ .ret)))))))
def i104:FnI:=⟨42,[(.tmp 4)],c104,3,[[1],[0]],[[1]],false,true,1,false⟩
def c105:PC:=(sq (.reg [pN 3 false]) (sq (.reg [pM 4 0,pF 5 92 1 1,pL 6 3 5,pO 7 .eql 3 4 6 3,pA 3 7]) .ret))
def i105:FnI:=⟨8,[(.tmp 3)],c105,0,[[0],[0]],[[0]],false,false,0,false⟩
def k62_4:PC:=(cd 37 (.post (.reg [pF 38 37 6 1,pF 39 35 38 5,pL 40 27 39,pM 41 7,pF 42 92 2 1,pL 43 3 42,⟨(some 44),(.buildSlice 27 1 #[(0,(.tmp 43))]),none⟩,pC3 45 103 40 41 44 27 3 27,pF 46 37 6 1,pF 47 35 46 5,⟨none,(.store 27 (.tmp 47) (.tmp 45)),none⟩]) ⟨[4,6],[.old 1,.old 2,.old 3,.old 4,.old 5,.old 8],[],[]⟩) (.post .skip ⟨[4,6],[.old 1,.old 2,.old 3,.old 4,.old 5,.old 6],[],[]⟩))
def k62_6:PC:=(cd 57 (.post (.reg [pF 59 37 6 1,pF 60 35 59 1,pL 61 27 60,pF 62 92 2 1,pL 63 3 62,⟨(some 64),(.buildSlice 27 1 #[(0,(.tmp 63))]),none⟩,⟨(some 65),(.call { callee:=(.value (.func 103)),args:=#[(.tmp 61),(.const (.int .i64 0)),(.tmp 64)],argTypes:=#[27,3,27] }),none⟩,pF 66 37 6 1,pF 67 35 66 1,⟨none,(.store 27 (.tmp 67) (.tmp 65)),none⟩]) ⟨[4,6],[.old 1,.old 2,.old 3,.old 4,.old 8,.old 6],[],[]⟩) (.post .skip ⟨[4,6],[.old 1,.old 2,.old 3,.old 4,.old 5,.old 6],[],[]⟩))
def k62_5:PC:=(cd 48 (.post (.reg [pF 50 37 6 1,pF 51 35 50 5,pL 52 27 51,⟨(some 53),(.makeFunc (.func 105) #[] #[(.tmp 2)]),none⟩,pC2 54 104 52 53 27 114,pF 55 37 6 1,pF 56 35 55 5,⟨none,(.store 27 (.tmp 56) (.tmp 54)),none⟩]) ⟨[4,6],[.old 1,.old 2,.old 3,.old 4,.old 5,.old 7],[],[]⟩) (sq (.reg [pB 58 .eql 3 12 5 3,pA 57 58]) (.post (.pre ⟨[2,4,6,57],[.old 0,.old 1,.old 2,.old 3,.old 4,.old 5,.old 6],[],[]⟩ k62_6) ⟨[4,6],[.old 0,.old 1,.old 2,.old 3,.old 4,.old 5],[],[]⟩)))
def k62_3:PC:=(cd 25 (sq (.reg [pF 28 37 6 1,pF 29 35 28 5,pL 30 27 29,pF 31 92 2 1,pL 32 3 31,pC2 33 102 30 32 27 3,pM 27 33,pT 34 27 0,pT 35 27 1,pA 7 34,pA 8 35]) (sq (.reg [pM 36 8,pU 37 4 36]) (.post (.pre ⟨[2,4,6,7,37],[.old 0,.old 1,.old 2,.old 3,.old 4,.old 5,.old 6],[],[]⟩ k62_4) ⟨[4,6],[.old 0,.old 1,.old 2,.old 3,.old 4,.old 5],[],[]⟩))) (sq (.reg [pB 49 .eql 3 12 4 3,pA 48 49]) (.post (.pre ⟨[2,4,6,12,48],[.old 0,.old 1,.old 2,.old 3,.old 4,.old 5,.old 6],[],[]⟩ k62_5) ⟨[4,6],[.old 0,.old 1,.old 2,.old 3,.old 4,.old 5],[],[]⟩)))
def k62_2:PC:=(cd 19 (.post (.reg [pF 21 92 2 1,pL 22 3 21,pF 23 37 6 1,pF 24 35 23 3,⟨none,(.store 3 (.tmp 24) (.tmp 22)),none⟩]) ⟨[4,6],[.old 1,.old 2,.old 3,.old 4,.old 5,.old 6],[],[]⟩) (sq (.reg [pB 26 .eql 3 12 3 3,pA 25 26]) (.post (.pre ⟨[2,4,6,12,25],[.old 0,.old 1,.old 2,.old 3,.old 4,.old 5,.old 6],[],[]⟩ k62_3) ⟨[4,6],[.old 0,.old 1,.old 2,.old 3,.old 4,.old 5],[],[]⟩)))
def k62_1:PC:=(cd 13 (.post (.reg [pF 15 92 2 1,pL 16 3 15,pF 17 37 6 1,pF 18 35 17 4,⟨none,(.store 3 (.tmp 18) (.tmp 16)),none⟩]) ⟨[4,6],[.old 1,.old 2,.old 3,.old 4,.old 5,.old 6],[],[]⟩) (sq (.reg [pB 20 .eql 3 12 2 3,pA 19 20]) (.post (.pre ⟨[2,4,6,12,19],[.old 0,.old 1,.old 2,.old 3,.old 4,.old 5,.old 6],[],[]⟩ k62_2) ⟨[4,6],[.old 0,.old 1,.old 2,.old 3,.old 4,.old 5],[],[]⟩)))
@[go_sem] def x62_15:FxI:=⟨[2,3],[none,none,none,none,none],0,[[],[2],[2,3]],[],[(0,1,1)]⟩
def c62:PC:=(sq (.reg [pX 2 92 0,pX 3 37 1,pG 4 37,pN 5 false]) (sq (.reg [pL 9 37 3,pC 10 60 9 37,pG 6 37,⟨none,(.store 37 (.tmp 6) (.tmp 10)),none⟩]) (sq (sq (.reg [pF 11 92 2 0,pL 12 3 11]) (.block 0 (sq (.reg [pB 14 .eql 3 12 1 3,pA 13 14]) (.pre ⟨[2,4,6,12,13],[.old 0,.old 2,.nilB 2 3 1,.nilB 2 7 1,.old 5,.old 3,.old 4],[],[]⟩ k62_1)))) (sq (.fx [pL 68 37 6,pL 69 37 6,pC 70 33 69 37,⟨none,(.store 37 (.tmp 4) (.tmp 68)),none⟩,pA 5 70] x62_15) .ret))))
def i62:FnI:=⟨71,[(.cell 4 37),(.tmp 5)],c62,0,[[0,0],[0,0,0,1,0,0,0,1]],[[0,0,0,1,0,0,0,1],[0]],false,false,0,false⟩
def k34_1:PC:=(cd 17 (.post (.reg [pK 7 1]) ⟨[2,4,6,7],[.old 0,.old 1,.old 2,.old 3,.old 4,.old 5,.old 6],[],[]⟩) (.post .skip ⟨[2,4,6,7],[.old 0,.old 1,.old 2,.old 3,.old 4,.old 5,.old 6],[],[]⟩))
def k34_10:PC:=(cd 42 (.post (.reg [pL 43 37 12,⟨none,(.store 37 (.tmp 6) (.tmp 43)),none⟩]) ⟨[4,6,7,9,19,20,21,30,31,32],[.old 0,.old 1,.old 2,.old 3,.old 8,.old 9,.old 6],[],[]⟩) (.post .skip ⟨[4,6,7,9,19,20,21,30,31,32],[.old 0,.old 1,.old 2,.old 3,.old 4,.old 5,.old 6],[],[]⟩))
def k34_8b:PC:=(sq (.reg [pO 33 .lss 3 32 31 3]) (sq (cd 33 .skip (.pre ⟨[4,6,7,9,19,20,21],[.old 0,.old 1,.old 2,.old 3,.old 4,.old 5,.old 6],[],[]⟩ (.exit 2))) (sq (.block 3 (sq (.reg [pI 34 84 30 32,pL 35 92 34,pG 11 92,⟨none,(.store 92 (.tmp 11) (.tmp 35)),none⟩]) (sq (.reg [pL 37 92 11,pL 38 37 6,pC2 39 62 37 38 92 37,pM 36 39,pT 40 36 0,pT 41 36 1,pG 12 37,⟨none,(.store 37 (.tmp 12) (.tmp 40)),none⟩,pA 13 41]) (sq (.reg [pM 42 13]) (.pre ⟨[4,6,7,9,12,19,20,21,30,31,32,42],[.old 0,.old 1,.old 2,.old 3,.old 4,.old 5,.old 6,.old 10,.old 8,.old 9],[],[]⟩ k34_10))))) (.post (.reg [pB 44 .add 3 32 1 3,pM 32 44]) ⟨[4,6,7,9,19,20,21,30,31,32],[.old 0,.old 1,.old 2,.old 3,.old 4,.old 5,.old 6],[],[]⟩))))
def k34_7:PC:=(.block 1 (sq (.reg [pI 23 40 19 21,pL 24 86 23,pG 9 86,⟨none,(.store 86 (.tmp 9) (.tmp 24)),none⟩]) (sq (sq (.reg [pL 25 86 9,pL 26 37 6,pC2 27 61 25 26 86 37,pU 28 4 27]) (cd 28 (.pre ⟨[4,6,7,19,20,21],[.old 0,.old 1,.old 2,.old 3,.old 4,.old 5],[],[]⟩ (.exit 1)) .skip)) (sq (sq (.reg [pF 29 86 9 3,pL 30 84 29,pE 31 30 84,pV 32 0]) (.block 2 (.pre ⟨[4,6,7,9,19,20,21,30,31,32],[.old 0,.old 1,.old 2,.old 3,.old 4,.old 5,.old 6],[],[]⟩ (.loop k34_8b)))) (sq (.reg [pF 45 86 9 4,pL 46 3 45,pB 47 .neq 3 46 0 3]) (cd 47 (sq (.reg [pF 48 86 9 4,pL 49 3 48,pA 7 49]) (.pre ⟨[4,6,7],[.old 0,.old 1,.old 2,.old 3,.old 4,.old 5],[],[]⟩ (.exit 0))) (.post .skip ⟨[4,6,7,19,20,21],[.old 0,.old 1,.old 2,.old 3,.old 4,.old 5],[],[]⟩)))))))
def k34_2b:PC:=(sq (.reg [pO 22 .lss 3 21 20 3]) (sq (cd 22 .skip (.pre ⟨[4,6,7],[.old 0,.old 1,.old 2,.old 3,.old 4,.old 5],[],[]⟩ (.exit 0))) (sq (.pre ⟨[4,6,7,19,20,21],[.old 0,.old 1,.old 2,.old 3,.old 4,.old 5],[],[]⟩ k34_7) (.post (.reg [pB 50 .add 3 21 1 3,pM 21 50]) ⟨[4,6,7,19,20,21],[.old 0,.old 1,.old 2,.old 3,.old 4,.old 5],[],[]⟩))))
def c34:PC:=(sq (.reg [pX 2 42 0,pX 3 37 1,pG 4 37,pK 5 0]) (sq (.reg [pL 14 37 3,pC 15 60 14 37,pG 6 37,⟨none,(.store 37 (.tmp 6) (.tmp 15)),none⟩]) (sq (.reg [pK 7 2]) (sq (sq (.reg [pF 16 42 2 1,pL 17 4 16]) (.pre ⟨[2,4,6,7,17],[.old 0,.old 2,.nilB 2 3 1,.nilB 2 7 1,.old 5,.old 3,.old 4],[],[]⟩ k34_1)) (sq (sq (.reg [pF 18 42 2 0,pL 19 40 18,pE 20 19 40,pV 21 0]) (.block 0 (.pre ⟨[4,6,7,19,20,21],[.old 1,.old 2,.old 3,.old 4,.old 5,.old 6],[],[]⟩ (.loop k34_2b)))) (sq (sq (.reg [pM 51 7,pB 52 .eql 3 51 2 3]) (cd 52 (sq (.reg [⟨(some 53),(.build 37 #[]),none⟩,⟨none,(.store 37 (.tmp 4) (.tmp 53)),none⟩,pK 5 2]) .ret) .skip)) (sq (.reg [pL 54 37 6,⟨none,(.store 37 (.tmp 4) (.tmp 54)),none⟩,pK 5 1]) .ret)))))))
def i34:FnI:=⟨55,[(.cell 4 37),(.tmp 5)],c34,0,[[5,0],[0,0,0,1,0,0,0,1]],[[0,0,0,1,0,0,0,1],[0]],false,false,0,false⟩
def k10_1:PC:=(.post (.reg [pL 9 42 2,pC 10 32 9 42,pU 11 4 10,pM 12 11,⟨(some 13),(.load 37 (.tmp 3)),(some (12,false))⟩,⟨(some 14),(.call { callee:=(.value (.func 33)),args:=#[(.tmp 13)],argTypes:=#[37] }),(some (12,false))⟩,⟨(some 15),(.unOp .not 4 (.tmp 14)),(some (12,false))⟩,pQ 16 12 15]) ⟨[2,3,4,16],[.old 0,.old 1,.old 2,.old 3,.old 4],[],[]⟩)
def c10:PC:=(sq (.reg [pX 2 42 0,pX 3 37 1,pG 4 37,pK 5 0,pN 6 false]) (sq (sq (.pre ⟨[2,3,4],[.old 0,.old 1,.old 2,.nilB 2 3 1,.nilB 2 7 1],[],[]⟩ k10_1) (cd 16 (sq (.reg [⟨(some 17),(.build 37 #[]),none⟩,⟨none,(.store 37 (.tmp 4) (.tmp 17)),none⟩,pK 5 0,pN 6 false]) .ret) .skip)) (sq (.reg [pL 19 42 2,pL 20 37 3,pC2 21 34 19 20 42 37,pM 18 21,pT 22 18 0,pT 23 18 1,pG 7 37,⟨none,(.store 37 (.tmp 7) (.tmp 22)),none⟩,pA 8 23]) (sq (.reg [pL 24 37 7,pM 25 8,⟨none,(.store 37 (.tmp 4) (.tmp 24)),none⟩,pA 5 25,pN 6 true]) .ret))))
def i10:FnI:=⟨26,[(.cell 4 37),(.tmp 5),(.tmp 6)],c10,0,[[5,0],[0,0,0,1,0,0,0,1]],[[0,0,0,1,0,0,0,1],[0],[0]],false,false,0,false⟩
def c35:PC:=(sq (.reg [pX 2 34 0,pX 3 34 1,pN 4 false]) (sq (sq (.reg [pF 5 34 2 0,pL 6 3 5,pF 7 34 3 0,pL 8 3 7,pO 9 .neq 3 6 8 3]) (cd 9 (sq (.reg [pN 4 false]) .ret) .skip)) (sq (sq (.reg [pF 10 34 2 1,pL 11 3 10,pF 12 34 3 1,pL 13 3 12,pO 14 .neq 3 11 13 3]) (cd 14 (sq (.reg [pN 4 false]) .ret) .skip)) (sq (.reg [pN 4 true]) .ret))))
def i35:FnI:=⟨15,[(.tmp 4)],c35,0,[[0,0],[0,0]],[[0]],false,false,0,false⟩
def k63_1b:PC:=(sq (sq (.reg [pM 11 5,pM 12 0,pE 13 12 27,pO 14 .lss 3 11 13 3]) (cd 14 .skip (.pre ⟨[],[],[],[]⟩ (.exit 0)))) (sq (.block 1 (sq (.fz [pM 17 0,pM 18 5,pI 19 27 17 18,pL 20 3 19,pM 21 1,pM 22 5,pI 23 27 21 22,pL 24 3 23,pO 25 .neq 3 20 24 3]) (cd 25 (sq (.reg [pN 4 false]) (.pre ⟨[4],[],[],[]⟩ .ret)) .skip))) (.post (.reg [pM 15 5,pB 16 .add 3 15 1 3,pA 5 16]) ⟨[0,1,5],[],[],[]⟩)))
def c63:PC:=(sq (.reg [pN 4 false]) (sq (sq (.reg [pM 6 0,pE 7 6 27,pM 8 1,pE 9 8 27,pO 10 .neq 3 7 9 3]) (cd 10 (sq (.reg [pN 4 false]) .ret) .skip)) (sq (sq (.reg [pK 5 0]) (.block 0 (.pre ⟨[0,1,5],[],[],[]⟩ (.loop k63_1b)))) (sq (.reg [pN 4 true]) .ret))))
def i63:FnI:=⟨26,[(.tmp 4)],c63,0,[[1],[1]],[[0]],false,false,0,false⟩
def c36:PC:=(sq (.reg [pX 2 35 0,pX 3 35 1,pN 4 false]) (sq (sq (.reg [pF 5 35 2 0,pL 6 3 5,pF 7 35 3 0,pL 8 3 7,pO 9 .neq 3 6 8 3]) (cd 9 (sq (.reg [pN 4 false]) .ret) .skip)) (sq (sq (.reg [pF 10 35 2 1,pL 11 27 10,pF 12 35 3 1,pL 13 27 12,pC2 14 63 11 13 27 27,pU 15 4 14]) (cd 15 (sq (.reg [pN 4 false]) .ret) .skip)) (sq (sq (.reg [pF 16 35 2 2,pL 17 3 16,pF 18 35 3 2,pL 19 3 18,pO 20 .neq 3 17 19 3]) (cd 20 (sq (.reg [pN 4 false]) .ret) .skip)) (sq (sq (.reg [pF 21 35 2 3,pL 22 3 21,pF 23 35 3 3,pL 24 3 23,pO 25 .neq 3 22 24 3]) (cd 25 (sq (.reg [pN 4 false]) .ret) .skip)) (sq (sq (.reg [pF 26 35 2 4,pL 27 3 26,pF 28 35 3 4,pL 29 3 28,pO 30 .neq 3 27 29 3]) (cd 30 (sq (.reg [pN 4 false]) .ret) .skip)) (sq (sq (.reg [pF 31 35 2 5,pL 32 27 31,pF 33 35 3 5,pL 34 27 33,pC2 35 63 32 34 27 27,pU 36 4 35]) (cd 36 (sq (.reg [pN 4 false]) .ret) .skip)) (sq (.reg [pN 4 true]) .ret))))))))
def i36:FnI:=⟨37,[(.tmp 4)],c36,0,[[0,1,0,0,0,1],[0,1,0,0,0,1]],[[0]],false,false,0,false⟩
def c11:PC:=(sq (.reg [pX 2 37 0,pX 3 37 1,pN 4 false]) (sq (sq (.reg [pF 5 37 2 0,pL 6 34 5,pF 7 37 3 0,pL 8 34 7,pC2 9 35 6 8 34 34,pU 10 4 9]) (cd 10 (sq (.reg [pN 4 false]) .ret) .skip)) (sq (sq (.reg [pF 11 37 2 1,pL 12 35 11,pF 13 37 3 1,pL 14 35 13,pC2 15 36 12 14 35 35,pU 16 4 15]) (cd 16 (sq (.reg [pN 4 false]) .ret) .skip)) (sq (.reg [pN 4 true]) .ret))))
def i11:FnI:=⟨17,[(.tmp 4)],c11,0,[[0,0,0,1,0,0,0,1],[0,0,0,1,0,0,0,1]],[[0]],false,false,0,false⟩
def c136:PC:=(sq (.reg [pX 2 110 0,pX 3 110 1,pN 4 false]) (sq (sq (.reg [pF 5 110 2 0,pL 6 34 5,pF 7 110 3 0,pL 8 34 7,pC2 9 35 6 8 34 34,pU 10 4 9]) (cd 10 (sq (.reg [pN 4 false]) .ret) .skip)) (sq (sq (.reg [pF 11 110 2 1,pL 12 3 11,pF 13 110 3 1,pL 14 3 13,pO 15 .neq 3 12 14 3]) (cd 15 (sq (.reg [pN 4 false]) .ret) .skip)) (sq (sq (.reg [pF 16 110 2 2,pL 17 3 16,pF 18 110 3 2,pL 19 3 18,pO 20 .neq 3 17 19 3]) (cd 20 (sq (.reg [pN 4 false]) .ret) .skip)) (sq (.reg [pN 4 true]) .ret)))))
def i136:FnI:=⟨21,[(.tmp 4)],c136,0,[[0,0,0,0],[0,0,0,0]],[[0]],false,false,0,false⟩
def k106_1b:PC:=(sq (sq (.reg [pM 11 5,pM 12 0,pE 13 12 82,pO 14 .lss 3 11 13 3]) (cd 14 .skip (.pre ⟨[],[],[],[]⟩ (.exit 0)))) (sq (.block 1 (sq (.fz [pM 17 0,pM 18 5,pI 19 82 17 18,pL 20 110 19,pM 21 1,pM 22 5,pI 23 82 21 22,pL 24 110 23,pC2 25 136 20 24 110 110,pU 26 4 25]) (cd 26 (sq (.reg [pN 4 false]) (.pre ⟨[4],[],[],[]⟩ .ret)) .skip))) (.post (.reg [pM 15 5,pB 16 .add 3 15 1 3,pA 5 16]) ⟨[0,1,5],[],[],[]⟩)))
def c106:PC:=(sq (.reg [pN 4 false]) (sq (sq (.reg [pM 6 0,pE 7 6 82,pM 8 1,pE 9 8 82,pO 10 .neq 3 7 9 3]) (cd 10 (sq (.reg [pN 4 false]) .ret) .skip)) (sq (sq (.reg [pK 5 0]) (.block 0 (.pre ⟨[0,1,5],[],[],[]⟩ (.loop k106_1b)))) (sq (.reg [pN 4 true]) .ret))))
def i106:FnI:=⟨27,[(.tmp 4)],c106,0,[[4],[4]],[[0]],false,false,0,false⟩
def c137:PC:=(sq (.reg [pX 2 137 0,pX 3 137 1,pN 4 false]) (sq (sq (.reg [pF 5 137 2 0,pL 6 3 5,pF 7 137 3 0,pL 8 3 7,pO 9 .neq 3 6 8 3]) (cd 9 (sq (.reg [pN 4 false]) .ret) .skip)) (sq (sq (.reg [pF 10 137 2 1,pL 11 3 10,pF 12 137 3 1,pL 13 3 12,pO 14 .neq 3 11 13 3]) (cd 14 (sq (.reg [pN 4 false]) .ret) .skip)) (sq (.reg [pN 4 true]) .ret))))
def i137:FnI:=⟨15,[(.tmp 4)],c137,0,[[0,0],[0,0]],[[0]],false,false,0,false⟩
def k107_1b:PC:=(sq (sq (.reg [pM 11 5,pM 12 0,pE 13 12 83,pO 14 .lss 3 11 13 3]) (cd 14 .skip (.pre ⟨[],[],[],[]⟩ (.exit 0)))) (sq (.block 1 (sq (.fz [pM 17 0,pM 18 5,pI 19 83 17 18,pL 20 137 19,pM 21 1,pM 22 5,pI 23 83 21 22,pL 24 137 23,pC2 25 137 20 24 137 137,pU 26 4 25]) (cd 26 (sq (.reg [pN 4 false]) (.pre ⟨[4],[],[],[]⟩ .ret)) .skip))) (.post (.reg [pM 15 5,pB 16 .add 3 15 1 3,pA 5 16]) ⟨[0,1,5],[],[],[]⟩)))
def c107:PC:=(sq (.reg [pN 4 false]) (sq (sq (.reg [pM 6 0,pE 7 6 83,pM 8 1,pE 9 8 83,pO 10 .neq 3 7 9 3]) (cd 10 (sq (.reg [pN 4 false]) .ret) .skip)) (sq (sq (.reg [pK 5 0]) (.block 0 (.pre ⟨[0,1,5],[],[],[]⟩ (.loop k107_1b)))) (sq (.reg [pN 4 true]) .ret))))
def i107:FnI:=⟨27,[(.tmp 4)],c107,0,[[2],[2]],[[0]],false,false,0,false⟩
def c138:PC:=(sq (.reg [pX 2 92 0,pX 3 92 1,pN 4 false]) (sq (sq (.reg [pF 5 92 2 0,pL 6 3 5,pF 7 92 3 0,pL 8 3 7,pO 9 .neq 3 6 8 3]) (cd 9 (sq (.reg [pN 4 false]) .ret) .skip)) (sq (sq (.reg [pF 10 92 2 1,pL 11 3 10,pF 12 92 3 1,pL 13 3 12,pO 14 .neq 3 11 13 3]) (cd 14 (sq (.reg [pN 4 false]) .ret) .skip)) (sq (.reg [pN 4 true]) .ret))))
def i138:FnI:=⟨15,[(.tmp 4)],c138,0,[[0,0],[0,0]],[[0]],false,false,0,false⟩
def k108_1b:PC:=(sq (sq (.reg [pM 11 5,pM 12 0,pE 13 12 84,pO 14 .lss 3 11 13 3]) (cd 14 .skip (.pre ⟨[],[],[],[]⟩ (.exit 0)))) (sq (.block 1 (sq (.fz [pM 17 0,pM 18 5,pI 19 84 17 18,pL 20 92 19,pM 21 1,pM 22 5,pI 23 84 21 22,pL 24 92 23,pC2 25 138 20 24 92 92,pU 26 4 25]) (cd 26 (sq (.reg [pN 4 false]) (.pre ⟨[4],[],[],[]⟩ .ret)) .skip))) (.post (.reg [pM 15 5,pB 16 .add 3 15 1 3,pA 5 16]) ⟨[0,1,5],[],[],[]⟩)))
def c108:PC:=(sq (.reg [pN 4 false]) (sq (sq (.reg [pM 6 0,pE 7 6 84,pM 8 1,pE 9 8 84,pO 10 .neq 3 7 9 3]) (cd 10 (sq (.reg [pN 4 false]) .ret) .skip)) (sq (sq (.reg [pK 5 0]) (.block 0 (.pre ⟨[0,1,5],[],[],[]⟩ (.loop k108_1b)))) (sq (.reg [pN 4 true]) .ret))))
def i108:FnI:=⟨27,[(.tmp 4)],c108,0,[[2],[2]],[[0]],false,false,0,false⟩
def c64:PC:=(sq (.reg [pX 2 86 0,pX 3 86 1,pN 4 false]) (sq (sq (.reg [pF 5 86 2 0,pL 6 82 5,pF 7 86 3 0,pL 8 82 7,pC2 9 106 6 8 82 82,pU 10 4 9]) (cd 10 (sq (.reg [pN 4 false]) .ret) .skip)) (sq (sq (.reg [pF 11 86 2 1,pL 12 83 11,pF 13 86 3 1,pL 14 83 13,pC2 15 107 12 14 83 83,pU 16 4 15]) (cd 16 (sq (.reg [pN 4 false]) .ret) .skip)) (sq (sq (.reg [pF 17 86 2 2,pL 18 3 17,pF 19 86 3 2,pL 20 3 19,pO 21 .neq 3 18 20 3]) (cd 21 (sq (.reg [pN 4 false]) .ret) .skip)) (sq (sq (.reg [pF 22 86 2 3,pL 23 84 22,pF 24 86 3 3,pL 25 84 24,pC2 26 108 23 25 84 84,pU 27 4 26]) (cd 27 (sq (.reg [pN 4 false]) .ret) .skip)) (sq (sq (.reg [pF 28 86 2 4,pL 29 3 28,pF 30 86 3 4,pL 31 3 30,pO 32 .neq 3 29 31 3]) (cd 32 (sq (.reg [pN 4 false]) .ret) .skip)) (sq (.reg [pN 4 true]) .ret)))))))
def i64:FnI:=⟨33,[(.tmp 4)],c64,0,[[4,2,0,2,0],[4,2,0,2,0]],[[0]],false,false,0,false⟩
def k37_1b:PC:=(sq (sq (.reg [pM 11 5,pM 12 0,pE 13 12 40,pO 14 .lss 3 11 13 3]) (cd 14 .skip (.pre ⟨[],[],[],[]⟩ (.exit 0)))) (sq (.block 1 (sq (.fz [pM 17 0,pM 18 5,pI 19 40 17 18,pL 20 86 19,pM 21 1,pM 22 5,pI 23 40 21 22,pL 24 86 23,pC2 25 64 20 24 86 86,pU 26 4 25]) (cd 26 (sq (.reg [pN 4 false]) (.pre ⟨[4],[],[],[]⟩ .ret)) .skip))) (.post (.reg [pM 15 5,pB 16 .add 3 15 1 3,pA 5 16]) ⟨[0,1,5],[],[],[]⟩)))
def c37:PC:=(sq (.reg [pN 4 false]) (sq (sq (.reg [pM 6 0,pE 7 6 40,pM 8 1,pE 9 8 40,pO 10 .neq 3 7 9 3]) (cd 10 (sq (.reg [pN 4 false]) .ret) .skip)) (sq (sq (.reg [pK 5 0]) (.block 0 (.pre ⟨[0,1,5],[],[],[]⟩ (.loop k37_1b)))) (sq (.reg [pN 4 true]) .ret))))
def i37:FnI:=⟨27,[(.tmp 4)],c37,0,[[5],[5]],[[0]],false,false,0,false⟩
def c12:PC:=(sq (.reg [pX 2 42 0,pX 3 42 1,pN 4 false]) (sq (sq (.reg [pF 5 42 2 0,pL 6 40 5,pF 7 42 3 0,pL 8 40 7,pC2 9 37 6 8 40 40,pU 10 4 9]) (cd 10 (sq (.reg [pN 4 false]) .ret) .skip)) (sq (sq (.reg [pF 11 42 2 1,pL 12 4 11,pF 13 42 3 1,pL 14 4 13,pO 15 .neq 4 12 14 4]) (cd 15 (sq (.reg [pN 4 false]) .ret) .skip)) (sq (.reg [pN 4 true]) .ret))))
def i12:FnI:=⟨16,[(.tmp 4)],c12,0,[[5,0],[5,0]],[[0]],false,false,0,false⟩
def k65_1b:PC:=(sq (sq (.reg [pM 6 5,pM 7 0,pE 8 7 82,pO 9 .lss 3 6 8 3]) (cd 9 .skip (.pre ⟨[1],[],[],[]⟩ (.exit 0)))) (sq (.block 1 (sq (.reg [pM 12 0,pM 13 5,pM 14 1,pI 15 82 12 13,pF 16 110 15 0,pF 17 34 16 0,⟨none,(.store 3 (.tmp 17) (.tmp 14)),none⟩]) (sq (.reg [pM 18 1,pB 19 .add 3 18 1 3,pA 1 19]) (sq (.reg [pM 20 0,pM 21 5,pM 22 1,pI 23 82 20 21,pF 24 110 23 0,pF 25 34 24 1,⟨none,(.store 3 (.tmp 25) (.tmp 22)),none⟩]) (sq (.reg [pM 26 1,pB 27 .add 3 26 1 3,pA 1 27]) (sq (.reg [pM 28 0,pM 29 5,pM 30 1,pI 31 82 28 29,pF 32 110 31 1,⟨none,(.store 3 (.tmp 32) (.tmp 30)),none⟩]) (sq (.reg [pM 33 1,pB 34 .add 3 33 1 3,pA 1 34]) (sq (.reg [pM 35 0,pM 36 5,pM 37 1,pI 38 82 35 36,pF 39 110 38 2,⟨none,(.store 3 (.tmp 39) (.tmp 37)),none⟩]) (.reg [pM 40 1,pB 41 .add 3 40 1 3,pA 1 41]))))))))) (.post (.reg [pM 10 5,pB 11 .add 3 10 1 3,pA 5 11]) ⟨[0,1,5],[],[],[]⟩)))
def c65:PC:=(sq (.reg [pK 4 0]) (sq (sq (.reg [pK 5 0]) (.block 0 (.pre ⟨[0,1,5],[],[],[]⟩ (.loop k65_1b)))) (sq (.reg [pM 42 1,pA 4 42]) (.pre ⟨[4],[],[],[]⟩ .ret))))
def i65:FnI:=⟨43,[(.tmp 4)],c65,3,[[4],[0]],[[0]],false,true,1,false⟩
def k66_1b:PC:=(sq (sq (.reg [pM 6 5,pM 7 0,pE 8 7 83,pO 9 .lss 3 6 8 3]) (cd 9 .skip (.pre ⟨[1],[],[],[]⟩ (.exit 0)))) (sq (.block 1 (sq (.reg [pM 12 0,pM 13 5,pM 14 1,pI 15 83 12 13,pF 16 137 15 0,⟨none,(.store 3 (.tmp 16) (.tmp 14)),none⟩]) (sq (.reg [pM 17 1,pB 18 .add 3 17 1 3,pA 1 18]) (sq (.reg [pM 19 0,pM 20 5,pM 21 1,pI 22 83 19 20,pF 23 137 22 1,⟨none,(.store 3 (.tmp 23) (.tmp 21)),none⟩]) (.reg [pM 24 1,pB 25 .add 3 24 1 3,pA 1 25]))))) (.post (.reg [pM 10 5,pB 11 .add 3 10 1 3,pA 5 11]) ⟨[0,1,5],[],[],[]⟩)))
def c66:PC:=(sq (.reg [pK 4 0]) (sq (sq (.reg [pK 5 0]) (.block 0 (.pre ⟨[0,1,5],[],[],[]⟩ (.loop k66_1b)))) (sq (.reg [pM 26 1,pA 4 26]) (.pre ⟨[4],[],[],[]⟩ .ret))))
def i66:FnI:=⟨27,[(.tmp 4)],c66,3,[[2],[0]],[[0]],false,true,1,false⟩
def k67_1b:PC:=(sq (sq (.reg [pM 6 5,pM 7 0,pE 8 7 84,pO 9 .lss 3 6 8 3]) (cd 9 .skip (.pre ⟨[1],[],[],[]⟩ (.exit 0)))) (sq (.block 1 (sq (.reg [pM 12 0,pM 13 5,pM 14 1,pI 15 84 12 13,pF 16 92 15 0,⟨none,(.store 3 (.tmp 16) (.tmp 14)),none⟩]) (sq (.reg [pM 17 1,pB 18 .add 3 17 1 3,pA 1 18]) (sq (.reg [pM 19 0,pM 20 5,pM 21 1,pI 22 84 19 20,pF 23 92 22 1,⟨none,(.store 3 (.tmp 23) (.tmp 21)),none⟩]) (.reg [pM 24 1,pB 25 .add 3 24 1 3,pA 1 25]))))) (.post (.reg [pM 10 5,pB 11 .add 3 10 1 3,pA 5 11]) ⟨[0,1,5],[],[],[]⟩)))
def c67:PC:=(sq (.reg [pK 4 0]) (sq (sq (.reg [pK 5 0]) (.block 0 (.pre ⟨[0,1,5],[],[],[]⟩ (.loop k67_1b)))) (sq (.reg [pM 26 1,pA 4 26]) (.pre ⟨[4],[],[],[]⟩ .ret))))
def i67:FnI:=⟨27,[(.tmp 4)],c67,3,[[2],[0]],[[0]],false,true,1,false⟩
def k38_1b:PC:=(sq (sq (.reg [pM 6 5,pM 7 0,pE 8 7 40,pO 9 .lss 3 6 8 3]) (cd 9 .skip (.pre ⟨[1],[],[],[]⟩ (.exit 0)))) (sq (.block 1 (sq (.nest [pM 12 0,pM 13 5,pI 14 40 12 13,pF 15 86 14 0,pL 16 82 15,pM 17 1,pC2 18 65 16 17 82 3,pA 1 18] 4 2) (sq (.nest [pM 19 0,pM 20 5,pI 21 40 19 20,pF 22 86 21 1,pL 23 83 22,pM 24 1,pC2 25 66 23 24 83 3,pA 1 25] 4 2) (sq (.reg [pM 26 0,pM 27 5,pM 28 1,pI 29 40 26 27,pF 30 86 29 2,⟨none,(.store 3 (.tmp 30) (.tmp 28)),none⟩]) (sq (.reg [pM 31 1,pB 32 .add 3 31 1 3,pA 1 32]) (sq (.nest [pM 33 0,pM 34 5,pI 35 40 33 34,pF 36 86 35 3,pL 37 84 36,pM 38 1,pC2 39 67 37 38 84 3,pA 1 39] 4 2) (sq (.reg [pM 40 0,pM 41 5,pM 42 1,pI 43 40 40 41,pF 44 86 43 4,⟨none,(.store 3 (.tmp 44) (.tmp 42)),none⟩]) (.reg [pM 45 1,pB 46 .add 3 45 1 3,pA 1 46])))))))) (.post (.reg [pM 10 5,pB 11 .add 3 10 1 3,pA 5 11]) ⟨[0,1,5],[],[],[]⟩)))
def c38:PC:=(sq (.reg [pK 4 0]) (sq (sq (.reg [pK 5 0]) (.block 0 (.pre ⟨[0,1,5],[],[],[]⟩ (.loop k38_1b)))) (sq (.reg [pM 47 1,pA 4 47]) (.pre ⟨[4],[],[],[]⟩ .ret))))
def i38:FnI:=⟨48,[(.tmp 4)],c38,3,[[5],[0]],[[0]],false,true,1,true⟩
def c13:PC:=(sq (.reg [pX 2 42 0,pK 4 0]) (sq (.reg [pF 5 42 2 0,pL 6 40 5,pM 7 1,pC2 8 38 6 7 40 3,pA 1 8]) (sq (.reg [pM 9 1,pA 4 9]) (.pre ⟨[4],[],[],[]⟩ .ret))))
def i13:FnI:=⟨10,[(.tmp 4)],c13,3,[[5,0],[0]],[[0]],false,true,1,true⟩
def k43_1b:PC:=(sq (sq (.reg [pM 6 5,pM 7 0,pE 8 7 27,pO 9 .lss 3 6 8 3]) (cd 9 .skip (.pre ⟨[1],[],[],[]⟩ (.exit 0)))) (sq (.block 1 (sq (.reg [pM 12 0,pM 13 5,pM 14 1,pI 15 27 12 13,⟨none,(.store 3 (.tmp 15) (.tmp 14)),none⟩]) (.reg [pM 16 1,pB 17 .add 3 16 1 3,pA 1 17]))) (.post (.reg [pM 10 5,pB 11 .add 3 10 1 3,pA 5 11]) ⟨[0,1,5],[],[],[]⟩)))
def c43:PC:=(sq (.reg [pK 4 0]) (sq (sq (.reg [pK 5 0]) (.block 0 (.pre ⟨[0,1,5],[],[],[]⟩ (.loop k43_1b)))) (sq (.reg [pM 18 1,pA 4 18]) (.pre ⟨[4],[],[],[]⟩ .ret))))
def i43:FnI:=⟨19,[(.tmp 4)],c43,3,[[1],[0]],[[0]],false,true,1,false⟩
def c39:PC:=(sq (.reg [pX 2 35 0,pK 4 0]) (sq (.reg [pF 5 35 2 1,pL 6 27 5,pM 7 1,pC2 8 43 6 7 27 3,pA 1 8]) (sq (.reg [pF 9 35 2 5,pL 10 27 9,pM 11 1,pC2 12 43 10 11 27 3,pA 1 12]) (sq (.reg [pM 13 1,pA 4 13]) (.pre ⟨[4],[],[],[]⟩ .ret)))))
def i39:FnI:=⟨14,[(.tmp 4)],c39,3,[[0,1,0,0,0,1],[0]],[[0]],false,true,2,false⟩
def c14:PC:=(sq (.reg [pX 2 37 0,pK 4 0]) (sq (.reg [pF 5 37 2 1,pL 6 35 5,pM 7 1,pC2 8 39 6 7 35 3,pA 1 8]) (sq (.reg [pM 9 1,pA 4 9]) (.pre ⟨[4],[],[],[]⟩ .ret))))
def i14:FnI:=⟨10,[(.tmp 4)],c14,3,[[0,0,0,1,0,0,0,1],[0]],[[0]],false,true,2,false⟩
def k44_1b:PC:=(sq (sq (.reg [pM 6 5,pM 7 0,pE 8 7 27,pO 9 .lss 3 6 8 3]) (cd 9 .skip (.pre ⟨[1],[],[],[]⟩ (.exit 0)))) (sq (.block 1 (sq (sq (.reg [pM 12 0,pM 13 5,pI 14 27 12 13,pL 15 3 14,pM 16 1,pO 17 .neq 3 15 16 3]) (cd 17 (sq (.reg [pK 4 (-1)]) (.pre ⟨[4],[],[],[]⟩ .ret)) .skip)) (.reg [pM 18 1,pB 19 .add 3 18 1 3,pA 1 19]))) (.post (.reg [pM 10 5,pB 11 .add 3 10 1 3,pA 5 11]) ⟨[0,1,5],[],[],[]⟩)))
def c44:PC:=(sq (.reg [pK 4 0]) (sq (sq (.reg [pK 5 0]) (.block 0 (.pre ⟨[0,1,5],[],[],[]⟩ (.loop k44_1b)))) (sq (.reg [pM 20 1,pA 4 20]) .ret)))
def i44:FnI:=⟨21,[(.tmp 4)],c44,0,[[1],[0]],[[0]],false,false,0,false⟩
def c40:PC:=(sq (.reg [pX 2 35 0,pK 4 0]) (sq (.reg [pF 5 35 2 1,pL 6 27 5,pM 7 1,pC2 8 44 6 7 27 3,pA 1 8]) (sq (sq (.reg [pM 9 1,pB 10 .lss 3 9 0 3]) (cd 10 (sq (.reg [pK 4 (-1)]) .ret) .skip)) (sq (.reg [pF 11 35 2 5,pL 12 27 11,pM 13 1,pC2 14 44 12 13 27 3,pA 1 14]) (sq (sq (.reg [pM 15 1,pB 16 .lss 3 15 0 3]) (cd 16 (sq (.reg [pK 4 (-1)]) .ret) .skip)) (sq (.reg [pM 17 1,pA 4 17]) .ret))))))
def i40:FnI:=⟨18,[(.tmp 4)],c40,0,[[0,1,0,0,0,1],[0]],[[0]],false,false,0,false⟩
def c15:PC:=(sq (.reg [pX 2 37 0,pK 4 0]) (sq (.reg [pF 5 37 2 1,pL 6 35 5,pM 7 1,pC2 8 40 6 7 35 3,pA 1 8]) (sq (sq (.reg [pM 9 1,pB 10 .lss 3 9 0 3]) (cd 10 (sq (.reg [pK 4 (-1)]) .ret) .skip)) (sq (.reg [pM 11 1,pA 4 11]) .ret))))
def i15:FnI:=⟨12,[(.tmp 4)],c15,0,[[0,0,0,1,0,0,0,1],[0]],[[0]],false,false,0,false⟩
def k3_1:PC:=(.post (.reg [pL 50 37 11,pL 51 37 6,pC2 52 11 50 51 37 37,pU 53 4 52,pM 54 53,⟨(some 55),(.move (.tmp 12)),(some (54,false))⟩,⟨(some 56),(.move (.tmp 7)),(some (54,false))⟩,⟨(some 57),(.binOp .neq 3 (.tmp 55) (.tmp 56) 3),(some (54,false))⟩,pQ 58 54 57,pM 59 58,⟨(some 60),(.move (.tmp 13)),(some (59,false))⟩,⟨(some 61),(.move (.tmp 8)),(some (59,false))⟩,⟨(some 62),(.binOp .neq 4 (.tmp 60) (.tmp 61) 4),(some (59,false))⟩,pQ 63 59 62]) ⟨[2,3,6,7,8,9,10,11,12,13,63],[.old 0,.old 1,.old 2,.old 3,.old 4,.old 5,.old 6,.old 7,.old 8,.old 9,.old 10,.old 11,.old 12],[],[]⟩)
def k3_2:PC:=(.post (.reg [pM 80 14,pB 81 .lss 3 80 0 3,pM 82 81,⟨(some 83),(.load 37 (.tmp 11)),(some (82,false))⟩,⟨(some 84),(.load 37 (.tmp 6)),(some (82,false))⟩,⟨(some 85),(.call { callee:=(.value (.func 11)),args:=#[(.tmp 83),(.tmp 84)],argTypes:=#[37,37] }),(some (82,false))⟩,⟨(some 86),(.unOp .not 4 (.tmp 85)),(some (82,false))⟩,pQ 87 82 86,pM 88 87,⟨(some 89),(.move (.tmp 12)),(some (88,false))⟩,⟨(some 90),(.move (.tmp 7)),(some (88,false))⟩,⟨(some 91),(.binOp .neq 3 (.tmp 89) (.tmp 90) 3),(some (88,false))⟩,pQ 92 88 91,pM 93 92,⟨(some 94),(.move (.tmp 13)),(some (93,false))⟩,⟨(some 95),(.move (.tmp 8)),(some (93,false))⟩,⟨(some 96),(.binOp .neq 4 (.tmp 94) (.tmp 95) 4),(some (93,false))⟩,pQ 97 93 96]) ⟨[2,3,6,7,8,11,97],[.old 0,.old 1,.old 2,.old 3,.old 4,.old 5,.old 6,.old 7],[],[]⟩)
def k3_3:PC:=(.post (.reg [pL 118 37 17,pL 119 37 6,pC2 120 11 118 119 37 37,pU 121 4 120,pM 122 121,⟨(some 123),(.move (.tmp 18)),(some (122,false))⟩,⟨(some 124),(.move (.tmp 7)),(some (122,false))⟩,⟨(some 125),(.binOp .neq 3 (.tmp 123) (.tmp 124) 3),(some (122,false))⟩,pQ 126 122 125,pM 127 126,⟨(some 128),(.move (.tmp 19)),(some (127,false))⟩,⟨(some 129),(.move (.tmp 8)),(some (127,false))⟩,⟨(some 130),(.binOp .neq 4 (.tmp 128) (.tmp 129) 4),(some (127,false))⟩,pQ 131 127 130]) ⟨[11,15,131],[.old 3,.old 4,.old 5],[],[]⟩)
@[go_sem] def x3_8:FxI:=⟨[1,3,4,9,10],[none,none,none,none,none,none,none,none,none,some 0,none,none,none],1,[[],[1],[1,3],[1,3,4],[1,3,4,9],[1,3,4,9,10],[9],[1,9],[1,3,9]],[(0,9),(1,9),(2,9)],[(0,6,6),(1,6,7),(2,0,0),(2,6,6),(2,7,7),(3,7,8),(4,8,4),(9,0,6),(9,1,7),(9,2,8)]⟩
@[go_sem] def x3_31:FxI:=⟨[1,3,4,9,10],[none,none,none,none,none,none,none,none,none,some 0,none,none,none],1,[[],[1],[1,3],[1,3,4],[1,3,4,9],[1,3,4,9,10],[9],[1,9],[1,3,9]],[(0,9),(1,9),(2,9)],[(0,6,6),(1,6,7),(2,0,0),(2,6,6),(2,7,7),(3,7,8),(4,8,4),(9,0,6),(9,1,7),(9,2,8)]⟩
def c3:PC:=(sq (.reg [pX 2 24 0,pX 3 31 1,pN 4 false]) (sq (.reg [pK 5 1048576]) (sq (.reg [pL 20 24 2,pM 21 5,pC2 22 5 20 21 24 3,pA 5 22]) (sq (sq (.reg [pM 23 5,pB 24 .lss 3 23 0 3]) (cd 24 (sq (.reg [pN 4 true]) .ret) .skip)) (sq (.reg [pL 25 31 3,pM 26 5,pC2 27 6 25 26 31 3,pA 5 27]) (sq (sq (.reg [pM 28 5,pB 29 .lss 3 28 0 3]) (cd 29 (sq (.reg [pN 4 true]) .ret) .skip)) (sq (.fx [pL 31 24 2,pC 32 8 31 24,pL 33 31 3,pC 34 9 33 31,pC2 35 7 32 34 42 37,pM 30 35,pT 36 30 0,pT 37 30 1,pT 38 30 2,pG 6 37,⟨none,(.store 37 (.tmp 6) (.tmp 36)),none⟩,pA 7 37,pA 8 38] x3_8) (sq (.reg [pL 39 24 2,pC 40 8 39 24,pG 9 42,⟨none,(.store 42 (.tmp 9) (.tmp 40)),none⟩]) (sq (.reg [pL 41 31 3,pC 42 9 41 31,pG 10 37,⟨none,(.store 37 (.tmp 10) (.tmp 42)),none⟩]) (sq (.reg [pL 44 42 9,pL 45 37 10,pC2 46 10 44 45 42 37,pM 43 46,pT 47 43 0,pT 48 43 1,pT 49 43 2,pG 11 37,⟨none,(.store 37 (.tmp 11) (.tmp 47)),none⟩,pA 12 48,pA 13 49]) (sq (sq (.pre ⟨[2,3,6,7,8,9,10,11,12,13],[.old 0,.old 1,.old 2,.old 6,.old 7,.old 9,.old 8,.old 12,.old 10,.old 11,.old 15,.old 13,.old 14],[],[]⟩ k3_1) (cd 63 (sq (.reg [pN 4 false]) .ret) .skip)) (sq (sq (.fz [pL 64 42 9,pL 65 24 2,pC 66 8 65 24,pC2 67 12 64 66 42 42,pU 68 4 67]) (cd 68 (sq (.reg [pN 4 false]) .ret) .skip)) (sq (sq (.fz [pL 69 37 10,pL 70 31 3,pC 71 9 70 31,pC2 72 11 69 71 37 37,pU 73 4 72]) (cd 73 (sq (.reg [pN 4 false]) .ret) .skip)) (sq (.reg [pK 14 1]) (sq (.reg [pL 74 42 9,pM 75 14,pC2 76 13 74 75 42 3,pA 14 76]) (sq (.reg [pL 77 37 10,pM 78 14,pC2 79 14 77 78 37 3,pA 14 79]) (sq (sq (.pre ⟨[2,3,6,7,8,11,12,13,14],[.old 0,.old 1,.old 2,.old 3,.old 4,.old 10,.old 11,.old 12],[],[]⟩ k3_2) (cd 97 (sq (.reg [pN 4 false]) .ret) .skip)) (sq (.reg [pK 15 1]) (sq (.reg [pL 98 37 11,pM 99 15,pC2 100 14 98 99 37 3,pA 15 100]) (sq (.reg [pK 16 1]) (sq (.reg [pL 101 37 11,pM 102 16,pC2 103 15 101 102 37 3,pA 16 103]) (sq (sq (.reg [pM 104 16,pB 105 .lss 3 104 0 3]) (cd 105 (sq (.reg [pN 4 false]) .ret) .skip)) (sq (sq (.reg [pM 106 16,pM 107 15,pO 108 .neq 3 106 107 3]) (cd 108 (sq (.reg [pN 4 false]) .ret) .skip)) (sq (.fx [pL 110 24 2,pC 111 8 110 24,pL 112 31 3,pC 113 9 112 31,pC2 114 10 111 113 42 37,pM 109 114,pT 115 109 0,pT 116 109 1,pT 117 109 2,pG 17 37,⟨none,(.store 37 (.tmp 17) (.tmp 115)),none⟩,pA 18 116,pA 19 117] x3_31) (sq (sq (.pre ⟨[6,7,8,11,15,17,18,19],[.old 2,.old 3,.old 4,.old 5,.old 6,.old 7,.old 8,.old 12,.old 13],[],[]⟩ k3_3) (cd 131 (sq (.reg [pN 4 false]) .ret) .skip)) (sq (.reg [pK 16 1]) (sq (.reg [pL 132 37 11,pM 133 16,pC2 134 15 132 133 37 3,pA 16 134]) (sq (sq (.reg [pM 135 16,pB 136 .lss 3 135 0 3]) (cd 136 .bad .skip)) (sq (sq (.reg [pM 137 16,pM 138 15,pO 139 .neq 3 137 138 3]) (cd 139 .bad .skip)) (sq (.reg [pN 4 true]) .ret))))))))))))))))))))))))))))))
def i3:FnI:=⟨140,[(.tmp 4)],c3,0,[[5,0],[0,0,0,1,0,0,0,1]],[[0]],false,false,0,true⟩
def tys:List (Nat×TyI):=[(3,⟨1,8,false,[.int .i64 0],[0],0,[],.int .i64,false⟩),
 (4,⟨1,1,false,[.bool false],[0],0,[],.bool,false⟩),
 (22,⟨1,24,false,[.nil],[5],81,[],.other,false⟩),
 (24,⟨2,32,true,[.nil,.bool false],[5,0],0,[(0,1,false),(1,1,false)],.other,false⟩),
 (26,⟨2,16,true,[.int .i64 0,.int .i64 0],[0,0],0,[(0,1,false),(1,1,false)],.other,true⟩),
 (27,⟨1,24,false,[.nil],[1],3,[],.other,false⟩),
 (29,⟨6,80,true,[.int .i64 0,.nil,.int .i64 0,.int .i64 0,.int .i64 0,.nil],[0,1,0,0,0,1],0,[(0,1,false),(1,1,false),(2,1,false),(3,1,false),(4,1,false),(5,1,false)],.other,false⟩),
 (31,⟨8,96,true,[.int .i64 0,.int .i64 0,.int .i64 0,.nil,.int .i64 0,.int .i64 0,.int .i64 0,.nil],[0,0,0,1,0,0,0,1],0,[(0,2,true),(2,6,true)],.other,false⟩),
 (34,⟨2,16,true,[.int .i64 0,.int .i64 0],[0,0],0,[(0,1,false),(1,1,false)],.other,true⟩),
 (35,⟨6,80,true,[.int .i64 0,.nil,.int .i64 0,.int .i64 0,.int .i64 0,.nil],[0,1,0,0,0,1],0,[(0,1,false),(1,1,false),(2,1,false),(3,1,false),(4,1,false),(5,1,false)],.other,false⟩),
 (37,⟨8,96,true,[.int .i64 0,.int .i64 0,.int .i64 0,.nil,.int .i64 0,.int .i64 0,.int .i64 0,.nil],[0,0,0,1,0,0,0,1],0,[(0,2,true),(2,6,true)],.other,false⟩),
 (40,⟨1,24,false,[.nil],[5],86,[],.other,false⟩),
 (42,⟨2,32,true,[.nil,.bool false],[5,0],0,[(0,1,false),(1,1,false)],.other,false⟩),
 (77,⟨1,24,false,[.nil],[4],148,[],.other,false⟩),
 (78,⟨1,24,false,[.nil],[2],150,[],.other,false⟩),
 (79,⟨1,24,false,[.nil],[2],152,[],.other,false⟩),
 (81,⟨5,88,true,[.nil,.nil,.int .i64 0,.nil,.int .i64 0],[4,2,0,2,0],0,[(0,1,false),(1,1,false),(2,1,false),(3,1,false),(4,1,false)],.other,false⟩),
 (82,⟨1,24,false,[.nil],[4],110,[],.other,false⟩),
 (83,⟨1,24,false,[.nil],[2],137,[],.other,false⟩),
 (84,⟨1,24,false,[.nil],[2],92,[],.other,false⟩),
 (86,⟨5,88,true,[.nil,.nil,.int .i64 0,.nil,.int .i64 0],[4,2,0,2,0],0,[(0,1,false),(1,1,false),(2,1,false),(3,1,false),(4,1,false)],.other,false⟩),
 (92,⟨2,16,true,[.int .i64 0,.int .i64 0],[0,0],0,[(0,1,false),(1,1,false)],.other,true⟩),
 (110,⟨4,32,true,[.int .i64 0,.int .i64 0,.int .i64 0,.int .i64 0],[0,0,0,0],0,[(0,2,true),(2,1,false),(3,1,false)],.other,false⟩),
 (137,⟨2,16,true,[.int .i64 0,.int .i64 0],[0,0],0,[(0,1,false),(1,1,false)],.other,true⟩),
 (138,⟨1,24,false,[.nil],[3],140,[],.other,false⟩),
 (140,⟨3,40,true,[.int .i64 0,.int .i64 0,.nil],[0,0,3],0,[(0,1,false),(1,1,false),(2,1,false)],.other,false⟩),
 (143,⟨1,8,false,[.int .u64 0],[0],0,[],.int .u64,false⟩),
 (148,⟨4,32,true,[.int .i64 0,.int .i64 0,.int .i64 0,.int .i64 0],[0,0,0,0],0,[(0,2,true),(2,1,false),(3,1,false)],.other,false⟩),
 (150,⟨2,16,true,[.int .i64 0,.int .i64 0],[0,0],0,[(0,1,false),(1,1,false)],.other,true⟩),
 (152,⟨2,16,true,[.int .i64 0,.int .i64 0],[0,0],0,[(0,1,false),(1,1,false)],.other,true⟩),
 (158,⟨1,8,false,[.nilp],[0],0,[],.other,false⟩),
 (174,⟨1,24,false,[.nil],[1],158,[],.other,false⟩),
 (176,⟨3,40,true,[.int .i64 0,.int .i64 0,.nil],[0,0,1],0,[(0,2,true),(2,1,false)],.other,false⟩)]
def fns:List (Nat×FnI):=[(3,i3),(5,i5),(6,i6),(7,i7),(8,i8),(9,i9),(10,i10),(11,i11),(12,i12),(13,i13),(14,i14),(15,i15),(23,i23),(24,i24),(25,i25),(26,i26),(27,i27),(28,i28),(29,i29),(30,i30),(31,i31),(32,i32),(33,i33),(34,i34),(35,i35),(36,i36),(37,i37),(38,i38),(39,i39),(40,i40),(43,i43),(44,i44),(45,i45),(46,i46),(47,i47),(48,i48),(49,i49),(50,i50),(51,i51),(52,i52),(53,i53),(54,i54),(55,i55),(56,i56),(57,i57),(58,i58),(59,i59),(60,i60),(61,i61),(62,i62),(63,i63),(64,i64),(65,i65),(66,i66),(67,i67),(69,i69),(70,i70),(71,i71),(72,i72),(73,i73),(74,i74),(75,i75),(76,i76),(77,i77),(78,i78),(79,i79),(80,i80),(81,i81),(82,i82),(83,i83),(84,i84),(85,i85),(86,i86),(87,i87),(88,i88),(89,i89),(90,i90),(91,i91),(92,i92),(93,i93),(94,i94),(95,i95),(96,i96),(97,i97),(98,i98),(99,i99),(100,i100),(101,i101),(102,i102),(103,i103),(104,i104),(105,i105),(106,i106),(107,i107),(108,i108),(109,i109),(110,i110),(111,i111),(112,i112),(113,i113),(114,i114),(115,i115),(116,i116),(117,i117),(118,i118),(119,i119),(120,i120),(121,i121),(122,i122),(123,i123),(124,i124),(125,i125),(126,i126),(127,i127),(128,i128),(129,i129),(130,i130),(131,i131),(132,i132),(135,i135),(136,i136),(137,i137),(138,i138),(139,i139),(140,i140),(141,i141),(142,i142),(143,i143),(144,i144),(145,i145),(146,i146),(147,i147),(149,i149)]
def T:Tab:=mkTab tys fns
theorem soft0:T.soft=false:=rfl
theorem ty3:T.ty 3=some ⟨1,8,false,[.int .i64 0],[0],0,[],.int .i64,false⟩:=rfl
theorem ty4:T.ty 4=some ⟨1,1,false,[.bool false],[0],0,[],.bool,false⟩:=rfl
theorem base4:T.baseOf 4=Bs.bool:=rfl
theorem ty22:T.ty 22=some ⟨1,24,false,[.nil],[5],81,[],.other,false⟩:=rfl
theorem elem22:T.elemOf 22=some ⟨5,88,true,[.nil,.nil,.int .i64 0,.nil,.int .i64 0],[4,2,0,2,0],0,[(0,1,false),(1,1,false),(2,1,false),(3,1,false),(4,1,false)],.other,false⟩:=rfl
theorem ty24:T.ty 24=some ⟨2,32,true,[.nil,.bool false],[5,0],0,[(0,1,false),(1,1,false)],.other,false⟩:=rfl
theorem ty26:T.ty 26=some ⟨2,16,true,[.int .i64 0,.int .i64 0],[0,0],0,[(0,1,false),(1,1,false)],.other,true⟩:=rfl
theorem ty27:T.ty 27=some ⟨1,24,false,[.nil],[1],3,[],.other,false⟩:=rfl
theorem elem27:T.elemOf 27=some ⟨1,8,false,[.int .i64 0],[0],0,[],.int .i64,false⟩:=rfl
theorem ty29:T.ty 29=some ⟨6,80,true,[.int .i64 0,.nil,.int .i64 0,.int .i64 0,.int .i64 0,.nil],[0,1,0,0,0,1],0,[(0,1,false),(1,1,false),(2,1,false),(3,1,false),(4,1,false),(5,1,false)],.other,false⟩:=rfl
theorem ty31:T.ty 31=some ⟨8,96,true,[.int .i64 0,.int .i64 0,.int .i64 0,.nil,.int .i64 0,.int .i64 0,.int .i64 0,.nil],[0,0,0,1,0,0,0,1],0,[(0,2,true),(2,6,true)],.other,false⟩:=rfl
theorem ty34:T.ty 34=some ⟨2,16,true,[.int .i64 0,.int .i64 0],[0,0],0,[(0,1,false),(1,1,false)],.other,true⟩:=rfl
theorem ty35:T.ty 35=some ⟨6,80,true,[.int .i64 0,.nil,.int .i64 0,.int .i64 0,.int .i64 0,.nil],[0,1,0,0,0,1],0,[(0,1,false),(1,1,false),(2,1,false),(3,1,false),(4,1,false),(5,1,false)],.other,false⟩:=rfl
theorem ty37:T.ty 37=some ⟨8,96,true,[.int .i64 0,.int .i64 0,.int .i64 0,.nil,.int .i64 0,.int .i64 0,.int .i64 0,.nil],[0,0,0,1,0,0,0,1],0,[(0,2,true),(2,6,true)],.other,false⟩:=rfl
theorem ty40:T.ty 40=some ⟨1,24,false,[.nil],[5],86,[],.other,false⟩:=rfl
theorem elem40:T.elemOf 40=some ⟨5,88,true,[.nil,.nil,.int .i64 0,.nil,.int .i64 0],[4,2,0,2,0],0,[(0,1,false),(1,1,false),(2,1,false),(3,1,false),(4,1,false)],.other,false⟩:=rfl
theorem ty42:T.ty 42=some ⟨2,32,true,[.nil,.bool false],[5,0],0,[(0,1,false),(1,1,false)],.other,false⟩:=rfl
theorem ty77:T.ty 77=some ⟨1,24,false,[.nil],[4],148,[],.other,false⟩:=rfl
theorem elem77:T.elemOf 77=some ⟨4,32,true,[.int .i64 0,.int .i64 0,.int .i64 0,.int .i64 0],[0,0,0,0],0,[(0,2,true),(2,1,false),(3,1,false)],.other,false⟩:=rfl
theorem ty78:T.ty 78=some ⟨1,24,false,[.nil],[2],150,[],.other,false⟩:=rfl
theorem elem78:T.elemOf 78=some ⟨2,16,true,[.int .i64 0,.int .i64 0],[0,0],0,[(0,1,false),(1,1,false)],.other,true⟩:=rfl
theorem ty79:T.ty 79=some ⟨1,24,false,[.nil],[2],152,[],.other,false⟩:=rfl
theorem elem79:T.elemOf 79=some ⟨2,16,true,[.int .i64 0,.int .i64 0],[0,0],0,[(0,1,false),(1,1,false)],.other,true⟩:=rfl
theorem ty81:T.ty 81=some ⟨5,88,true,[.nil,.nil,.int .i64 0,.nil,.int .i64 0],[4,2,0,2,0],0,[(0,1,false),(1,1,false),(2,1,false),(3,1,false),(4,1,false)],.other,false⟩:=rfl
theorem ty82:T.ty 82=some ⟨1,24,false,[.nil],[4],110,[],.other,false⟩:=rfl
theorem elem82:T.elemOf 82=some ⟨4,32,true,[.int .i64 0,.int .i64 0,.int .i64 0,.int .i64 0],[0,0,0,0],0,[(0,2,true),(2,1,false),(3,1,false)],.other,false⟩:=rfl
theorem ty83:T.ty 83=some ⟨1,24,false,[.nil],[2],137,[],.other,false⟩:=rfl
theorem elem83:T.elemOf 83=some ⟨2,16,true,[.int .i64 0,.int .i64 0],[0,0],0,[(0,1,false),(1,1,false)],.other,true⟩:=rfl
theorem ty84:T.ty 84=some ⟨1,24,false,[.nil],[2],92,[],.other,false⟩:=rfl
theorem elem84:T.elemOf 84=some ⟨2,16,true,[.int .i64 0,.int .i64 0],[0,0],0,[(0,1,false),(1,1,false)],.other,true⟩:=rfl
theorem ty86:T.ty 86=some ⟨5,88,true,[.nil,.nil,.int .i64 0,.nil,.int .i64 0],[4,2,0,2,0],0,[(0,1,false),(1,1,false),(2,1,false),(3,1,false),(4,1,false)],.other,false⟩:=rfl
theorem ty92:T.ty 92=some ⟨2,16,true,[.int .i64 0,.int .i64 0],[0,0],0,[(0,1,false),(1,1,false)],.other,true⟩:=rfl
theorem ty110:T.ty 110=some ⟨4,32,true,[.int .i64 0,.int .i64 0,.int .i64 0,.int .i64 0],[0,0,0,0],0,[(0,2,true),(2,1,false),(3,1,false)],.other,false⟩:=rfl
theorem ty137:T.ty 137=some ⟨2,16,true,[.int .i64 0,.int .i64 0],[0,0],0,[(0,1,false),(1,1,false)],.other,true⟩:=rfl
theorem ty138:T.ty 138=some ⟨1,24,false,[.nil],[3],140,[],.other,false⟩:=rfl
theorem elem138:T.elemOf 138=some ⟨3,40,true,[.int .i64 0,.int .i64 0,.nil],[0,0,3],0,[(0,1,false),(1,1,false),(2,1,false)],.other,false⟩:=rfl
theorem ty140:T.ty 140=some ⟨3,40,true,[.int .i64 0,.int .i64 0,.nil],[0,0,3],0,[(0,1,false),(1,1,false),(2,1,false)],.other,false⟩:=rfl
theorem ty143:T.ty 143=some ⟨1,8,false,[.int .u64 0],[0],0,[],.int .u64,false⟩:=rfl
theorem ty148:T.ty 148=some ⟨4,32,true,[.int .i64 0,.int .i64 0,.int .i64 0,.int .i64 0],[0,0,0,0],0,[(0,2,true),(2,1,false),(3,1,false)],.other,false⟩:=rfl
theorem ty150:T.ty 150=some ⟨2,16,true,[.int .i64 0,.int .i64 0],[0,0],0,[(0,1,false),(1,1,false)],.other,true⟩:=rfl
theorem ty152:T.ty 152=some ⟨2,16,true,[.int .i64 0,.int .i64 0],[0,0],0,[(0,1,false),(1,1,false)],.other,true⟩:=rfl
theorem ty158:T.ty 158=some ⟨1,8,false,[.nilp],[0],0,[],.other,false⟩:=rfl
theorem ty174:T.ty 174=some ⟨1,24,false,[.nil],[1],158,[],.other,false⟩:=rfl
theorem elem174:T.elemOf 174=some ⟨1,8,false,[.nilp],[0],0,[],.other,false⟩:=rfl
theorem ty176:T.ty 176=some ⟨3,40,true,[.int .i64 0,.int .i64 0,.nil],[0,0,1],0,[(0,2,true),(2,1,false)],.other,false⟩:=rfl
attribute [go_sem] soft0 ty3 ty4 base4 ty22 elem22 ty24 ty26 ty27 elem27 ty29 ty31 ty34 ty35 ty37 ty40 elem40 ty42 ty77 elem77 ty78 elem78 ty79 elem79 ty81 ty82 elem82 ty83 elem83 ty84 elem84 ty86 ty92 ty110 ty137 ty138 elem138 ty140 ty143 ty148 ty150 ty152 ty158 ty174 elem174 ty176
theorem ok3:FnOk Tryz.prog (3,i3):=⟨Tryz.f3,_,Tryz.func3,rfl,by kernel_rfl,rfl,rfl,by kernel_rfl⟩
theorem ok5:FnOk Tryz.prog (5,i5):=⟨Tryz.f5,_,Tryz.func5,rfl,by kernel_rfl,rfl,rfl,by kernel_rfl⟩
theorem ok6:FnOk Tryz.prog (6,i6):=⟨Tryz.f6,_,Tryz.func6,rfl,by kernel_rfl,rfl,rfl,by kernel_rfl⟩
theorem ok7:FnOk Tryz.prog (7,i7):=⟨Tryz.f7,_,Tryz.func7,rfl,by kernel_rfl,rfl,rfl,by kernel_rfl⟩
theorem ok8:FnOk Tryz.prog (8,i8):=⟨Tryz.f8,_,Tryz.func8,rfl,by kernel_rfl,rfl,rfl,by kernel_rfl⟩
theorem ok9:FnOk Tryz.prog (9,i9):=⟨Tryz.f9,_,Tryz.func9,rfl,by kernel_rfl,rfl,rfl,by kernel_rfl⟩
theorem ok10:FnOk Tryz.prog (10,i10):=⟨Tryz.f10,_,Tryz.func10,rfl,by kernel_rfl,rfl,rfl,by kernel_rfl⟩
theorem ok11:FnOk Tryz.prog (11,i11):=⟨Tryz.f11,_,Tryz.func11,rfl,by kernel_rfl,rfl,rfl,by kernel_rfl⟩
theorem ok12:FnOk Tryz.prog (12,i12):=⟨Tryz.f12,_,Tryz.func12,rfl,by kernel_rfl,rfl,rfl,by kernel_rfl⟩
theorem ok13:FnOk Tryz.prog (13,i13):=⟨Tryz.f13,_,Tryz.func13,rfl,by kernel_rfl,rfl,rfl,by kernel_rfl⟩
theorem ok14:FnOk Tryz.prog (14,i14):=⟨Tryz.f14,_,Tryz.func14,rfl,by kernel_rfl,rfl,rfl,by kernel_rfl⟩
theorem ok15:FnOk Tryz.prog (15,i15):=⟨Tryz.f15,_,Tryz.func15,rfl,by kernel_rfl,rfl,rfl,by kernel_rfl⟩
theorem ok23:FnOk Tryz.prog (23,i23):=⟨Tryz.f23,_,Tryz.func23,rfl,by kernel_rfl,rfl,rfl,by kernel_rfl⟩
theorem ok24:FnOk Tryz.prog (24,i24):=⟨Tryz.f24,_,Tryz.func24,rfl,by kernel_rfl,rfl,rfl,by kernel_rfl⟩
theorem ok25:FnOk Tryz.prog (25,i25):=⟨Tryz.f25,_,Tryz.func25,rfl,by kernel_rfl,rfl,rfl,by kernel_rfl⟩
theorem ok26:FnOk Tryz.prog (26,i26):=⟨Tryz.f26,_,Tryz.func26,rfl,by kernel_rfl,rfl,rfl,by kernel_rfl⟩
theorem ok27:FnOk Tryz.prog (27,i27):=⟨Tryz.f27,_,Tryz.func27,rfl,by kernel_rfl,rfl,rfl,by kernel_rfl⟩
theorem ok28:FnOk Tryz.prog (28,i28):=⟨Tryz.f28,_,Tryz.func28,rfl,by kernel_rfl,rfl,rfl,by kernel_rfl⟩
theorem ok29:FnOk Tryz.prog (29,i29):=⟨Tryz.f29,_,Tryz.func29,rfl,by kernel_rfl,rfl,rfl,by kernel_rfl⟩
theorem ok30:FnOk Tryz.prog (30,i30):=⟨Tryz.f30,_,Tryz.func30,rfl,by kernel_rfl,rfl,rfl,by kernel_rfl⟩
theorem ok31:FnOk Tryz.prog (31,i31):=⟨Tryz.f31,_,Tryz.func31,rfl,by kernel_rfl,rfl,rfl,by kernel_rfl⟩
theorem ok32:FnOk Tryz.prog (32,i32):=⟨Tryz.f32,_,Tryz.func32,rfl,by kernel_rfl,rfl,rfl,by kernel_rfl⟩
theorem ok33:FnOk Tryz.prog (33,i33):=⟨Tryz.f33,_,Tryz.func33,rfl,by kernel_rfl,rfl,rfl,by kernel_rfl⟩
theorem ok34:FnOk Tryz.prog (34,i34):=⟨Tryz.f34,_,Tryz.func34,rfl,by kernel_rfl,rfl,rfl,by kernel_rfl⟩
theorem ok35:FnOk Tryz.prog (35,i35):=⟨Tryz.f35,_,Tryz.func35,rfl,by kernel_rfl,rfl,rfl,by kernel_rfl⟩
theorem ok36:FnOk Tryz.prog (36,i36):=⟨Tryz.f36,_,Tryz.func36,rfl,by kernel_rfl,rfl,rfl,by kernel_rfl⟩
theorem ok37:FnOk Tryz.prog (37,i37):=⟨Tryz.f37,_,Tryz.func37,rfl,by kernel_rfl,rfl,rfl,by kernel_rfl⟩
theorem ok38:FnOk Tryz.prog (38,i38):=⟨Tryz.f38,_,Tryz.func38,rfl,by kernel_rfl,rfl,rfl,by kernel_rfl⟩
theorem ok39:FnOk Tryz.prog (39,i39):=⟨Tryz.f39,_,Tryz.func39,rfl,by kernel_rfl,rfl,rfl,by kernel_rfl⟩
theorem ok40:FnOk Tryz.prog (40,i40):=⟨Tryz.f40,_,Tryz.func40,rfl,by kernel_rfl,rfl,rfl,by kernel_rfl⟩
theorem ok43:FnOk Tryz.prog (43,i43):=⟨Tryz.f43,_,Tryz.func43,rfl,by kernel_rfl,rfl,rfl,by kernel_rfl⟩
theorem ok44:FnOk Tryz.prog (44,i44):=⟨Tryz.f44,_,Tryz.func44,rfl,by kernel_rfl,rfl,rfl,by kernel_rfl⟩
theorem ok45:FnOk Tryz.prog (45,i45):=⟨Tryz.f45,_,Tryz.func45,rfl,by kernel_rfl,rfl,rfl,by kernel_rfl⟩
theorem ok46:FnOk Tryz.prog (46,i46):=⟨Tryz.f46,_,Tryz.func46,rfl,by kernel_rfl,rfl,rfl,by kernel_rfl⟩
theorem ok47:FnOk Tryz.prog (47,i47):=⟨Tryz.f47,_,Tryz.func47,rfl,by kernel_rfl,rfl,rfl,by kernel_rfl⟩
theorem ok48:FnOk Tryz.prog (48,i48):=⟨Tryz.f48,_,Tryz.func48,rfl,by kernel_rfl,rfl,rfl,by kernel_rfl⟩
theorem ok49:FnOk Tryz.prog (49,i49):=⟨Tryz.f49,_,Tryz.func49,rfl,by kernel_rfl,rfl,rfl,by kernel_rfl⟩
theorem ok50:FnOk Tryz.prog (50,i50):=⟨Tryz.f50,_,Tryz.func50,rfl,by kernel_rfl,rfl,rfl,by kernel_rfl⟩
theorem ok51:FnOk Tryz.prog (51,i51):=⟨Tryz.f51,_,Tryz.func51,rfl,by kernel_rfl,rfl,rfl,by kernel_rfl⟩
theorem ok52:FnOk Tryz.prog (52,i52):=⟨Tryz.f52,_,Tryz.func52,rfl,by kernel_rfl,rfl,rfl,by kernel_rfl⟩
theorem ok53:FnOk Tryz.prog (53,i53):=⟨Tryz.f53,_,Tryz.func53,rfl,by kernel_rfl,rfl,rfl,by kernel_rfl⟩
theorem ok54:FnOk Tryz.prog (54,i54):=⟨Tryz.f54,_,Tryz.func54,rfl,by kernel_rfl,rfl,rfl,by kernel_rfl⟩
theorem ok55:FnOk Tryz.prog (55,i55):=⟨Tryz.f55,_,Tryz.func55,rfl,by kernel_rfl,rfl,rfl,by kernel_rfl⟩
theorem ok56:FnOk Tryz.prog (56,i56):=⟨Tryz.f56,_,Tryz.func56,rfl,by kernel_rfl,rfl,rfl,by kernel_rfl⟩
theorem ok57:FnOk Tryz.prog (57,i57):=⟨Tryz.f57,_,Tryz.func57,rfl,by kernel_rfl,rfl,rfl,by kernel_rfl⟩
theorem ok58:FnOk Tryz.prog (58,i58):=⟨Tryz.f58,_,Tryz.func58,rfl,by kernel_rfl,rfl,rfl,by kernel_rfl⟩
theorem ok59:FnOk Tryz.prog (59,i59):=⟨Tryz.f59,_,Tryz.func59,rfl,by kernel_rfl,rfl,rfl,by kernel_rfl⟩
theorem ok60:FnOk Tryz.prog (60,i60):=⟨Tryz.f60,_,Tryz.func60,rfl,by kernel_rfl,rfl,rfl,by kernel_rfl⟩
theorem ok61:FnOk Tryz.prog (61,i61):=⟨Tryz.f61,_,Tryz.func61,rfl,by kernel_rfl,rfl,rfl,by kernel_rfl⟩
theorem ok62:FnOk Tryz.prog (62,i62):=⟨Tryz.f62,_,Tryz.func62,rfl,by kernel_rfl,rfl,rfl,by kernel_rfl⟩
theorem ok63:FnOk Tryz.prog (63,i63):=⟨Tryz.f63,_,Tryz.func63,rfl,by kernel_rfl,rfl,rfl,by kernel_rfl⟩
theorem ok64:FnOk Tryz.prog (64,i64):=⟨Tryz.f64,_,Tryz.func64,rfl,by kernel_rfl,rfl,rfl,by kernel_rfl⟩
theorem ok65:FnOk Tryz.prog (65,i65):=⟨Tryz.f65,_,Tryz.func65,rfl,by kernel_rfl,rfl,rfl,by kernel_rfl⟩
theorem ok66:FnOk Tryz.prog (66,i66):=⟨Tryz.f66,_,Tryz.func66,rfl,by kernel_rfl,rfl,rfl,by kernel_rfl⟩
theorem ok67:FnOk Tryz.prog (67,i67):=⟨Tryz.f67,_,Tryz.func67,rfl,by kernel_rfl,rfl,rfl,by kernel_rfl⟩
theorem ok69:FnOk Tryz.prog (69,i69):=⟨Tryz.f69,_,Tryz.func69,rfl,by kernel_rfl,rfl,rfl,by kernel_rfl⟩
theorem ok70:FnOk Tryz.prog (70,i70):=⟨Tryz.f70,_,Tryz.func70,rfl,by kernel_rfl,rfl,rfl,by kernel_rfl⟩
theorem ok71:FnOk Tryz.prog (71,i71):=⟨Tryz.f71,_,Tryz.func71,rfl,by kernel_rfl,rfl,rfl,by kernel_rfl⟩
theorem ok72:FnOk Tryz.prog (72,i72):=⟨Tryz.f72,_,Tryz.func72,rfl,by kernel_rfl,rfl,rfl,by kernel_rfl⟩
theorem ok73:FnOk Tryz.prog (73,i73):=⟨Tryz.f73,_,Tryz.func73,rfl,by kernel_rfl,rfl,rfl,by kernel_rfl⟩
theorem ok74:FnOk Tryz.prog (74,i74):=⟨Tryz.f74,_,Tryz.func74,rfl,by kernel_rfl,rfl,rfl,by kernel_rfl⟩
theorem ok75:FnOk Tryz.prog (75,i75):=⟨Tryz.f75,_,Tryz.func75,rfl,by kernel_rfl,rfl,rfl,by kernel_rfl⟩
theorem ok76:FnOk Tryz.prog (76,i76):=⟨Tryz.f76,_,Tryz.func76,rfl,by kernel_rfl,rfl,rfl,by kernel_rfl⟩
theorem ok77:FnOk Tryz.prog (77,i77):=⟨Tryz.f77,_,Tryz.func77,rfl,by kernel_rfl,rfl,rfl,by kernel_rfl⟩
theorem ok78:FnOk Tryz.prog (78,i78):=⟨Tryz.f78,_,Tryz.func78,rfl,by kernel_rfl,rfl,rfl,by kernel_rfl⟩
theorem ok79:FnOk Tryz.prog (79,i79):=⟨Tryz.f79,_,Tryz.func79,rfl,by kernel_rfl,rfl,rfl,by kernel_rfl⟩
theorem ok80:FnOk Tryz.prog (80,i80):=⟨Tryz.f80,_,Tryz.func80,rfl,by kernel_rfl,rfl,rfl,by kernel_rfl⟩
theorem ok81:FnOk Tryz.prog (81,i81):=⟨Tryz.f81,_,Tryz.func81,rfl,by kernel_rfl,rfl,rfl,by kernel_rfl⟩
theorem ok82:FnOk Tryz.prog (82,i82):=⟨Tryz.f82,_,Tryz.func82,rfl,by kernel_rfl,rfl,rfl,by kernel_rfl⟩
theorem ok83:FnOk Tryz.prog (83,i83):=⟨Tryz.f83,_,Tryz.func83,rfl,by kernel_rfl,rfl,rfl,by kernel_rfl⟩
theorem ok84:FnOk Tryz.prog (84,i84):=⟨Tryz.f84,_,Tryz.func84,rfl,by kernel_rfl,rfl,rfl,by kernel_rfl⟩
theorem ok85:FnOk Tryz.prog (85,i85):=⟨Tryz.f85,_,Tryz.func85,rfl,by kernel_rfl,rfl,rfl,by kernel_rfl⟩
theorem ok86:FnOk Tryz.prog (86,i86):=⟨Tryz.f86,_,Tryz.func86,rfl,by kernel_rfl,rfl,rfl,by kernel_rfl⟩
theorem ok87:FnOk Tryz.prog (87,i87):=⟨Tryz.f87,_,Tryz.func87,rfl,by kernel_rfl,rfl,rfl,by kernel_rfl⟩
theorem ok88:FnOk Tryz.prog (88,i88):=⟨Tryz.f88,_,Tryz.func88,rfl,by kernel_rfl,rfl,rfl,by kernel_rfl⟩
theorem ok89:FnOk Tryz.prog (89,i89):=⟨Tryz.f89,_,Tryz.func89,rfl,by kernel_rfl,rfl,rfl,by kernel_rfl⟩
theorem ok90:FnOk Tryz.prog (90,i90):=⟨Tryz.f90,_,Tryz.func90,rfl,by kernel_rfl,rfl,rfl,by kernel_rfl⟩
theorem ok91:FnOk Tryz.prog (91,i91):=⟨Tryz.f91,_,Tryz.func91,rfl,by kernel_rfl,rfl,rfl,by kernel_rfl⟩
theorem ok92:FnOk Tryz.prog (92,i92):=⟨Tryz.f92,_,Tryz.func92,rfl,by kernel_rfl,rfl,rfl,by kernel_rfl⟩
theorem ok93:FnOk Tryz.prog (93,i93):=⟨Tryz.f93,_,Tryz.func93,rfl,by kernel_rfl,rfl,rfl,by kernel_rfl⟩
theorem ok94:FnOk Tryz.prog (94,i94):=⟨Tryz.f94,_,Tryz.func94,rfl,by kernel_rfl,rfl,rfl,by kernel_rfl⟩
theorem ok95:FnOk Tryz.prog (95,i95):=⟨Tryz.f95,_,Tryz.func95,rfl,by kernel_rfl,rfl,rfl,by kernel_rfl⟩
theorem ok96:FnOk Tryz.prog (96,i96):=⟨Tryz.f96,_,Tryz.func96,rfl,by kernel_rfl,rfl,rfl,by kernel_rfl⟩
theorem ok97:FnOk Tryz.prog (97,i97):=⟨Tryz.f97,_,Tryz.func97,rfl,by kernel_rfl,rfl,rfl,by kernel_rfl⟩
theorem ok98:FnOk Tryz.prog (98,i98):=⟨Tryz.f98,_,Tryz.func98,rfl,by kernel_rfl,rfl,rfl,by kernel_rfl⟩
theorem ok99:FnOk Tryz.prog (99,i99):=⟨Tryz.f99,_,Tryz.func99,rfl,by kernel_rfl,rfl,rfl,by kernel_rfl⟩
theorem ok100:FnOk Tryz.prog (100,i100):=⟨Tryz.f100,_,Tryz.func100,rfl,by kernel_rfl,rfl,rfl,by kernel_rfl⟩
theorem ok101:FnOk Tryz.prog (101,i101):=⟨Tryz.f101,_,Tryz.func101,rfl,by kernel_rfl,rfl,rfl,by kernel_rfl⟩
theorem ok102:FnOk Tryz.prog (102,i102):=⟨Tryz.f102,_,Tryz.func102,rfl,by kernel_rfl,rfl,rfl,by kernel_rfl⟩
theorem ok103:FnOk Tryz.prog (103,i103):=⟨Tryz.f103,_,Tryz.func103,rfl,by kernel_rfl,rfl,rfl,by kernel_rfl⟩
theorem ok104:FnOk Tryz.prog (104,i104):=⟨Tryz.f104,_,Tryz.func104,rfl,by kernel_rfl,rfl,rfl,by kernel_rfl⟩
theorem ok105:FnOk Tryz.prog (105,i105):=⟨Tryz.f105,_,Tryz.func105,rfl,by kernel_rfl,rfl,rfl,by kernel_rfl⟩
theorem ok106:FnOk Tryz.prog (106,i106):=⟨Tryz.f106,_,Tryz.func106,rfl,by kernel_rfl,rfl,rfl,by kernel_rfl⟩
theorem ok107:FnOk Tryz.prog (107,i107):=⟨Tryz.f107,_,Tryz.func107,rfl,by kernel_rfl,rfl,rfl,by kernel_rfl⟩
theorem ok108:FnOk Tryz.prog (108,i108):=⟨Tryz.f108,_,Tryz.func108,rfl,by kernel_rfl,rfl,rfl,by kernel_rfl⟩
theorem ok109:FnOk Tryz.prog (109,i109):=⟨Tryz.f109,_,Tryz.func109,rfl,by kernel_rfl,rfl,rfl,by kernel_rfl⟩
theorem ok110:FnOk Tryz.prog (110,i110):=⟨Tryz.f110,_,Tryz.func110,rfl,by kernel_rfl,rfl,rfl,by kernel_rfl⟩
theorem ok111:FnOk Tryz.prog (111,i111):=⟨Tryz.f111,_,Tryz.func111,rfl,by kernel_rfl,rfl,rfl,by kernel_rfl⟩
theorem ok112:FnOk Tryz.prog (112,i112):=⟨Tryz.f112,_,Tryz.func112,rfl,by kernel_rfl,rfl,rfl,by kernel_rfl⟩
theorem ok113:FnOk Tryz.prog (113,i113):=⟨Tryz.f113,_,Tryz.func113,rfl,by kernel_rfl,rfl,rfl,by kernel_rfl⟩
theorem ok114:FnOk Tryz.prog (114,i114):=⟨Tryz.f114,_,Tryz.func114,rfl,by kernel_rfl,rfl,rfl,by kernel_rfl⟩
theorem ok115:FnOk Tryz.prog (115,i115):=⟨Tryz.f115,_,Tryz.func115,rfl,by kernel_rfl,rfl,rfl,by kernel_rfl⟩
theorem ok116:FnOk Tryz.prog (116,i116):=⟨Tryz.f116,_,Tryz.func116,rfl,by kernel_rfl,rfl,rfl,by kernel_rfl⟩
theorem ok117:FnOk Tryz.prog (117,i117):=⟨Tryz.f117,_,Tryz.func117,rfl,by kernel_rfl,rfl,rfl,by kernel_rfl⟩
theorem ok118:FnOk Tryz.prog (118,i118):=⟨Tryz.f118,_,Tryz.func118,rfl,by kernel_rfl,rfl,rfl,by kernel_rfl⟩
theorem ok119:FnOk Tryz.prog (119,i119):=⟨Tryz.f119,_,Tryz.func119,rfl,by kernel_rfl,rfl,rfl,by kernel_rfl⟩
theorem ok120:FnOk Tryz.prog (120,i120):=⟨Tryz.f120,_,Tryz.func120,rfl,by kernel_rfl,rfl,rfl,by kernel_rfl⟩
theorem ok121:FnOk Tryz.prog (121,i121):=⟨Tryz.f121,_,Tryz.func121,rfl,by kernel_rfl,rfl,rfl,by kernel_rfl⟩
theorem ok122:FnOk Tryz.prog (122,i122):=⟨Tryz.f122,_,Tryz.func122,rfl,by kernel_rfl,rfl,rfl,by kernel_rfl⟩
theorem ok123:FnOk Tryz.prog (123,i123):=⟨Tryz.f123,_,Tryz.func123,rfl,by kernel_rfl,rfl,rfl,by kernel_rfl⟩
theorem ok124:FnOk Tryz.prog (124,i124):=⟨Tryz.f124,_,Tryz.func124,rfl,by kernel_rfl,rfl,rfl,by kernel_rfl⟩
theorem ok125:FnOk Tryz.prog (125,i125):=⟨Tryz.f125,_,Tryz.func125,rfl,by kernel_rfl,rfl,rfl,by kernel_rfl⟩
theorem ok126:FnOk Tryz.prog (126,i126):=⟨Tryz.f126,_,Tryz.func126,rfl,by kernel_rfl,rfl,rfl,by kernel_rfl⟩
theorem ok127:FnOk Tryz.prog (127,i127):=⟨Tryz.f127,_,Tryz.func127,rfl,by kernel_rfl,rfl,rfl,by kernel_rfl⟩
theorem ok128:FnOk Tryz.prog (128,i128):=⟨Tryz.f128,_,Tryz.func128,rfl,by kernel_rfl,rfl,rfl,by kernel_rfl⟩
theorem ok129:FnOk Tryz.prog (129,i129):=⟨Tryz.f129,_,Tryz.func129,rfl,by kernel_rfl,rfl,rfl,by kernel_rfl⟩
theorem ok130:FnOk Tryz.prog (130,i130):=⟨Tryz.f130,_,Tryz.func130,rfl,by kernel_rfl,rfl,rfl,by kernel_rfl⟩
theorem ok131:FnOk Tryz.prog (131,i131):=⟨Tryz.f131,_,Tryz.func131,rfl,by kernel_rfl,rfl,rfl,by kernel_rfl⟩
theorem ok132:FnOk Tryz.prog (132,i132):=⟨Tryz.f132,_,Tryz.func132,rfl,by kernel_rfl,rfl,rfl,by kernel_rfl⟩
theorem ok135:FnOk Tryz.prog (135,i135):=⟨Tryz.f135,_,Tryz.func135,rfl,by kernel_rfl,rfl,rfl,by kernel_rfl⟩
theorem ok136:FnOk Tryz.prog (136,i136):=⟨Tryz.f136,_,Tryz.func136,rfl,by kernel_rfl,rfl,rfl,by kernel_rfl⟩
theorem ok137:FnOk Tryz.prog (137,i137):=⟨Tryz.f137,_,Tryz.func137,rfl,by kernel_rfl,rfl,rfl,by kernel_rfl⟩
theorem ok138:FnOk Tryz.prog (138,i138):=⟨Tryz.f138,_,Tryz.func138,rfl,by kernel_rfl,rfl,rfl,by kernel_rfl⟩
theorem ok139:FnOk Tryz.prog (139,i139):=⟨Tryz.f139,_,Tryz.func139,rfl,by kernel_rfl,rfl,rfl,by kernel_rfl⟩
theorem ok140:FnOk Tryz.prog (140,i140):=⟨Tryz.f140,_,Tryz.func140,rfl,by kernel_rfl,rfl,rfl,by kernel_rfl⟩
theorem ok141:FnOk Tryz.prog (141,i141):=⟨Tryz.f141,_,Tryz.func141,rfl,by kernel_rfl,rfl,rfl,by kernel_rfl⟩
theorem ok142:FnOk Tryz.prog (142,i142):=⟨Tryz.f142,_,Tryz.func142,rfl,by kernel_rfl,rfl,rfl,by kernel_rfl⟩
theorem ok143:FnOk Tryz.prog (143,i143):=⟨Tryz.f143,_,Tryz.func143,rfl,by kernel_rfl,rfl,rfl,by kernel_rfl⟩
theorem ok144:FnOk Tryz.prog (144,i144):=⟨Tryz.f144,_,Tryz.func144,rfl,by kernel_rfl,rfl,rfl,by kernel_rfl⟩
theorem ok145:FnOk Tryz.prog (145,i145):=⟨Tryz.f145,_,Tryz.func145,rfl,by kernel_rfl,rfl,rfl,by kernel_rfl⟩
theorem ok146:FnOk Tryz.prog (146,i146):=⟨Tryz.f146,_,Tryz.func146,rfl,by kernel_rfl,rfl,rfl,by kernel_rfl⟩
theorem ok147:FnOk Tryz.prog (147,i147):=⟨Tryz.f147,_,Tryz.func147,rfl,by kernel_rfl,rfl,rfl,by kernel_rfl⟩
theorem ok149:FnOk Tryz.prog (149,i149):=⟨Tryz.f149,_,Tryz.func149,rfl,by kernel_rfl,rfl,rfl,by kernel_rfl⟩
theorem insAll:∀q∈[(103,27)],InsOk Tryz.prog q.1 q.2:=by
 intro q hq;simp only [List.mem_cons,List.not_mem_nil,or_false] at hq
 rcases hq with rfl
 · exact ins103
theorem tab:TabOk Tryz.prog T:=tabOkL_of [(103,27)] (by kernel_rfl) (.cons ok3 (.cons ok5 (.cons ok6 (.cons ok7 (.cons ok8 (.cons ok9 (.cons ok10 (.cons ok11 (.cons ok12 (.cons ok13 (.cons ok14 (.cons ok15 (.cons ok23 (.cons ok24 (.cons ok25 (.cons ok26 (.cons ok27 (.cons ok28 (.cons ok29 (.cons ok30 (.cons ok31 (.cons ok32 (.cons ok33 (.cons ok34 (.cons ok35 (.cons ok36 (.cons ok37 (.cons ok38 (.cons ok39 (.cons ok40 (.cons ok43 (.cons ok44 (.cons ok45 (.cons ok46 (.cons ok47 (.cons ok48 (.cons ok49 (.cons ok50 (.cons ok51 (.cons ok52 (.cons ok53 (.cons ok54 (.cons ok55 (.cons ok56 (.cons ok57 (.cons ok58 (.cons ok59 (.cons ok60 (.cons ok61 (.cons ok62 (.cons ok63 (.cons ok64 (.cons ok65 (.cons ok66 (.cons ok67 (.cons ok69 (.cons ok70 (.cons ok71 (.cons ok72 (.cons ok73 (.cons ok74 (.cons ok75 (.cons ok76 (.cons ok77 (.cons ok78 (.cons ok79 (.cons ok80 (.cons ok81 (.cons ok82 (.cons ok83 (.cons ok84 (.cons ok85 (.cons ok86 (.cons ok87 (.cons ok88 (.cons ok89 (.cons ok90 (.cons ok91 (.cons ok92 (.cons ok93 (.cons ok94 (.cons ok95 (.cons ok96 (.cons ok97 (.cons ok98 (.cons ok99 (.cons ok100 (.cons ok101 (.cons ok102 (.cons ok103 (.cons ok104 (.cons ok105 (.cons ok106 (.cons ok107 (.cons ok108 (.cons ok109 (.cons ok110 (.cons ok111 (.cons ok112 (.cons ok113 (.cons ok114 (.cons ok115 (.cons ok116 (.cons ok117 (.cons ok118 (.cons ok119 (.cons ok120 (.cons ok121 (.cons ok122 (.cons ok123 (.cons ok124 (.cons ok125 (.cons ok126 (.cons ok127 (.cons ok128 (.cons ok129 (.cons ok130 (.cons ok131 (.cons ok132 (.cons ok135 (.cons ok136 (.cons ok137 (.cons ok138 (.cons ok139 (.cons ok140 (.cons ok141 (.cons ok142 (.cons ok143 (.cons ok144 (.cons ok145 (.cons ok146 (.cons ok147 (.cons ok149 (.nil)))))))))))))))))))))))))))))))))))))))))))))))))))))))))))))))))))))))))))))))))))))))))))))))))))))))))))))))))))))))))))))))))))))) (by kernel_rfl) insAll
theorem fn3:T.fn 3=some i3:=rfl
theorem fn5:T.fn 5=some i5:=rfl
theorem fn6:T.fn 6=some i6:=rfl
theorem fn7:T.fn 7=some i7:=rfl
theorem fn8:T.fn 8=some i8:=rfl
theorem fn9:T.fn 9=some i9:=rfl
theorem fn10:T.fn 10=some i10:=rfl
theorem fn11:T.fn 11=some i11:=rfl
theorem fn12:T.fn 12=some i12:=rfl
theorem fn13:T.fn 13=some i13:=rfl
theorem fn14:T.fn 14=some i14:=rfl
theorem fn15:T.fn 15=some i15:=rfl
theorem fn23:T.fn 23=some i23:=rfl
theorem fn24:T.fn 24=some i24:=rfl
theorem fn25:T.fn 25=some i25:=rfl
theorem fn26:T.fn 26=some i26:=rfl
theorem fn27:T.fn 27=some i27:=rfl
theorem fn28:T.fn 28=some i28:=rfl
theorem fn29:T.fn 29=some i29:=rfl
theorem fn30:T.fn 30=some i30:=rfl
theorem fn31:T.fn 31=some i31:=rfl
theorem fn32:T.fn 32=some i32:=rfl
theorem fn33:T.fn 33=some i33:=rfl
theorem fn34:T.fn 34=some i34:=rfl
theorem fn35:T.fn 35=some i35:=rfl
theorem fn36:T.fn 36=some i36:=rfl
theorem fn37:T.fn 37=some i37:=rfl
theorem fn38:T.fn 38=some i38:=rfl
theorem fn39:T.fn 39=some i39:=rfl
theorem fn40:T.fn 40=some i40:=rfl
theorem fn43:T.fn 43=some i43:=rfl
theorem fn44:T.fn 44=some i44:=rfl
theorem fn45:T.fn 45=some i45:=rfl
theorem fn46:T.fn 46=some i46:=rfl
theorem fn47:T.fn 47=some i47:=rfl
theorem fn48:T.fn 48=some i48:=rfl
theorem fn49:T.fn 49=some i49:=rfl
theorem fn50:T.fn 50=some i50:=rfl
theorem fn51:T.fn 51=some i51:=rfl
theorem fn52:T.fn 52=some i52:=rfl
theorem fn53:T.fn 53=some i53:=rfl
theorem fn54:T.fn 54=some i54:=rfl
theorem fn55:T.fn 55=some i55:=rfl
theorem fn56:T.fn 56=some i56:=rfl
theorem fn57:T.fn 57=some i57:=rfl
theorem fn58:T.fn 58=some i58:=rfl
theorem fn59:T.fn 59=some i59:=rfl
theorem fn60:T.fn 60=some i60:=rfl
theorem fn61:T.fn 61=some i61:=rfl
theorem fn62:T.fn 62=some i62:=rfl
theorem fn63:T.fn 63=some i63:=rfl
theorem fn64:T.fn 64=some i64:=rfl
theorem fn65:T.fn 65=some i65:=rfl
theorem fn66:T.fn 66=some i66:=rfl
theorem fn67:T.fn 67=some i67:=rfl
theorem fn69:T.fn 69=some i69:=rfl
theorem fn70:T.fn 70=some i70:=rfl
theorem fn71:T.fn 71=some i71:=rfl
theorem fn72:T.fn 72=some i72:=rfl
theorem fn73:T.fn 73=some i73:=rfl
theorem fn74:T.fn 74=some i74:=rfl
theorem fn75:T.fn 75=some i75:=rfl
theorem fn76:T.fn 76=some i76:=rfl
theorem fn77:T.fn 77=some i77:=rfl
theorem fn78:T.fn 78=some i78:=rfl
theorem fn79:T.fn 79=some i79:=rfl
theorem fn80:T.fn 80=some i80:=rfl
theorem fn81:T.fn 81=some i81:=rfl
theorem fn82:T.fn 82=some i82:=rfl
theorem fn83:T.fn 83=some i83:=rfl
theorem fn84:T.fn 84=some i84:=rfl
theorem fn85:T.fn 85=some i85:=rfl
theorem fn86:T.fn 86=some i86:=rfl
theorem fn87:T.fn 87=some i87:=rfl
theorem fn88:T.fn 88=some i88:=rfl
theorem fn89:T.fn 89=some i89:=rfl
theorem fn90:T.fn 90=some i90:=rfl
theorem fn91:T.fn 91=some i91:=rfl
theorem fn92:T.fn 92=some i92:=rfl
theorem fn93:T.fn 93=some i93:=rfl
theorem fn94:T.fn 94=some i94:=rfl
theorem fn95:T.fn 95=some i95:=rfl
theorem fn96:T.fn 96=some i96:=rfl
theorem fn97:T.fn 97=some i97:=rfl
theorem fn98:T.fn 98=some i98:=rfl
theorem fn99:T.fn 99=some i99:=rfl
theorem fn100:T.fn 100=some i100:=rfl
theorem fn101:T.fn 101=some i101:=rfl
theorem fn102:T.fn 102=some i102:=rfl
theorem fn103:T.fn 103=some i103:=rfl
theorem fn104:T.fn 104=some i104:=rfl
theorem fn105:T.fn 105=some i105:=rfl
theorem fn106:T.fn 106=some i106:=rfl
theorem fn107:T.fn 107=some i107:=rfl
theorem fn108:T.fn 108=some i108:=rfl
theorem fn109:T.fn 109=some i109:=rfl
theorem fn110:T.fn 110=some i110:=rfl
theorem fn111:T.fn 111=some i111:=rfl
theorem fn112:T.fn 112=some i112:=rfl
theorem fn113:T.fn 113=some i113:=rfl
theorem fn114:T.fn 114=some i114:=rfl
theorem fn115:T.fn 115=some i115:=rfl
theorem fn116:T.fn 116=some i116:=rfl
theorem fn117:T.fn 117=some i117:=rfl
theorem fn118:T.fn 118=some i118:=rfl
theorem fn119:T.fn 119=some i119:=rfl
theorem fn120:T.fn 120=some i120:=rfl
theorem fn121:T.fn 121=some i121:=rfl
theorem fn122:T.fn 122=some i122:=rfl
theorem fn123:T.fn 123=some i123:=rfl
theorem fn124:T.fn 124=some i124:=rfl
theorem fn125:T.fn 125=some i125:=rfl
theorem fn126:T.fn 126=some i126:=rfl
theorem fn127:T.fn 127=some i127:=rfl
theorem fn128:T.fn 128=some i128:=rfl
theorem fn129:T.fn 129=some i129:=rfl
theorem fn130:T.fn 130=some i130:=rfl
theorem fn131:T.fn 131=some i131:=rfl
theorem fn132:T.fn 132=some i132:=rfl
theorem fn135:T.fn 135=some i135:=rfl
theorem fn136:T.fn 136=some i136:=rfl
theorem fn137:T.fn 137=some i137:=rfl
theorem fn138:T.fn 138=some i138:=rfl
theorem fn139:T.fn 139=some i139:=rfl
theorem fn140:T.fn 140=some i140:=rfl
theorem fn141:T.fn 141=some i141:=rfl
theorem fn142:T.fn 142=some i142:=rfl
theorem fn143:T.fn 143=some i143:=rfl
theorem fn144:T.fn 144=some i144:=rfl
theorem fn145:T.fn 145=some i145:=rfl
theorem fn146:T.fn 146=some i146:=rfl
theorem fn147:T.fn 147=some i147:=rfl
theorem fn149:T.fn 149=some i149:=rfl
theorem fns5:(T.at true).fn 5=some i5:=rfl
theorem fns6:(T.at true).fn 6=some i6:=rfl
theorem fns7:(T.at true).fn 7=some i7:=rfl
theorem fns8:(T.at true).fn 8=some i8:=rfl
theorem fns9:(T.at true).fn 9=some i9:=rfl
theorem fns10:(T.at true).fn 10=some i10:=rfl
theorem fns11:(T.at true).fn 11=some i11:=rfl
theorem fns12:(T.at true).fn 12=some i12:=rfl
theorem fns13:(T.at true).fn 13=some i13:=rfl
theorem fns14:(T.at true).fn 14=some i14:=rfl
theorem fns15:(T.at true).fn 15=some i15:=rfl
theorem fns38:(T.at true).fn 38=some i38:=rfl
theorem fns65:(T.at true).fn 65=some i65:=rfl
theorem fns66:(T.at true).fn 66=some i66:=rfl
theorem fns67:(T.at true).fn 67=some i67:=rfl
abbrev CL (f:Nat)(p:List (List Nat)):Prop:=∀(args:List AV) (S:St),evCall T (evFL T) f args S=lendC (evFL T f) S (lendAll S p args)
abbrev CZ (f:Nat)(r p:List (List Nat)):Prop:=∀(args:List AV) (S:St),evCallFz T (evFL T) f args S=lendZ (evFL T f) S r (lendAll S p args)
abbrev clR (f:Nat)(c a:List AV)(v:AV):Prop:=(∀S,evCall T (evFL T) f (a++c) S=some (v,S))∧∀S,evCallFz T (evFL T) f (a++c) S=some (v,S)
attribute [go_sem] clR
end Go.Pi.YthidbgihjhkjaaaGreat.ApplyPolicy
