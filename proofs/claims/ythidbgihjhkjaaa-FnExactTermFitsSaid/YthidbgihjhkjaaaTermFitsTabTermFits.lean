/- no condition -/
import Derived.Test.YthidbgihjhkjaaaProg
import Derived.Test.YthidbgihjhkjaaaPiD
set_option linter.all false
namespace Go.Pi.Ythidbgihjhkjaaa.TermFits
open Go Go.Proofs Go.Pi
set_option maxRecDepth 100000
attribute [go_sem] Nat.reduceLT Nat.reduceAdd Nat.reduceSub Nat.reduceMul Nat.reduceEqDiff Nat.reduceBEq Nat.reduceLeDiff Int.reduceToNat Int.reduceLT Int.reduceLE Int.reduceEq reduceCtorEq
attribute [go_sem ↓] reduceIte
@[go_sem] def r59_0 : List PO := [pK 4 0]
@[go_sem] def r59_1 : List PO := [pM 5 1,
 pM 6 0,
 pE 7 6 61,
 pO 8 .sub 3 5 7 3,
 pA 1 8]
@[go_sem] def r59_2 : List PO := [pM 9 1,
 pB 10 .lss 3 9 0 3]
@[go_sem] def r59_3 : List PO := [pK 4 (-1)]
@[go_sem] def r59_4 : List PO := [pM 11 1,
 pA 4 11]
def c59 : PC := (.seq (.reg r59_0) (.seq (.reg r59_1) (.seq (.seq (.reg r59_2) (.cond (.tmp 10) (.seq (.reg r59_3) .ret) .skip)) (.seq (.reg r59_4) .ret))))
def i59 : FnI := ⟨12, [(.tmp 4)], c59, 0, [[4], [0]], [[0]], false, false, 0, false⟩
@[go_sem] def r60_0 : List PO := [pK 4 0]
@[go_sem] def r60_1 : List PO := [pM 5 1,
 pM 6 0,
 pE 7 6 62,
 pO 8 .sub 3 5 7 3,
 pA 1 8]
@[go_sem] def r60_2 : List PO := [pM 9 1,
 pB 10 .lss 3 9 0 3]
@[go_sem] def r60_3 : List PO := [pK 4 (-1)]
@[go_sem] def r60_4 : List PO := [pM 11 1,
 pA 4 11]
def c60 : PC := (.seq (.reg r60_0) (.seq (.reg r60_1) (.seq (.seq (.reg r60_2) (.cond (.tmp 10) (.seq (.reg r60_3) .ret) .skip)) (.seq (.reg r60_4) .ret))))
def i60 : FnI := ⟨12, [(.tmp 4)], c60, 0, [[2], [0]], [[0]], false, false, 0, false⟩
@[go_sem] def r61_0 : List PO := [pK 4 0]
@[go_sem] def r61_1 : List PO := [pM 5 1,
 pM 6 0,
 pE 7 6 63,
 pO 8 .sub 3 5 7 3,
 pA 1 8]
@[go_sem] def r61_2 : List PO := [pM 9 1,
 pB 10 .lss 3 9 0 3]
@[go_sem] def r61_3 : List PO := [pK 4 (-1)]
@[go_sem] def r61_4 : List PO := [pM 11 1,
 pA 4 11]
def c61 : PC := (.seq (.reg r61_0) (.seq (.reg r61_1) (.seq (.seq (.reg r61_2) (.cond (.tmp 10) (.seq (.reg r61_3) .ret) .skip)) (.seq (.reg r61_4) .ret))))
def i61 : FnI := ⟨12, [(.tmp 4)], c61, 0, [[2], [0]], [[0]], false, false, 0, false⟩
@[go_sem] def r27_0 : List PO := [pX 2 65 0,
 pK 4 0]
@[go_sem] def r27_1 : List PO := [pF 5 65 2 0,
 pL 6 61 5,
 pM 7 1,
 pC2 8 59 6 7 61 3,
 pA 1 8]
@[go_sem] def r27_2 : List PO := [pM 9 1,
 pB 10 .lss 3 9 0 3]
@[go_sem] def r27_3 : List PO := [pK 4 (-1)]
@[go_sem] def r27_4 : List PO := [pF 11 65 2 1,
 pL 12 62 11,
 pM 13 1,
 pC2 14 60 12 13 62 3,
 pA 1 14]
@[go_sem] def r27_5 : List PO := [pM 15 1,
 pB 16 .lss 3 15 0 3]
@[go_sem] def r27_6 : List PO := [pK 4 (-1)]
@[go_sem] def r27_7 : List PO := [pF 17 65 2 3,
 pL 18 63 17,
 pM 19 1,
 pC2 20 61 18 19 63 3,
 pA 1 20]
@[go_sem] def r27_8 : List PO := [pM 21 1,
 pB 22 .lss 3 21 0 3]
@[go_sem] def r27_9 : List PO := [pK 4 (-1)]
@[go_sem] def r27_10 : List PO := [pM 23 1,
 pA 4 23]
def c27 : PC := (.seq (.reg r27_0) (.seq (.reg r27_1) (.seq (.seq (.reg r27_2) (.cond (.tmp 10) (.seq (.reg r27_3) .ret) .skip)) (.seq (.reg r27_4) (.seq (.seq (.reg r27_5) (.cond (.tmp 16) (.seq (.reg r27_6) .ret) .skip)) (.seq (.reg r27_7) (.seq (.seq (.reg r27_8) (.cond (.tmp 22) (.seq (.reg r27_9) .ret) .skip)) (.seq (.reg r27_10) .ret))))))))
def i27 : FnI := ⟨24, [(.tmp 4)], c27, 0, [[4, 2, 0, 2, 0], [0]], [[0]], false, false, 0, false⟩
@[go_sem] def r70_0 : List PO := [pK 4 0]
@[go_sem] def r70_1 : List PO := [pM 5 1,
 pM 6 0,
 pE 7 6 24,
 pO 8 .sub 3 5 7 3,
 pA 1 8]
@[go_sem] def r70_2 : List PO := [pM 9 1,
 pB 10 .lss 3 9 0 3]
@[go_sem] def r70_3 : List PO := [pK 4 (-1)]
@[go_sem] def r70_4 : List PO := [pM 11 1,
 pA 4 11]
def c70 : PC := (.seq (.reg r70_0) (.seq (.reg r70_1) (.seq (.seq (.reg r70_2) (.cond (.tmp 10) (.seq (.reg r70_3) .ret) .skip)) (.seq (.reg r70_4) .ret))))
def i70 : FnI := ⟨12, [(.tmp 4)], c70, 0, [[1], [0]], [[0]], false, false, 0, false⟩
@[go_sem] def r32_0 : List PO := [pX 2 26 0,
 pK 4 0]
@[go_sem] def r32_1 : List PO := [pF 5 26 2 1,
 pL 6 24 5,
 pM 7 1,
 pC2 8 70 6 7 24 3,
 pA 1 8]
@[go_sem] def r32_2 : List PO := [pM 9 1,
 pB 10 .lss 3 9 0 3]
@[go_sem] def r32_3 : List PO := [pK 4 (-1)]
@[go_sem] def r32_4 : List PO := [pF 11 26 2 5,
 pL 12 24 11,
 pM 13 1,
 pC2 14 70 12 13 24 3,
 pA 1 14]
@[go_sem] def r32_5 : List PO := [pM 15 1,
 pB 16 .lss 3 15 0 3]
@[go_sem] def r32_6 : List PO := [pK 4 (-1)]
@[go_sem] def r32_7 : List PO := [pM 17 1,
 pA 4 17]
def c32 : PC := (.seq (.reg r32_0) (.seq (.reg r32_1) (.seq (.seq (.reg r32_2) (.cond (.tmp 10) (.seq (.reg r32_3) .ret) .skip)) (.seq (.reg r32_4) (.seq (.seq (.reg r32_5) (.cond (.tmp 16) (.seq (.reg r32_6) .ret) .skip)) (.seq (.reg r32_7) .ret))))))
def i32 : FnI := ⟨18, [(.tmp 4)], c32, 0, [[0, 1, 0, 0, 0, 1], [0]], [[0]], false, false, 0, false⟩
@[go_sem] def r8_0 : List PO := [pX 2 28 0,
 pK 4 0]
@[go_sem] def r8_1 : List PO := [pF 5 28 2 1,
 pL 6 26 5,
 pM 7 1,
 pC2 8 32 6 7 26 3,
 pA 1 8]
@[go_sem] def r8_2 : List PO := [pM 9 1,
 pB 10 .lss 3 9 0 3]
@[go_sem] def r8_3 : List PO := [pK 4 (-1)]
@[go_sem] def r8_4 : List PO := [pM 11 1,
 pA 4 11]
def c8 : PC := (.seq (.reg r8_0) (.seq (.reg r8_1) (.seq (.seq (.reg r8_2) (.cond (.tmp 10) (.seq (.reg r8_3) .ret) .skip)) (.seq (.reg r8_4) .ret))))
def i8 : FnI := ⟨12, [(.tmp 4)], c8, 0, [[0, 0, 0, 1, 0, 0, 0, 1], [0]], [[0]], false, false, 0, false⟩
@[go_sem] def r35_0 : List PO := [pX 1 23 0,
 ⟨(some 2), (.alloc 31), none⟩]
@[go_sem] def r35_1 : List PO := [⟨(some 3), (.alloc 31), none⟩]
@[go_sem] def r35_2 : List PO := [pF 4 23 1 0,
 pL 5 3 4,
 pF 6 31 3 0,
 ⟨none, (.store 3 (.tmp 6) (.tmp 5)), none⟩]
@[go_sem] def r35_3 : List PO := [pF 7 23 1 1,
 pL 8 3 7,
 pF 9 31 3 1,
 ⟨none, (.store 3 (.tmp 9) (.tmp 8)), none⟩]
@[go_sem] def r35_4 : List PO := [pL 10 31 3,
 ⟨none, (.store 31 (.tmp 2) (.tmp 10)), none⟩]
def c35 : PC := (.seq (.reg r35_0) (.seq (.reg r35_1) (.seq (.reg r35_2) (.seq (.reg r35_3) (.seq (.reg r35_4) .ret)))))
def i35 : FnI := ⟨11, [(.cell 2 31)], c35, 0, [[0, 0]], [[0, 0]], false, false, 0, false⟩
@[go_sem] def r111_0 : List PO := [pX 1 138 0,
 ⟨(some 2), (.alloc 114), none⟩]
@[go_sem] def r111_1 : List PO := [⟨(some 3), (.alloc 114), none⟩]
@[go_sem] def r111_2 : List PO := [pF 4 138 1 0,
 pL 5 23 4,
 pC 6 35 5 23,
 pF 7 114 3 0,
 ⟨none, (.store 31 (.tmp 7) (.tmp 6)), none⟩]
@[go_sem] def r111_3 : List PO := [pF 8 138 1 1,
 pL 9 3 8,
 pF 10 114 3 1,
 ⟨none, (.store 3 (.tmp 10) (.tmp 9)), none⟩]
@[go_sem] def r111_4 : List PO := [pF 11 138 1 2,
 pL 12 3 11,
 pF 13 114 3 2,
 ⟨none, (.store 3 (.tmp 13) (.tmp 12)), none⟩]
@[go_sem] def r111_5 : List PO := [pL 14 114 3,
 ⟨none, (.store 114 (.tmp 2) (.tmp 14)), none⟩]
def c111 : PC := (.seq (.reg r111_0) (.seq (.reg r111_1) (.seq (.reg r111_2) (.seq (.reg r111_3) (.seq (.reg r111_4) (.seq (.reg r111_5) .ret))))))
def i111 : FnI := ⟨15, [(.cell 2 114)], c111, 0, [[0, 0, 0, 0]], [[0, 0, 0, 0]], false, false, 0, false⟩
@[go_sem] def r63_3 : List PO := [pM 8 4,
 pM 9 0,
 pE 10 9 61,
 pO 11 .lss 3 8 10 3]
@[go_sem] def r63_5 : List PO := [pM 14 3,
 pM 15 4,
 pM 16 0,
 pM 17 4,
 pI 18 61 16 17,
 pL 19 138 18,
 pC 20 111 19 138,
 pI 21 69 14 15,
 ⟨none, (.store 114 (.tmp 21) (.tmp 20)), none⟩]
@[go_sem] def r63_4 : List PO := [pM 12 4,
 pB 13 .add 3 12 1 3,
 pA 4 13]
def k63_1b : PC := (.seq (.seq (.reg r63_3) (.cond (.tmp 11) .skip (.pre ⟨[3], [.old 0], [], []⟩ (.exit 0)))) (.seq (.block 1 (.reg r63_5)) (.post (.reg r63_4) ⟨[0, 3, 4], [.old 0], [], []⟩)))
@[go_sem] def r63_0 : List PO := [⟨(some 2), (.assign (.const (.slice none 0 0))), none⟩]
@[go_sem] def r63_1 : List PO := [pM 5 0,
 pE 6 5 61,
 ⟨(some 7), (.makeSlice 69 (.tmp 6) (.tmp 6)), none⟩,
 pA 3 7]
@[go_sem] def r63_2 : List PO := [pK 4 0]
@[go_sem] def r63_6 : List PO := [pM 22 3,
 pA 2 22]
def c63 : PC := (.seq (.reg r63_0) (.seq (.reg r63_1) (.seq (.seq (.reg r63_2) (.block 0 (.pre ⟨[0, 3, 4], [.old 0], [], []⟩ (.loop k63_1b)))) (.seq (.reg r63_6) .ret))))
def i63 : FnI := ⟨23, [(.tmp 2)], c63, 0, [[4]], [[4]], false, false, 0, false⟩
@[go_sem] def r112_0 : List PO := [pX 1 140 0,
 ⟨(some 2), (.alloc 129), none⟩]
@[go_sem] def r112_1 : List PO := [⟨(some 3), (.alloc 129), none⟩]
@[go_sem] def r112_2 : List PO := [pF 4 140 1 0,
 pL 5 3 4,
 pF 6 129 3 0,
 ⟨none, (.store 3 (.tmp 6) (.tmp 5)), none⟩]
@[go_sem] def r112_3 : List PO := [pF 7 140 1 1,
 pL 8 3 7,
 pF 9 129 3 1,
 ⟨none, (.store 3 (.tmp 9) (.tmp 8)), none⟩]
@[go_sem] def r112_4 : List PO := [pL 10 129 3,
 ⟨none, (.store 129 (.tmp 2) (.tmp 10)), none⟩]
def c112 : PC := (.seq (.reg r112_0) (.seq (.reg r112_1) (.seq (.reg r112_2) (.seq (.reg r112_3) (.seq (.reg r112_4) .ret)))))
def i112 : FnI := ⟨11, [(.cell 2 129)], c112, 0, [[0, 0]], [[0, 0]], false, false, 0, false⟩
@[go_sem] def r64_3 : List PO := [pM 8 4,
 pM 9 0,
 pE 10 9 62,
 pO 11 .lss 3 8 10 3]
@[go_sem] def r64_5 : List PO := [pM 14 3,
 pM 15 4,
 pM 16 0,
 pM 17 4,
 pI 18 62 16 17,
 pL 19 140 18,
 pC 20 112 19 140,
 pI 21 70 14 15,
 ⟨none, (.store 129 (.tmp 21) (.tmp 20)), none⟩]
@[go_sem] def r64_4 : List PO := [pM 12 4,
 pB 13 .add 3 12 1 3,
 pA 4 13]
def k64_1b : PC := (.seq (.seq (.reg r64_3) (.cond (.tmp 11) .skip (.pre ⟨[3], [.old 0], [], []⟩ (.exit 0)))) (.seq (.block 1 (.reg r64_5)) (.post (.reg r64_4) ⟨[0, 3, 4], [.old 0], [], []⟩)))
@[go_sem] def r64_0 : List PO := [⟨(some 2), (.assign (.const (.slice none 0 0))), none⟩]
@[go_sem] def r64_1 : List PO := [pM 5 0,
 pE 6 5 62,
 ⟨(some 7), (.makeSlice 70 (.tmp 6) (.tmp 6)), none⟩,
 pA 3 7]
@[go_sem] def r64_2 : List PO := [pK 4 0]
@[go_sem] def r64_6 : List PO := [pM 22 3,
 pA 2 22]
def c64 : PC := (.seq (.reg r64_0) (.seq (.reg r64_1) (.seq (.seq (.reg r64_2) (.block 0 (.pre ⟨[0, 3, 4], [.old 0], [], []⟩ (.loop k64_1b)))) (.seq (.reg r64_6) .ret))))
def i64 : FnI := ⟨23, [(.tmp 2)], c64, 0, [[2]], [[2]], false, false, 0, false⟩
@[go_sem] def r19_0 : List PO := [pX 1 50 0,
 ⟨(some 2), (.alloc 53), none⟩]
@[go_sem] def r19_1 : List PO := [⟨(some 3), (.alloc 53), none⟩]
@[go_sem] def r19_2 : List PO := [pF 4 50 1 0,
 pL 5 3 4,
 pF 6 53 3 0,
 ⟨none, (.store 3 (.tmp 6) (.tmp 5)), none⟩]
@[go_sem] def r19_3 : List PO := [pF 7 50 1 1,
 pL 8 3 7,
 pF 9 53 3 1,
 ⟨none, (.store 3 (.tmp 9) (.tmp 8)), none⟩]
@[go_sem] def r19_4 : List PO := [pL 10 53 3,
 ⟨none, (.store 53 (.tmp 2) (.tmp 10)), none⟩]
def c19 : PC := (.seq (.reg r19_0) (.seq (.reg r19_1) (.seq (.reg r19_2) (.seq (.reg r19_3) (.seq (.reg r19_4) .ret)))))
def i19 : FnI := ⟨11, [(.cell 2 53)], c19, 0, [[0, 0]], [[0, 0]], false, false, 0, false⟩
@[go_sem] def r65_3 : List PO := [pM 8 4,
 pM 9 0,
 pE 10 9 63,
 pO 11 .lss 3 8 10 3]
@[go_sem] def r65_5 : List PO := [pM 14 3,
 pM 15 4,
 pM 16 0,
 pM 17 4,
 pI 18 63 16 17,
 pL 19 50 18,
 pC 20 19 19 50,
 pI 21 71 14 15,
 ⟨none, (.store 53 (.tmp 21) (.tmp 20)), none⟩]
@[go_sem] def r65_4 : List PO := [pM 12 4,
 pB 13 .add 3 12 1 3,
 pA 4 13]
def k65_1b : PC := (.seq (.seq (.reg r65_3) (.cond (.tmp 11) .skip (.pre ⟨[3], [.old 0], [], []⟩ (.exit 0)))) (.seq (.block 1 (.reg r65_5)) (.post (.reg r65_4) ⟨[0, 3, 4], [.old 0], [], []⟩)))
@[go_sem] def r65_0 : List PO := [⟨(some 2), (.assign (.const (.slice none 0 0))), none⟩]
@[go_sem] def r65_1 : List PO := [pM 5 0,
 pE 6 5 63,
 ⟨(some 7), (.makeSlice 71 (.tmp 6) (.tmp 6)), none⟩,
 pA 3 7]
@[go_sem] def r65_2 : List PO := [pK 4 0]
@[go_sem] def r65_6 : List PO := [pM 22 3,
 pA 2 22]
def c65 : PC := (.seq (.reg r65_0) (.seq (.reg r65_1) (.seq (.seq (.reg r65_2) (.block 0 (.pre ⟨[0, 3, 4], [.old 0], [], []⟩ (.loop k65_1b)))) (.seq (.reg r65_6) .ret))))
def i65 : FnI := ⟨23, [(.tmp 2)], c65, 0, [[2]], [[2]], false, false, 0, false⟩
@[go_sem] def r29_0 : List PO := [pX 1 65 0,
 ⟨(some 2), (.alloc 73), none⟩]
@[go_sem] def r29_1 : List PO := [⟨(some 3), (.alloc 73), none⟩]
@[go_sem] def r29_2 : List PO := [pF 4 65 1 0,
 pL 5 61 4,
 pC 6 63 5 61,
 pF 7 73 3 0,
 ⟨none, (.store 69 (.tmp 7) (.tmp 6)), none⟩]
@[go_sem] def r29_3 : List PO := [pF 8 65 1 1,
 pL 9 62 8,
 pC 10 64 9 62,
 pF 11 73 3 1,
 ⟨none, (.store 70 (.tmp 11) (.tmp 10)), none⟩]
@[go_sem] def r29_4 : List PO := [pF 12 65 1 2,
 pL 13 3 12,
 pF 14 73 3 2,
 ⟨none, (.store 3 (.tmp 14) (.tmp 13)), none⟩]
@[go_sem] def r29_5 : List PO := [pF 15 65 1 3,
 pL 16 63 15,
 pC 17 65 16 63,
 pF 18 73 3 3,
 ⟨none, (.store 71 (.tmp 18) (.tmp 17)), none⟩]
@[go_sem] def r29_6 : List PO := [pF 19 65 1 4,
 pL 20 3 19,
 pF 21 73 3 4,
 ⟨none, (.store 3 (.tmp 21) (.tmp 20)), none⟩]
@[go_sem] def r29_7 : List PO := [pL 22 73 3,
 ⟨none, (.store 73 (.tmp 2) (.tmp 22)), none⟩]
def c29 : PC := (.seq (.reg r29_0) (.seq (.reg r29_1) (.seq (.reg r29_2) (.seq (.reg r29_3) (.seq (.reg r29_4) (.seq (.reg r29_5) (.seq (.reg r29_6) (.seq (.reg r29_7) .ret))))))))
def i29 : FnI := ⟨23, [(.cell 2 73)], c29, 0, [[4, 2, 0, 2, 0]], [[4, 2, 0, 2, 0]], false, false, 0, false⟩
@[go_sem] def r74_3 : List PO := [pM 8 4,
 pM 9 0,
 pE 10 9 24,
 pO 11 .lss 3 8 10 3]
@[go_sem] def r74_5 : List PO := [pM 14 3,
 pM 15 4,
 pM 16 0,
 pM 17 4,
 pI 18 24 16 17,
 pL 19 3 18,
 pI 20 24 14 15,
 ⟨none, (.store 3 (.tmp 20) (.tmp 19)), none⟩]
@[go_sem] def r74_4 : List PO := [pM 12 4,
 pB 13 .add 3 12 1 3,
 pA 4 13]
def k74_1b : PC := (.seq (.seq (.reg r74_3) (.cond (.tmp 11) .skip (.pre ⟨[3], [.old 0], [], []⟩ (.exit 0)))) (.seq (.block 1 (.reg r74_5)) (.post (.reg r74_4) ⟨[0, 3, 4], [.old 0], [], []⟩)))
@[go_sem] def r74_0 : List PO := [⟨(some 2), (.assign (.const (.slice none 0 0))), none⟩]
@[go_sem] def r74_1 : List PO := [pM 5 0,
 pE 6 5 24,
 ⟨(some 7), (.makeSlice 24 (.tmp 6) (.tmp 6)), none⟩,
 pA 3 7]
@[go_sem] def r74_2 : List PO := [pK 4 0]
@[go_sem] def r74_6 : List PO := [pM 21 3,
 pA 2 21]
def c74 : PC := (.seq (.reg r74_0) (.seq (.reg r74_1) (.seq (.seq (.reg r74_2) (.block 0 (.pre ⟨[0, 3, 4], [.old 0], [], []⟩ (.loop k74_1b)))) (.seq (.reg r74_6) .ret))))
def i74 : FnI := ⟨22, [(.tmp 2)], c74, 0, [[1]], [[1]], false, false, 0, false⟩
@[go_sem] def r36_0 : List PO := [pX 1 26 0,
 ⟨(some 2), (.alloc 32), none⟩]
@[go_sem] def r36_1 : List PO := [⟨(some 3), (.alloc 32), none⟩]
@[go_sem] def r36_2 : List PO := [pF 4 26 1 0,
 pL 5 3 4,
 pF 6 32 3 0,
 ⟨none, (.store 3 (.tmp 6) (.tmp 5)), none⟩]
@[go_sem] def r36_3 : List PO := [pF 7 26 1 1,
 pL 8 24 7,
 pC 9 74 8 24,
 pF 10 32 3 1,
 ⟨none, (.store 24 (.tmp 10) (.tmp 9)), none⟩]
@[go_sem] def r36_4 : List PO := [pF 11 26 1 2,
 pL 12 3 11,
 pF 13 32 3 2,
 ⟨none, (.store 3 (.tmp 13) (.tmp 12)), none⟩]
@[go_sem] def r36_5 : List PO := [pF 14 26 1 3,
 pL 15 3 14,
 pF 16 32 3 3,
 ⟨none, (.store 3 (.tmp 16) (.tmp 15)), none⟩]
@[go_sem] def r36_6 : List PO := [pF 17 26 1 4,
 pL 18 3 17,
 pF 19 32 3 4,
 ⟨none, (.store 3 (.tmp 19) (.tmp 18)), none⟩]
@[go_sem] def r36_7 : List PO := [pF 20 26 1 5,
 pL 21 24 20,
 pC 22 74 21 24,
 pF 23 32 3 5,
 ⟨none, (.store 24 (.tmp 23) (.tmp 22)), none⟩]
@[go_sem] def r36_8 : List PO := [pL 24 32 3,
 ⟨none, (.store 32 (.tmp 2) (.tmp 24)), none⟩]
def c36 : PC := (.seq (.reg r36_0) (.seq (.reg r36_1) (.seq (.reg r36_2) (.seq (.reg r36_3) (.seq (.reg r36_4) (.seq (.reg r36_5) (.seq (.reg r36_6) (.seq (.reg r36_7) (.seq (.reg r36_8) .ret)))))))))
def i36 : FnI := ⟨25, [(.cell 2 32)], c36, 0, [[0, 1, 0, 0, 0, 1]], [[0, 1, 0, 0, 0, 1]], false, false, 0, false⟩
@[go_sem] def r10_0 : List PO := [pX 1 28 0,
 ⟨(some 2), (.alloc 34), none⟩]
@[go_sem] def r10_1 : List PO := [⟨(some 3), (.alloc 34), none⟩]
@[go_sem] def r10_2 : List PO := [pF 4 28 1 0,
 pL 5 23 4,
 pC 6 35 5 23,
 pF 7 34 3 0,
 ⟨none, (.store 31 (.tmp 7) (.tmp 6)), none⟩]
@[go_sem] def r10_3 : List PO := [pF 8 28 1 1,
 pL 9 26 8,
 pC 10 36 9 26,
 pF 11 34 3 1,
 ⟨none, (.store 32 (.tmp 11) (.tmp 10)), none⟩]
@[go_sem] def r10_4 : List PO := [pL 12 34 3,
 ⟨none, (.store 34 (.tmp 2) (.tmp 12)), none⟩]
def c10 : PC := (.seq (.reg r10_0) (.seq (.reg r10_1) (.seq (.reg r10_2) (.seq (.reg r10_3) (.seq (.reg r10_4) .ret)))))
def i10 : FnI := ⟨13, [(.cell 2 34)], c10, 0, [[0, 0, 0, 1, 0, 0, 0, 1]], [[0, 0, 0, 1, 0, 0, 0, 1]], false, false, 0, false⟩
@[go_sem] def r71_1 : List PO := [pM 7 0,
 pM 8 1,
 pO 9 .geq 3 7 8 3,
 pM 10 9,
 ⟨(some 11), (.move (.tmp 0)), (some (10, true))⟩,
 ⟨(some 12), (.move (.tmp 2)), (some (10, true))⟩,
 ⟨(some 13), (.binOp .leq 3 (.tmp 11) (.tmp 12) 3), (some (10, true))⟩,
 ⟨(some 14), (.pick (.tmp 10) (.tmp 13) (.const (.bool false))), none⟩,
 pA 6 14]
def k71_1 : PC := (.post (.reg r71_1) ⟨[6], [], [], []⟩)
@[go_sem] def r71_0 : List PO := [pN 6 false]
def c71 : PC := (.seq (.reg r71_0) (.seq (.pre ⟨[0, 1, 2], [], [], []⟩ k71_1) .ret))
def i71 : FnI := ⟨15, [(.tmp 6)], c71, 0, [[0], [0], [0]], [[0]], false, false, 0, false⟩
@[go_sem] def r72_0 : List PO := [pN 2 false]
@[go_sem] def r72_1 : List PO := [pM 3 0,
 ⟨(some 4), (.call { callee := (.value (.func 71)), args := #[(.tmp 3), (.const (.int .i64 0)), (.const (.int .i64 4294967295))], argTypes := #[3, 3, 3] }), none⟩,
 pA 2 4]
def c72 : PC := (.seq (.reg r72_0) (.seq (.reg r72_1) .ret))
def i72 : FnI := ⟨5, [(.tmp 2)], c72, 0, [[0]], [[0]], false, false, 0, false⟩
@[go_sem] def r73_0 : List PO := [pX 1 31 0,
 pK 2 0]
@[go_sem] def r73_1 : List PO := [pF 3 31 1 1,
 pL 4 3 3,
 ⟨(some 5), (.binOp .sub 3 (.const (.int .i64 32)) (.tmp 4) 3), none⟩,
 ⟨(some 6), (.convert 3 145 (.tmp 5)), none⟩,
 ⟨(some 7), (.binOp .shl 3 (.const (.int .i64 1)) (.tmp 6) 145), none⟩,
 pA 2 7]
def c73 : PC := (.seq (.reg r73_0) (.seq (.reg r73_1) .ret))
def i73 : FnI := ⟨8, [(.tmp 2)], c73, 0, [[0, 0]], [[0]], false, false, 0, false⟩
@[go_sem] def r33_1 : List PO := [pF 3 31 1 1,
 pL 4 3 3,
 ⟨(some 5), (.call { callee := (.value (.func 71)), args := #[(.tmp 4), (.const (.int .i64 0)), (.const (.int .i64 32))], argTypes := #[3, 3, 3] }), none⟩,
 pM 6 5,
 ⟨(some 7), (.fieldAddr 31 (.tmp 1) 0), (some (6, true))⟩,
 ⟨(some 8), (.load 3 (.tmp 7)), (some (6, true))⟩,
 ⟨(some 9), (.call { callee := (.value (.func 72)), args := #[(.tmp 8)], argTypes := #[3] }), (some (6, true))⟩,
 ⟨(some 10), (.pick (.tmp 6) (.tmp 9) (.const (.bool false))), none⟩,
 pM 11 10,
 ⟨(some 12), (.fieldAddr 31 (.tmp 1) 0), (some (11, true))⟩,
 ⟨(some 13), (.load 3 (.tmp 12)), (some (11, true))⟩,
 ⟨(some 14), (.load 31 (.tmp 1)), (some (11, true))⟩,
 ⟨(some 15), (.call { callee := (.value (.func 73)), args := #[(.tmp 14)], argTypes := #[31] }), (some (11, true))⟩,
 ⟨(some 16), (.binOp .rem 3 (.tmp 13) (.tmp 15) 3), (some (11, true))⟩,
 ⟨(some 17), (.binOp .eql 3 (.tmp 16) (.const (.int .i64 0)) 3), (some (11, true))⟩,
 ⟨(some 18), (.pick (.tmp 11) (.tmp 17) (.const (.bool false))), none⟩,
 pA 2 18]
def k33_1 : PC := (.post (.fz r33_1) ⟨[2], [], [], []⟩)
@[go_sem] def r33_0 : List PO := [pX 1 31 0,
 pN 2 false]
def c33 : PC := (.seq (.reg r33_0) (.seq (.pre ⟨[1], [.old 0], [], []⟩ k33_1) .ret))
def i33 : FnI := ⟨19, [(.tmp 2)], c33, 0, [[0, 0]], [[0]], false, false, 0, false⟩
@[go_sem] def r48_5 : List PO := [pB 9 .eql 3 4 4 3,
 pA 5 9]
def k48_3 : PC := (.cond (.tmp 5) (.post .skip ⟨[1, 5], [.old 0], [], []⟩) (.post (.reg r48_5) ⟨[1, 5], [.old 0], [], []⟩))
@[go_sem] def r48_4 : List PO := [pB 8 .eql 3 4 3 3,
 pA 5 8]
def k48_2 : PC := (.cond (.tmp 5) (.post .skip ⟨[1, 5], [.old 0], [], []⟩) (.seq (.reg r48_4) (.post (.pre ⟨[1, 4, 5], [.old 0], [], []⟩ k48_3) ⟨[1, 5], [.old 0], [], []⟩)))
@[go_sem] def r48_3 : List PO := [pB 7 .eql 3 4 2 3,
 pA 5 7]
def k48_1 : PC := (.cond (.tmp 5) (.post .skip ⟨[1, 5], [.old 0], [], []⟩) (.seq (.reg r48_3) (.post (.pre ⟨[1, 4, 5], [.old 0], [], []⟩ k48_2) ⟨[1, 5], [.old 0], [], []⟩)))
@[go_sem] def r48_7 : List PO := [pF 13 53 1 0,
 pL 14 3 13,
 pB 15 .eql 3 14 5 3,
 pM 16 15,
 ⟨(some 17), (.fieldAddr 53 (.tmp 1) 1), (some (16, true))⟩,
 ⟨(some 18), (.load 3 (.tmp 17)), (some (16, true))⟩,
 ⟨(some 19), (.call { callee := (.value (.func 71)), args := #[(.tmp 18), (.const (.int .i64 1)), (.const (.int .i64 65535))], argTypes := #[3, 3, 3] }), (some (16, true))⟩,
 ⟨(some 20), (.pick (.tmp 16) (.tmp 19) (.const (.bool false))), none⟩,
 pA 2 20]
def k48_4 : PC := (.post (.reg r48_7) ⟨[2], [], [], []⟩)
@[go_sem] def r48_0 : List PO := [pX 1 53 0,
 pN 2 false]
@[go_sem] def r48_1 : List PO := [pF 3 53 1 0,
 pL 4 3 3]
@[go_sem] def r48_2 : List PO := [pB 6 .eql 3 4 1 3,
 pA 5 6]
@[go_sem] def r48_6 : List PO := [pF 10 53 1 1,
 pL 11 3 10,
 ⟨(some 12), (.call { callee := (.value (.func 71)), args := #[(.tmp 11), (.const (.int .i64 0)), (.const (.int .i64 1000000))], argTypes := #[3, 3, 3] }), none⟩,
 pA 2 12]
def c48 : PC := (.seq (.reg r48_0) (.seq (.seq (.reg r48_1) (.block 0 (.seq (.seq (.reg r48_2) (.pre ⟨[1, 4, 5], [.old 0], [], []⟩ k48_1)) (.cond (.tmp 5) (.seq (.reg r48_6) .ret) .skip)))) (.seq (.pre ⟨[1], [.old 0], [], []⟩ k48_4) .ret)))
def i48 : FnI := ⟨21, [(.tmp 2)], c48, 0, [[0, 0]], [[0]], false, false, 0, false⟩
@[go_sem] def r154_5 : List PO := [pB 8 .eql 3 3 4 3,
 pA 4 8]
def k154_3 : PC := (.cond (.tmp 4) (.post .skip ⟨[3, 4], [], [], []⟩) (.post (.reg r154_5) ⟨[3, 4], [], [], []⟩))
@[go_sem] def r154_4 : List PO := [pB 7 .eql 3 3 3 3,
 pA 4 7]
def k154_2 : PC := (.cond (.tmp 4) (.post .skip ⟨[3, 4], [], [], []⟩) (.seq (.reg r154_4) (.post (.pre ⟨[3, 4], [], [], []⟩ k154_3) ⟨[3, 4], [], [], []⟩)))
@[go_sem] def r154_3 : List PO := [pB 6 .eql 3 3 2 3,
 pA 4 6]
def k154_1 : PC := (.cond (.tmp 4) (.post .skip ⟨[3, 4], [], [], []⟩) (.seq (.reg r154_3) (.post (.pre ⟨[3, 4], [], [], []⟩ k154_2) ⟨[3, 4], [], [], []⟩)))
@[go_sem] def r154_8 : List PO := [pB 11 .eql 3 3 6 3,
 pA 9 11]
def k154_4 : PC := (.cond (.tmp 9) (.post .skip ⟨[3, 9], [], [], []⟩) (.post (.reg r154_8) ⟨[3, 9], [], [], []⟩))
@[go_sem] def r154_0 : List PO := [pK 2 0]
@[go_sem] def r154_1 : List PO := [pM 3 0]
@[go_sem] def r154_2 : List PO := [pB 5 .eql 3 3 1 3,
 pA 4 5]
@[go_sem] def r154_6 : List PO := [pK 2 0]
@[go_sem] def r154_7 : List PO := [pB 10 .eql 3 3 5 3,
 pA 9 10]
@[go_sem] def r154_9 : List PO := [pK 2 2]
@[go_sem] def r154_10 : List PO := [pB 13 .eql 3 3 7 3,
 pA 12 13]
@[go_sem] def r154_11 : List PO := [pK 2 1]
@[go_sem] def r154_12 : List PO := [pK 2 (-1)]
def c154 : PC := (.seq (.reg r154_0) (.seq (.seq (.reg r154_1) (.block 0 (.seq (.seq (.reg r154_2) (.pre ⟨[3, 4], [], [], []⟩ k154_1)) (.cond (.tmp 4) (.seq (.reg r154_6) .ret) (.seq (.seq (.reg r154_7) (.pre ⟨[3, 9], [], [], []⟩ k154_4)) (.cond (.tmp 9) (.seq (.reg r154_9) .ret) (.seq (.reg r154_10) (.cond (.tmp 12) (.seq (.reg r154_11) .ret) .skip)))))))) (.seq (.reg r154_12) .ret)))
def i154 : FnI := ⟨14, [(.tmp 2)], c154, 0, [[0]], [[0]], false, false, 0, false⟩
@[go_sem] def r143_5 : List PO := [pM 23 7,
 pB 24 .lss 3 23 0 3,
 pM 25 24,
 ⟨(some 26), (.fieldAddr 129 (.tmp 6) 0), (some (25, false))⟩,
 ⟨(some 27), (.load 3 (.tmp 26)), (some (25, false))⟩,
 ⟨(some 28), (.binOp .eql 3 (.tmp 27) (.const (.int .i64 3)) 3), (some (25, false))⟩,
 ⟨(some 29), (.move (.tmp 28)), (some (25, false))⟩,
 ⟨(some 30), (.fieldAddr 129 (.tmp 6) 1), (some (29, true))⟩,
 ⟨(some 31), (.load 3 (.tmp 30)), (some (29, true))⟩,
 ⟨(some 32), (.call { callee := (.value (.func 71)), args := #[(.tmp 31), (.const (.int .i64 1)), (.const (.int .i64 65535))], argTypes := #[3, 3, 3] }), (some (29, true))⟩,
 ⟨(some 33), (.unOp .not 4 (.tmp 32)), (some (29, true))⟩,
 ⟨(some 34), (.pick (.tmp 29) (.tmp 33) (.const (.bool false))), (some (25, false))⟩,
 ⟨(some 35), (.pick (.tmp 25) (.const (.bool true)) (.tmp 34)), none⟩,
 pM 36 35,
 ⟨(some 37), (.fieldAddr 129 (.tmp 6) 0), (some (36, false))⟩,
 ⟨(some 38), (.load 3 (.tmp 37)), (some (36, false))⟩,
 ⟨(some 39), (.binOp .neq 3 (.tmp 38) (.const (.int .i64 3)) 3), (some (36, false))⟩,
 ⟨(some 40), (.move (.tmp 39)), (some (36, false))⟩,
 ⟨(some 41), (.fieldAddr 129 (.tmp 6) 1), (some (40, true))⟩,
 ⟨(some 42), (.load 3 (.tmp 41)), (some (40, true))⟩,
 ⟨(some 43), (.binOp .neq 3 (.tmp 42) (.const (.int .i64 0)) 3), (some (40, true))⟩,
 ⟨(some 44), (.pick (.tmp 40) (.tmp 43) (.const (.bool false))), (some (36, false))⟩,
 ⟨(some 45), (.pick (.tmp 36) (.const (.bool true)) (.tmp 44)), none⟩]
def k143_1 : PC := (.post (.reg r143_5) ⟨[0, 1, 4, 6, 7, 45], [.old 0, .old 1, .old 2], [], []⟩)
@[go_sem] def r143_9 : List PO := [pM 54 7,
 pB 55 .gtr 3 54 0 3]
@[go_sem] def r143_11 : List PO := [pM 59 0,
 pM 60 1,
 pC2 61 143 59 60 70 3,
 pM 58 61,
 ⟨(some 62), (.extract (.tmp 58) 0), none⟩,
 ⟨(some 63), (.extract (.tmp 58) 1), none⟩,
 ⟨(some 9), (.alloc 149), none⟩,
 ⟨none, (.store 149 (.tmp 9) (.tmp 62)), none⟩,
 pA 10 63]
@[go_sem] def r143_12 : List PO := [pM 64 10,
 pB 65 .eql 3 64 0 3]
@[go_sem] def r143_13 : List PO := [⟨(some 66), (.build 149 #[]), none⟩,
 ⟨none, (.store 149 (.tmp 4) (.tmp 66)), none⟩,
 pK 5 0]
@[go_sem] def r143_14 : List PO := [pF 67 149 8 2,
 pL 68 147 67,
 pL 69 149 9,
 ⟨(some 70), (.buildSlice 147 1 #[(0, (.tmp 69))]), none⟩,
 ⟨(some 71), (.call { callee := (.builtin .append), args := #[(.tmp 68), (.tmp 70)], argTypes := #[147, 147] }), none⟩,
 pF 72 149 8 2,
 ⟨none, (.store 147 (.tmp 72) (.tmp 71)), none⟩]
@[go_sem] def r143_15 : List PO := [pM 73 10,
 pA 1 73]
@[go_sem] def r143_10 : List PO := [pM 56 7,
 pB 57 .sub 3 56 1 3,
 pA 7 57]
def k143_2b : PC := (.seq (.seq (.reg r143_9) (.cond (.tmp 55) .skip (.pre ⟨[1, 4, 8], [.old 0, .old 1, .old 2, .old 3], [], []⟩ (.exit 0)))) (.seq (.block 1 (.seq (.reg r143_11) (.seq (.seq (.reg r143_12) (.cond (.tmp 65) (.seq (.reg r143_13) (.pre ⟨[4, 5], [.old 0, .nilB 0 2 3], [], []⟩ .ret)) .skip)) (.seq (.reg r143_14) (.reg r143_15))))) (.post (.reg r143_10) ⟨[0, 1, 4, 7, 8], [.old 0, .old 1, .old 2, .old 7], [], []⟩)))
@[go_sem] def r143_0 : List PO := [⟨(some 4), (.alloc 149), none⟩,
 pK 5 0]
@[go_sem] def r143_1 : List PO := [pM 11 1,
 pM 12 0,
 pE 13 12 70,
 pO 14 .geq 3 11 13 3]
@[go_sem] def r143_2 : List PO := [⟨(some 15), (.build 149 #[]), none⟩,
 ⟨none, (.store 149 (.tmp 4) (.tmp 15)), none⟩,
 pK 5 0]
@[go_sem] def r143_3 : List PO := [pM 16 0,
 pM 17 1,
 pI 18 70 16 17,
 pL 19 129 18,
 ⟨(some 6), (.alloc 129), none⟩,
 ⟨none, (.store 129 (.tmp 6) (.tmp 19)), none⟩]
@[go_sem] def r143_4 : List PO := [pF 20 129 6 0,
 pL 21 3 20,
 pC 22 154 21 3,
 pA 7 22]
@[go_sem] def r143_6 : List PO := [⟨(some 46), (.build 149 #[]), none⟩,
 ⟨none, (.store 149 (.tmp 4) (.tmp 46)), none⟩,
 pK 5 0]
@[go_sem] def r143_7 : List PO := [pF 47 129 6 0,
 pL 48 3 47,
 pF 49 129 6 1,
 pL 50 3 49,
 ⟨(some 51), (.build 149 #[(0, (.tmp 48)), (1, (.tmp 50))]), none⟩,
 ⟨(some 8), (.alloc 149), none⟩,
 ⟨none, (.store 149 (.tmp 8) (.tmp 51)), none⟩]
@[go_sem] def r143_8 : List PO := [pM 52 1,
 pB 53 .add 3 52 1 3,
 pA 1 53]
@[go_sem] def r143_16 : List PO := [pL 74 149 8,
 pM 75 1,
 ⟨none, (.store 149 (.tmp 4) (.tmp 74)), none⟩,
 pA 5 75]
def c143 : PC := (.seq (.reg r143_0) (.seq (.seq (.reg r143_1) (.cond (.tmp 14) (.seq (.reg r143_2) .ret) .skip)) (.seq (.reg r143_3) (.seq (.reg r143_4) (.seq (.seq (.pre ⟨[0, 1, 4, 6, 7], [.old 0, .nilB 0 2 3, .old 1], [], []⟩ k143_1) (.cond (.tmp 45) (.seq (.reg r143_6) .ret) .skip)) (.seq (.reg r143_7) (.seq (.reg r143_8) (.seq (.block 0 (.pre ⟨[0, 1, 4, 7, 8], [.old 0, .old 1, .old 3, .nilB 3 2 3], [], []⟩ (.loop k143_2b))) (.seq (.reg r143_16) .ret)))))))))
def i143 : FnI := ⟨76, [(.cell 4 149), (.tmp 5)], c143, 0, [[2], [0]], [[0, 0, 3], [0]], false, false, 0, false⟩
@[go_sem] def r122_4 : List PO := [pL 15 149 4,
 pM 16 5,
 pB 17 .gtr 3 16 0 3,
 pM 18 17,
 ⟨(some 19), (.move (.tmp 5)), (some (18, true))⟩,
 ⟨(some 20), (.move (.tmp 0)), (some (18, true))⟩,
 ⟨(some 21), (.call { callee := (.builtin .len), args := #[(.tmp 20)], argTypes := #[70] }), (some (18, true))⟩,
 ⟨(some 22), (.binOp .eql 3 (.tmp 19) (.tmp 21) 3), (some (18, true))⟩,
 ⟨(some 23), (.pick (.tmp 18) (.tmp 22) (.const (.bool false))), none⟩,
 ⟨none, (.store 149 (.tmp 2) (.tmp 15)), none⟩,
 pA 3 23]
def k122_1 : PC := (.post (.reg r122_4) ⟨[2, 3], [.old 0, .old 3], [], []⟩)
@[go_sem] def r122_0 : List PO := [⟨(some 2), (.alloc 149), none⟩,
 pN 3 false]
@[go_sem] def r122_1 : List PO := [pM 6 0,
 pE 7 6 70,
 pB 8 .gtr 3 7 30 3]
@[go_sem] def r122_2 : List PO := [⟨(some 9), (.build 149 #[]), none⟩,
 ⟨none, (.store 149 (.tmp 2) (.tmp 9)), none⟩,
 pN 3 false]
@[go_sem] def r122_3 : List PO := [pM 11 0,
 ⟨(some 12), (.call { callee := (.value (.func 143)), args := #[(.tmp 11), (.const (.int .i64 0))], argTypes := #[70, 3] }), none⟩,
 pM 10 12,
 ⟨(some 13), (.extract (.tmp 10) 0), none⟩,
 ⟨(some 14), (.extract (.tmp 10) 1), none⟩,
 ⟨(some 4), (.alloc 149), none⟩,
 ⟨none, (.store 149 (.tmp 4) (.tmp 13)), none⟩,
 pA 5 14]
def c122 : PC := (.seq (.reg r122_0) (.seq (.seq (.reg r122_1) (.cond (.tmp 8) (.seq (.reg r122_2) .ret) .skip)) (.seq (.reg r122_3) (.seq (.pre ⟨[0, 2, 4, 5], [.old 0, .nilB 0 2 3, .old 2, .old 1], [], []⟩ k122_1) .ret))))
def i122 : FnI := ⟨24, [(.cell 2 149), (.tmp 3)], c122, 0, [[2]], [[0, 0, 3], [0]], false, false, 0, false⟩
@[go_sem] def r82_0 : List PO := [pN 2 false]
@[go_sem] def r82_1 : List PO := [pM 6 0,
 pC 7 122 6 70,
 pM 5 7,
 ⟨(some 8), (.extract (.tmp 5) 0), none⟩,
 ⟨(some 9), (.extract (.tmp 5) 1), none⟩,
 ⟨(some 3), (.alloc 149), none⟩,
 ⟨none, (.store 149 (.tmp 3) (.tmp 8)), none⟩,
 pA 4 9]
@[go_sem] def r82_2 : List PO := [pM 10 4,
 pA 2 10]
def c82 : PC := (.seq (.reg r82_0) (.seq (.reg r82_1) (.seq (.reg r82_2) .ret)))
def i82 : FnI := ⟨11, [(.tmp 2)], c82, 0, [[2]], [[0]], false, false, 0, false⟩
@[go_sem] def r42_4 : List PO := [pF 14 114 4 0,
 pL 15 31 14,
 pC 16 33 15 31,
 ⟨(some 17), (.unOp .not 4 (.tmp 16)), none⟩,
 pM 18 17,
 ⟨(some 19), (.fieldAddr 114 (.tmp 4) 1), (some (18, false))⟩,
 ⟨(some 20), (.load 3 (.tmp 19)), (some (18, false))⟩,
 ⟨(some 21), (.fieldAddr 114 (.tmp 4) 0), (some (18, false))⟩,
 ⟨(some 22), (.fieldAddr 31 (.tmp 21) 1), (some (18, false))⟩,
 ⟨(some 23), (.load 3 (.tmp 22)), (some (18, false))⟩,
 ⟨(some 24), (.call { callee := (.value (.func 71)), args := #[(.tmp 20), (.tmp 23), (.const (.int .i64 32))], argTypes := #[3, 3, 3] }), (some (18, false))⟩,
 ⟨(some 25), (.unOp .not 4 (.tmp 24)), (some (18, false))⟩,
 ⟨(some 26), (.pick (.tmp 18) (.const (.bool true)) (.tmp 25)), none⟩,
 pM 27 26,
 ⟨(some 28), (.fieldAddr 114 (.tmp 4) 2), (some (27, false))⟩,
 ⟨(some 29), (.load 3 (.tmp 28)), (some (27, false))⟩,
 ⟨(some 30), (.fieldAddr 114 (.tmp 4) 1), (some (27, false))⟩,
 ⟨(some 31), (.load 3 (.tmp 30)), (some (27, false))⟩,
 ⟨(some 32), (.call { callee := (.value (.func 71)), args := #[(.tmp 29), (.tmp 31), (.const (.int .i64 32))], argTypes := #[3, 3, 3] }), (some (27, false))⟩,
 ⟨(some 33), (.unOp .not 4 (.tmp 32)), (some (27, false))⟩,
 ⟨(some 34), (.pick (.tmp 27) (.const (.bool true)) (.tmp 33)), none⟩]
def k42_3 : PC := (.post (.reg r42_4) ⟨[1, 8, 9, 10, 34], [.old 0], [], []⟩)
@[go_sem] def r42_2 : List PO := [pO 11 .lss 3 10 9 3]
@[go_sem] def r42_3 : List PO := [pI 12 69 8 10,
 pL 13 114 12,
 ⟨(some 4), (.alloc 114), none⟩,
 ⟨none, (.store 114 (.tmp 4) (.tmp 13)), none⟩]
@[go_sem] def r42_5 : List PO := [pN 2 false]
@[go_sem] def r42_6 : List PO := [pB 35 .add 3 10 1 3,
 pM 10 35]
def k42_1b : PC := (.seq (.reg r42_2) (.seq (.cond (.tmp 11) .skip (.pre ⟨[1], [.old 0], [], []⟩ (.exit 0))) (.seq (.block 1 (.seq (.reg r42_3) (.seq (.pre ⟨[1, 4, 8, 9, 10], [.old 0, .old 1], [], []⟩ k42_3) (.cond (.tmp 34) (.seq (.reg r42_5) (.pre ⟨[2], [], [], []⟩ .ret)) .skip)))) (.post (.reg r42_6) ⟨[1, 8, 9, 10], [.old 0], [], []⟩))))
@[go_sem] def r42_8 : List PO := [pO 40 .lss 3 39 38 3]
@[go_sem] def r42_9 : List PO := [pI 41 71 37 39,
 pL 42 53 41,
 ⟨(some 6), (.alloc 53), none⟩,
 ⟨none, (.store 53 (.tmp 6) (.tmp 42)), none⟩]
@[go_sem] def r42_10 : List PO := [pL 43 53 6,
 pC 44 48 43 53,
 ⟨(some 45), (.unOp .not 4 (.tmp 44)), none⟩]
@[go_sem] def r42_11 : List PO := [pN 2 false]
@[go_sem] def r42_12 : List PO := [pB 46 .add 3 39 1 3,
 pM 39 46]
def k42_4b : PC := (.seq (.reg r42_8) (.seq (.cond (.tmp 40) .skip (.pre ⟨[1], [.old 0], [], []⟩ (.exit 2))) (.seq (.block 3 (.seq (.reg r42_9) (.seq (.reg r42_10) (.cond (.tmp 45) (.seq (.reg r42_11) (.pre ⟨[2], [], [], []⟩ .ret)) .skip)))) (.post (.reg r42_12) ⟨[1, 37, 38, 39], [.old 0], [], []⟩))))
@[go_sem] def r42_13 : List PO := [pF 47 73 1 0,
 pL 48 69 47,
 pE 49 48 69,
 pB 50 .leq 3 49 6 3,
 pM 51 50,
 ⟨(some 52), (.fieldAddr 73 (.tmp 1) 3), (some (51, true))⟩,
 ⟨(some 53), (.load 71 (.tmp 52)), (some (51, true))⟩,
 ⟨(some 54), (.call { callee := (.builtin .len), args := #[(.tmp 53)], argTypes := #[71] }), (some (51, true))⟩,
 ⟨(some 55), (.binOp .leq 3 (.tmp 54) (.const (.int .i64 5)) 3), (some (51, true))⟩,
 ⟨(some 56), (.pick (.tmp 51) (.tmp 55) (.const (.bool false))), none⟩,
 pM 57 56,
 ⟨(some 58), (.fieldAddr 73 (.tmp 1) 1), (some (57, true))⟩,
 ⟨(some 59), (.load 70 (.tmp 58)), (some (57, true))⟩,
 ⟨(some 60), (.call { callee := (.builtin .len), args := #[(.tmp 59)], argTypes := #[70] }), (some (57, true))⟩,
 ⟨(some 61), (.binOp .eql 3 (.tmp 60) (.const (.int .i64 0)) 3), (some (57, true))⟩,
 ⟨(some 62), (.move (.tmp 61)), (some (57, true))⟩,
 ⟨(some 63), (.fieldAddr 73 (.tmp 1) 1), (some (62, false))⟩,
 ⟨(some 64), (.load 70 (.tmp 63)), (some (62, false))⟩,
 ⟨(some 65), (.call { callee := (.value (.func 82)), args := #[(.tmp 64)], argTypes := #[70] }), (some (62, false))⟩,
 ⟨(some 66), (.pick (.tmp 62) (.const (.bool true)) (.tmp 65)), (some (57, true))⟩,
 ⟨(some 67), (.pick (.tmp 57) (.tmp 66) (.const (.bool false))), none⟩,
 pM 68 67,
 ⟨(some 69), (.fieldAddr 73 (.tmp 1) 2), (some (68, true))⟩,
 ⟨(some 70), (.load 3 (.tmp 69)), (some (68, true))⟩,
 ⟨(some 71), (.call { callee := (.value (.func 71)), args := #[(.tmp 70), (.const (.int .i64 (-1))), (.const (.int .i64 1000000))], argTypes := #[3, 3, 3] }), (some (68, true))⟩,
 ⟨(some 72), (.pick (.tmp 68) (.tmp 71) (.const (.bool false))), none⟩,
 pM 73 72,
 ⟨(some 74), (.fieldAddr 73 (.tmp 1) 4), (some (73, true))⟩,
 ⟨(some 75), (.load 3 (.tmp 74)), (some (73, true))⟩,
 ⟨(some 76), (.call { callee := (.value (.func 71)), args := #[(.tmp 75), (.const (.int .i64 0)), (.const (.int .i64 2))], argTypes := #[3, 3, 3] }), (some (73, true))⟩,
 ⟨(some 77), (.pick (.tmp 73) (.tmp 76) (.const (.bool false))), none⟩,
 pA 2 77]
def k42_5 : PC := (.post (.reg r42_13) ⟨[2], [], [], []⟩)
@[go_sem] def r42_0 : List PO := [pX 1 73 0,
 pN 2 false]
@[go_sem] def r42_1 : List PO := [pF 7 73 1 0,
 pL 8 69 7,
 pE 9 8 69,
 ⟨(some 10), (.move (.const (.int .i64 0))), none⟩]
@[go_sem] def r42_7 : List PO := [pF 36 73 1 3,
 pL 37 71 36,
 pE 38 37 71,
 ⟨(some 39), (.move (.const (.int .i64 0))), none⟩]
def c42 : PC := (.seq (.reg r42_0) (.seq (.seq (.reg r42_1) (.block 0 (.pre ⟨[1, 8, 9, 10], [.old 0], [], []⟩ (.loop k42_1b)))) (.seq (.seq (.reg r42_7) (.block 2 (.pre ⟨[1, 37, 38, 39], [.old 0], [], []⟩ (.loop k42_4b)))) (.seq (.pre ⟨[1], [.old 0], [], []⟩ k42_5) .ret))))
def i42 : FnI := ⟨78, [(.tmp 2)], c42, 0, [[4, 2, 0, 2, 0]], [[0]], false, false, 0, false⟩
@[go_sem] def r34_2 : List PO := [pO 11 .lss 3 10 9 3]
@[go_sem] def r34_3 : List PO := [pI 12 24 8 10,
 pL 13 3 12,
 pA 4 13]
@[go_sem] def r34_4 : List PO := [pM 14 4,
 ⟨(some 15), (.call { callee := (.value (.func 71)), args := #[(.tmp 14), (.const (.int .i64 1)), (.const (.int .i64 65535))], argTypes := #[3, 3, 3] }), none⟩,
 ⟨(some 16), (.unOp .not 4 (.tmp 15)), none⟩]
@[go_sem] def r34_5 : List PO := [pN 2 false]
@[go_sem] def r34_6 : List PO := [pB 17 .add 3 10 1 3,
 pM 10 17]
def k34_1b : PC := (.seq (.reg r34_2) (.seq (.cond (.tmp 11) .skip (.pre ⟨[1], [.old 0], [], []⟩ (.exit 0))) (.seq (.block 1 (.seq (.reg r34_3) (.seq (.reg r34_4) (.cond (.tmp 16) (.seq (.reg r34_5) (.pre ⟨[2], [], [], []⟩ .ret)) .skip)))) (.post (.reg r34_6) ⟨[1, 8, 9, 10], [.old 0], [], []⟩))))
@[go_sem] def r34_10 : List PO := [pM 26 6,
 ⟨(some 27), (.call { callee := (.value (.func 71)), args := #[(.tmp 26), (.const (.int .i64 0)), (.const (.int .i64 1000000))], argTypes := #[3, 3, 3] }), none⟩,
 ⟨(some 28), (.unOp .not 4 (.tmp 27)), none⟩,
 pM 29 28,
 ⟨(some 30), (.move (.tmp 5)), (some (29, false))⟩,
 ⟨(some 31), (.binOp .gtr 3 (.tmp 30) (.const (.int .i64 0)) 3), (some (29, false))⟩,
 ⟨(some 32), (.move (.tmp 31)), (some (29, false))⟩,
 ⟨(some 33), (.fieldAddr 32 (.tmp 1) 5), (some (32, true))⟩,
 ⟨(some 34), (.load 24 (.tmp 33)), (some (32, true))⟩,
 ⟨(some 35), (.move (.tmp 5)), (some (32, true))⟩,
 ⟨(some 36), (.binOp .sub 3 (.tmp 35) (.const (.int .i64 1)) 3), (some (32, true))⟩,
 ⟨(some 37), (.indexAddr 24 (.tmp 34) (.tmp 36)), (some (32, true))⟩,
 ⟨(some 38), (.load 3 (.tmp 37)), (some (32, true))⟩,
 ⟨(some 39), (.move (.tmp 6)), (some (32, true))⟩,
 ⟨(some 40), (.binOp .geq 3 (.tmp 38) (.tmp 39) 3), (some (32, true))⟩,
 ⟨(some 41), (.pick (.tmp 32) (.tmp 40) (.const (.bool false))), (some (29, false))⟩,
 ⟨(some 42), (.pick (.tmp 29) (.const (.bool true)) (.tmp 41)), none⟩]
def k34_4 : PC := (.post (.reg r34_10) ⟨[1, 19, 20, 21, 42], [.old 0], [], []⟩)
@[go_sem] def r34_8 : List PO := [pO 22 .lss 3 21 20 3]
@[go_sem] def r34_9 : List PO := [pM 23 21,
 pI 24 24 19 21,
 pL 25 3 24,
 pA 5 23,
 pA 6 25]
@[go_sem] def r34_11 : List PO := [pN 2 false]
@[go_sem] def r34_12 : List PO := [pB 43 .add 3 21 1 3,
 pM 21 43]
def k34_2b : PC := (.seq (.reg r34_8) (.seq (.cond (.tmp 22) .skip (.pre ⟨[1], [.old 0], [], []⟩ (.exit 2))) (.seq (.block 3 (.seq (.reg r34_9) (.seq (.pre ⟨[1, 5, 6, 19, 20, 21], [.old 0], [], []⟩ k34_4) (.cond (.tmp 42) (.seq (.reg r34_11) (.pre ⟨[2], [], [], []⟩ .ret)) .skip)))) (.post (.reg r34_12) ⟨[1, 19, 20, 21], [.old 0], [], []⟩))))
@[go_sem] def r34_13 : List PO := [pF 44 32 1 0,
 pL 45 3 44,
 ⟨(some 46), (.call { callee := (.value (.func 71)), args := #[(.tmp 45), (.const (.int .i64 0)), (.const (.int .i64 2))], argTypes := #[3, 3, 3] }), none⟩,
 pM 47 46,
 ⟨(some 48), (.fieldAddr 32 (.tmp 1) 1), (some (47, true))⟩,
 ⟨(some 49), (.load 24 (.tmp 48)), (some (47, true))⟩,
 ⟨(some 50), (.call { callee := (.builtin .len), args := #[(.tmp 49)], argTypes := #[24] }), (some (47, true))⟩,
 ⟨(some 51), (.binOp .leq 3 (.tmp 50) (.const (.int .i64 10)) 3), (some (47, true))⟩,
 ⟨(some 52), (.pick (.tmp 47) (.tmp 51) (.const (.bool false))), none⟩,
 pM 53 52,
 ⟨(some 54), (.fieldAddr 32 (.tmp 1) 2), (some (53, true))⟩,
 ⟨(some 55), (.load 3 (.tmp 54)), (some (53, true))⟩,
 ⟨(some 56), (.call { callee := (.value (.func 72)), args := #[(.tmp 55)], argTypes := #[3] }), (some (53, true))⟩,
 ⟨(some 57), (.pick (.tmp 53) (.tmp 56) (.const (.bool false))), none⟩,
 pM 58 57,
 ⟨(some 59), (.fieldAddr 32 (.tmp 1) 3), (some (58, true))⟩,
 ⟨(some 60), (.load 3 (.tmp 59)), (some (58, true))⟩,
 ⟨(some 61), (.call { callee := (.value (.func 71)), args := #[(.tmp 60), (.const (.int .i64 0)), (.const (.int .i64 1000000))], argTypes := #[3, 3, 3] }), (some (58, true))⟩,
 ⟨(some 62), (.pick (.tmp 58) (.tmp 61) (.const (.bool false))), none⟩,
 pM 63 62,
 ⟨(some 64), (.fieldAddr 32 (.tmp 1) 4), (some (63, true))⟩,
 ⟨(some 65), (.load 3 (.tmp 64)), (some (63, true))⟩,
 ⟨(some 66), (.call { callee := (.value (.func 71)), args := #[(.tmp 65), (.const (.int .i64 0)), (.const (.int .i64 1000000))], argTypes := #[3, 3, 3] }), (some (63, true))⟩,
 ⟨(some 67), (.pick (.tmp 63) (.tmp 66) (.const (.bool false))), none⟩,
 pM 68 67,
 ⟨(some 69), (.fieldAddr 32 (.tmp 1) 5), (some (68, true))⟩,
 ⟨(some 70), (.load 24 (.tmp 69)), (some (68, true))⟩,
 ⟨(some 71), (.call { callee := (.builtin .len), args := #[(.tmp 70)], argTypes := #[24] }), (some (68, true))⟩,
 ⟨(some 72), (.binOp .leq 3 (.tmp 71) (.const (.int .i64 6)) 3), (some (68, true))⟩,
 ⟨(some 73), (.pick (.tmp 68) (.tmp 72) (.const (.bool false))), none⟩,
 pA 2 73]
def k34_5 : PC := (.post (.reg r34_13) ⟨[2], [], [], []⟩)
@[go_sem] def r34_0 : List PO := [pX 1 32 0,
 pN 2 false]
@[go_sem] def r34_1 : List PO := [pF 7 32 1 1,
 pL 8 24 7,
 pE 9 8 24,
 ⟨(some 10), (.move (.const (.int .i64 0))), none⟩]
@[go_sem] def r34_7 : List PO := [pF 18 32 1 5,
 pL 19 24 18,
 pE 20 19 24,
 ⟨(some 21), (.move (.const (.int .i64 0))), none⟩]
def c34 : PC := (.seq (.reg r34_0) (.seq (.seq (.reg r34_1) (.block 0 (.pre ⟨[1, 8, 9, 10], [.old 0], [], []⟩ (.loop k34_1b)))) (.seq (.seq (.reg r34_7) (.block 2 (.pre ⟨[1, 19, 20, 21], [.old 0], [], []⟩ (.loop k34_2b)))) (.seq (.pre ⟨[1], [.old 0], [], []⟩ k34_5) .ret))))
def i34 : FnI := ⟨74, [(.tmp 2)], c34, 0, [[0, 1, 0, 0, 0, 1]], [[0]], false, false, 0, false⟩
@[go_sem] def r9_1 : List PO := [pF 3 34 1 0,
 pL 4 31 3,
 pC 5 33 4 31,
 pM 6 5,
 ⟨(some 7), (.fieldAddr 34 (.tmp 1) 1), (some (6, true))⟩,
 ⟨(some 8), (.load 32 (.tmp 7)), (some (6, true))⟩,
 ⟨(some 9), (.call { callee := (.value (.func 34)), args := #[(.tmp 8)], argTypes := #[32] }), (some (6, true))⟩,
 ⟨(some 10), (.pick (.tmp 6) (.tmp 9) (.const (.bool false))), none⟩,
 pA 2 10]
def k9_1 : PC := (.post (.reg r9_1) ⟨[2], [], [], []⟩)
@[go_sem] def r9_0 : List PO := [pX 1 34 0,
 pN 2 false]
def c9 : PC := (.seq (.reg r9_0) (.seq (.pre ⟨[1], [.old 0], [], []⟩ k9_1) .ret))
def i9 : FnI := ⟨11, [(.tmp 2)], c9, 0, [[0, 0, 0, 1, 0, 0, 0, 1]], [[0]], false, false, 0, false⟩
@[go_sem] def r134_0 : List PO := [pX 2 31 0,
 pN 4 false]
@[go_sem] def r134_1 : List PO := [pM 5 1,
 pM 6 1,
 pL 7 31 2,
 pC 8 73 7 31,
 pO 9 .rem 3 6 8 3,
 pO 10 .sub 3 5 9 3,
 pF 11 31 2 0,
 pL 12 3 11,
 pO 13 .eql 3 10 12 3,
 pA 4 13]
def c134 : PC := (.seq (.reg r134_0) (.seq (.fz r134_1) .ret))
def i134 : FnI := ⟨14, [(.tmp 4)], c134, 0, [[0, 0], [0]], [[0]], false, false, 0, false⟩
@[go_sem] def r108_1 : List PO := [pF 5 31 2 1,
 pL 6 3 5,
 pF 7 31 3 1,
 pL 8 3 7,
 pO 9 .leq 3 6 8 3,
 pM 10 9,
 ⟨(some 11), (.load 31 (.tmp 2)), (some (10, true))⟩,
 ⟨(some 12), (.fieldAddr 31 (.tmp 3) 0), (some (10, true))⟩,
 ⟨(some 13), (.load 3 (.tmp 12)), (some (10, true))⟩,
 ⟨(some 14), (.call { callee := (.value (.func 134)), args := #[(.tmp 11), (.tmp 13)], argTypes := #[31, 3] }), (some (10, true))⟩,
 ⟨(some 15), (.pick (.tmp 10) (.tmp 14) (.const (.bool false))), none⟩,
 pA 4 15]
def k108_1 : PC := (.post (.reg r108_1) ⟨[4], [], [], []⟩)
@[go_sem] def r108_0 : List PO := [pX 2 31 0,
 pX 3 31 1,
 pN 4 false]
def c108 : PC := (.seq (.reg r108_0) (.seq (.pre ⟨[2, 3], [.old 0, .old 1], [], []⟩ k108_1) .ret))
def i108 : FnI := ⟨16, [(.tmp 4)], c108, 0, [[0, 0], [0, 0]], [[0]], false, false, 0, false⟩
@[go_sem] def r135_2 : List PO := [pO 8 .lss 3 7 6 3]
@[go_sem] def r135_3 : List PO := [pI 9 24 5 7,
 pL 10 3 9,
 pA 4 10]
@[go_sem] def r135_4 : List PO := [pM 11 4,
 ⟨(some 12), (.call { callee := (.value (.func 71)), args := #[(.tmp 11), (.const (.int .i64 1)), (.const (.int .i64 65535))], argTypes := #[3, 3, 3] }), none⟩,
 ⟨(some 13), (.unOp .not 4 (.tmp 12)), none⟩]
@[go_sem] def r135_5 : List PO := [pN 2 false]
@[go_sem] def r135_6 : List PO := [pB 14 .add 3 7 1 3,
 pM 7 14]
def k135_1b : PC := (.seq (.reg r135_2) (.seq (.cond (.tmp 8) .skip (.pre ⟨[0], [], [], []⟩ (.exit 0))) (.seq (.block 1 (.seq (.reg r135_3) (.seq (.reg r135_4) (.cond (.tmp 13) (.seq (.reg r135_5) (.pre ⟨[2], [], [], []⟩ .ret)) .skip)))) (.post (.reg r135_6) ⟨[0, 5, 6, 7], [], [], []⟩))))
@[go_sem] def r135_0 : List PO := [pN 2 false]
@[go_sem] def r135_1 : List PO := [pM 5 0,
 pE 6 5 24,
 ⟨(some 7), (.move (.const (.int .i64 0))), none⟩]
@[go_sem] def r135_7 : List PO := [pM 15 0,
 pE 16 15 24,
 pB 17 .leq 3 16 10 3,
 pA 2 17]
def c135 : PC := (.seq (.reg r135_0) (.seq (.seq (.reg r135_1) (.block 0 (.pre ⟨[0, 5, 6, 7], [], [], []⟩ (.loop k135_1b)))) (.seq (.reg r135_7) .ret)))
def i135 : FnI := ⟨18, [(.tmp 2)], c135, 0, [[1]], [[0]], false, false, 0, false⟩
@[go_sem] def r90_2 : List PO := [pM 7 5,
 pM 8 0,
 pE 9 8 24,
 pO 10 .lss 3 7 9 3,
 pM 11 10,
 ⟨(some 12), (.move (.tmp 0)), (some (11, true))⟩,
 ⟨(some 13), (.move (.tmp 5)), (some (11, true))⟩,
 ⟨(some 14), (.indexAddr 24 (.tmp 12) (.tmp 13)), (some (11, true))⟩,
 ⟨(some 15), (.load 3 (.tmp 14)), (some (11, true))⟩,
 ⟨(some 16), (.move (.tmp 1)), (some (11, true))⟩,
 ⟨(some 17), (.binOp .lss 3 (.tmp 15) (.tmp 16) 3), (some (11, true))⟩,
 ⟨(some 18), (.pick (.tmp 11) (.tmp 17) (.const (.bool false))), none⟩]
def k90_3 : PC := (.post (.reg r90_2) ⟨[0, 1, 5, 18], [.old 1], [0], []⟩)
@[go_sem] def r90_3 : List PO := [pM 19 5,
 pB 20 .add 3 19 1 3,
 pA 5 20]
def k90_1b : PC := (.seq (.seq (.pre ⟨[0, 1, 5], [.old 1], [0], []⟩ k90_3) (.cond (.tmp 18) .skip (.pre ⟨[0, 1, 5], [.old 1], [0], []⟩ (.exit 0)))) (.block 1 (.post (.reg r90_3) ⟨[0, 1, 5], [.old 1], [0], []⟩)))
@[go_sem] def r90_4 : List PO := [pM 21 5,
 pM 22 0,
 pE 23 22 24,
 pO 24 .lss 3 21 23 3,
 pM 25 24,
 ⟨(some 26), (.move (.tmp 0)), (some (25, true))⟩,
 ⟨(some 27), (.move (.tmp 5)), (some (25, true))⟩,
 ⟨(some 28), (.indexAddr 24 (.tmp 26) (.tmp 27)), (some (25, true))⟩,
 ⟨(some 29), (.load 3 (.tmp 28)), (some (25, true))⟩,
 ⟨(some 30), (.move (.tmp 1)), (some (25, true))⟩,
 ⟨(some 31), (.binOp .eql 3 (.tmp 29) (.tmp 30) 3), (some (25, true))⟩,
 ⟨(some 32), (.pick (.tmp 25) (.tmp 31) (.const (.bool false))), none⟩]
def k90_4 : PC := (.post (.reg r90_4) ⟨[0, 1, 5, 32], [.old 1], [0], []⟩)
@[go_sem] def r90_0 : List PO := [⟨(some 4), (.assign (.const (.slice none 0 0))), none⟩]
@[go_sem] def r90_1 : List PO := [pK 5 0]
@[go_sem] def r90_5 : List PO := [pM 33 0,
 pA 4 33]
@[go_sem] def r90_6 : List PO := [⟨(some 6), (.assign (.const (.slice none 0 0))), none⟩]
@[go_sem] def r90_7 : List PO := [pM 34 6,
 pM 35 0,
 pM 36 5,
 ⟨(some 37), (.slice 24 (.tmp 35) none (some (.tmp 36)) none), none⟩,
 ⟨(some 38), (.call { callee := (.builtin .append), args := #[(.tmp 34), (.tmp 37)], argTypes := #[24, 24] }), none⟩,
 pA 6 38]
@[go_sem] def r90_8 : List PO := [pM 39 6,
 pM 40 1,
 ⟨(some 41), (.buildSlice 24 1 #[(0, (.tmp 40))]), none⟩,
 ⟨(some 42), (.call { callee := (.builtin .append), args := #[(.tmp 39), (.tmp 41)], argTypes := #[24, 24] }), none⟩,
 pA 6 42]
@[go_sem] def r90_9 : List PO := [pM 43 6,
 pM 44 0,
 pM 45 5,
 ⟨(some 46), (.slice 24 (.tmp 44) (some (.tmp 45)) none none), none⟩,
 ⟨(some 47), (.call { callee := (.builtin .append), args := #[(.tmp 43), (.tmp 46)], argTypes := #[24, 24] }), none⟩,
 pA 4 47]
def c90 : PC := (.seq (.reg r90_0) (.seq (.reg r90_1) (.seq (.block 0 (.pre ⟨[0, 1, 5], [.old 0], [0], []⟩ (.loop k90_1b))) (.seq (.seq (.pre ⟨[0, 1, 5], [.old 1], [0], []⟩ k90_4) (.cond (.tmp 32) (.seq (.reg r90_5) (.pre ⟨[4], [.old 1], [0], []⟩ .ret)) .skip)) (.seq (.reg r90_6) (.seq (.reg r90_7) (.seq (.reg r90_8) (.seq (.reg r90_9) (.pre ⟨[4], [.old 5], [0], []⟩ .ret)))))))))
def i90 : FnI := ⟨48, [(.tmp 4)], c90, 3, [[1], [0]], [[1]], false, true, 1, false⟩
@[go_sem] def r136_5 : List PO := [pB 29 .eql 3 22 4 3,
 pA 27 29]
def k136_1 : PC := (.cond (.tmp 27) (.post .skip ⟨[1, 2, 3, 22, 27], [.old 0], [], []⟩) (.post (.reg r136_5) ⟨[1, 2, 3, 22, 27], [.old 0], [], []⟩))
@[go_sem] def r136_6 : List PO := [pM 30 2,
 pM 31 1,
 pE 32 31 24,
 pO 33 .lss 3 30 32 3,
 pM 34 33,
 ⟨(some 35), (.fieldAddr 149 (.tmp 3) 0), (some (34, true))⟩,
 ⟨(some 36), (.load 3 (.tmp 35)), (some (34, true))⟩,
 ⟨(some 37), (.binOp .eql 3 (.tmp 36) (.const (.int .i64 4)) 3), (some (34, true))⟩,
 ⟨(some 38), (.move (.tmp 37)), (some (34, true))⟩,
 ⟨(some 39), (.move (.tmp 1)), (some (38, false))⟩,
 ⟨(some 40), (.move (.tmp 2)), (some (38, false))⟩,
 ⟨(some 41), (.indexAddr 24 (.tmp 39) (.tmp 40)), (some (38, false))⟩,
 ⟨(some 42), (.load 3 (.tmp 41)), (some (38, false))⟩,
 ⟨(some 43), (.fieldAddr 149 (.tmp 3) 1), (some (38, false))⟩,
 ⟨(some 44), (.load 3 (.tmp 43)), (some (38, false))⟩,
 ⟨(some 45), (.binOp .eql 3 (.tmp 42) (.tmp 44) 3), (some (38, false))⟩,
 ⟨(some 46), (.pick (.tmp 38) (.const (.bool true)) (.tmp 45)), (some (34, true))⟩,
 ⟨(some 47), (.pick (.tmp 34) (.tmp 46) (.const (.bool false))), none⟩]
def k136_3 : PC := (.post (.fz r136_6) ⟨[2, 47], [], [], []⟩)
@[go_sem] def r136_11 : List PO := [pO 69 .lss 3 68 67 3]
@[go_sem] def r136_12 : List PO := [pI 70 24 66 68,
 pL 71 3 70,
 pA 9 71]
@[go_sem] def r136_13 : List PO := [pM 72 7,
 pM 73 9,
 pC2 74 90 72 73 24 3,
 pA 7 74]
@[go_sem] def r136_14 : List PO := [pB 75 .add 3 68 1 3,
 pM 68 75]
def k136_4b : PC := (.seq (.reg r136_11) (.seq (.cond (.tmp 69) .skip (.pre ⟨[7], [.old 0], [], []⟩ (.exit 1))) (.seq (.block 2 (.seq (.reg r136_12) (.reg r136_13))) (.post (.reg r136_14) ⟨[7, 66, 67, 68], [.old 2, .old 1], [], []⟩))))
@[go_sem] def r136_22 : List PO := [pO 100 .lss 3 99 98 3]
@[go_sem] def r136_23 : List PO := [pI 101 24 97 99,
 pL 102 3 101,
 pA 14 102]
@[go_sem] def r136_24 : List PO := [pM 103 10,
 pM 104 14,
 pC2 105 90 103 104 24 3,
 pA 10 105]
@[go_sem] def r136_25 : List PO := [pB 106 .add 3 99 1 3,
 pM 99 106]
def k136_7b : PC := (.seq (.reg r136_22) (.seq (.cond (.tmp 100) .skip (.pre ⟨[1, 3, 10, 85, 86, 87], [.old 0, .old 1, .old 2], [], []⟩ (.exit 5))) (.seq (.block 6 (.seq (.reg r136_23) (.reg r136_24))) (.post (.reg r136_25) ⟨[1, 3, 10, 85, 86, 87, 97, 98, 99], [.old 0, .old 4, .old 2, .old 3], [], []⟩))))
@[go_sem] def r136_19 : List PO := [pO 88 .lss 3 87 86 3]
@[go_sem] def r136_20 : List PO := [pI 89 24 85 87,
 pL 90 3 89,
 pA 12 90]
@[go_sem] def r136_21 : List PO := [pF 91 149 3 2,
 pL 92 147 91,
 ⟨(some 93), (.indexAddr 147 (.tmp 92) (.const (.int .i64 1))), none⟩,
 pL 94 149 93,
 pM 95 1,
 pM 96 12,
 pC3 97 136 94 95 96 149 24 3,
 pE 98 97 24,
 ⟨(some 99), (.move (.const (.int .i64 0))), none⟩]
@[go_sem] def r136_26 : List PO := [pB 107 .add 3 87 1 3,
 pM 87 107]
def k136_5b : PC := (.seq (.reg r136_19) (.seq (.cond (.tmp 88) .skip (.pre ⟨[10], [.old 1], [], []⟩ (.exit 3))) (.seq (.block 4 (.seq (.reg r136_20) (.seq (.reg r136_21) (.block 5 (.pre ⟨[1, 3, 10, 85, 86, 87, 97, 98, 99], [.old 0, .old 1, .old 2, .old 3], [], []⟩ (.loop k136_7b)))))) (.post (.reg r136_26) ⟨[1, 3, 10, 85, 86, 87], [.old 0, .old 1, .old 2], [], []⟩))))
@[go_sem] def r136_35 : List PO := [pO 132 .lss 3 131 130 3]
@[go_sem] def r136_36 : List PO := [pI 133 24 129 131,
 pL 134 3 133,
 pA 20 134]
@[go_sem] def r136_37 : List PO := [pM 135 15,
 pM 136 20,
 pC2 137 90 135 136 24 3,
 pA 15 137]
@[go_sem] def r136_38 : List PO := [pB 138 .add 3 131 1 3,
 pM 131 138]
def k136_14b : PC := (.seq (.reg r136_35) (.seq (.cond (.tmp 132) .skip (.pre ⟨[1, 3, 15, 16, 117, 118, 119], [.old 0, .old 1, .old 2], [], []⟩ (.exit 11))) (.seq (.block 12 (.seq (.reg r136_36) (.reg r136_37))) (.post (.reg r136_38) ⟨[1, 3, 15, 16, 117, 118, 119, 129, 130, 131], [.old 0, .old 4, .old 2, .old 3], [], []⟩))))
@[go_sem] def r136_32 : List PO := [pO 120 .lss 3 119 118 3]
@[go_sem] def r136_33 : List PO := [pI 121 24 117 119,
 pL 122 3 121,
 pA 18 122]
@[go_sem] def r136_34 : List PO := [pF 123 149 3 2,
 pL 124 147 123,
 ⟨(some 125), (.indexAddr 147 (.tmp 124) (.const (.int .i64 0))), none⟩,
 pL 126 149 125,
 pM 127 1,
 pM 128 18,
 pC3 129 136 126 127 128 149 24 3,
 pE 130 129 24,
 ⟨(some 131), (.move (.const (.int .i64 0))), none⟩]
@[go_sem] def r136_39 : List PO := [pB 139 .add 3 119 1 3,
 pM 119 139]
def k136_12b : PC := (.seq (.reg r136_32) (.seq (.cond (.tmp 120) .skip (.pre ⟨[1, 3, 15, 16], [.old 0, .old 1], [], []⟩ (.exit 9))) (.seq (.block 10 (.seq (.reg r136_33) (.seq (.reg r136_34) (.block 11 (.pre ⟨[1, 3, 15, 16, 117, 118, 119, 129, 130, 131], [.old 0, .old 1, .old 2, .old 3], [], []⟩ (.loop k136_14b)))))) (.post (.reg r136_39) ⟨[1, 3, 15, 16, 117, 118, 119], [.old 0, .old 1, .old 2], [], []⟩))))
@[go_sem] def r136_30 : List PO := [pM 113 15,
 pE 114 113 24,
 pA 16 114]
@[go_sem] def r136_31 : List PO := [⟨(some 115), (.buildSlice 24 0 #[]), none⟩,
 pM 116 15,
 ⟨(some 117), (.call { callee := (.builtin .append), args := #[(.tmp 115), (.tmp 116)], argTypes := #[24, 24] }), none⟩,
 pE 118 117 24,
 ⟨(some 119), (.move (.const (.int .i64 0))), none⟩]
@[go_sem] def r136_40 : List PO := [pM 140 15,
 pE 141 140 24,
 pM 142 16,
 pO 143 .eql 3 141 142 3]
@[go_sem] def r136_41 : List PO := [pM 144 15,
 pA 6 144]
def k136_8b : PC := (.block 8 (.seq (.reg r136_30) (.seq (.seq (.reg r136_31) (.block 9 (.pre ⟨[1, 3, 15, 16, 117, 118, 119], [.old 0, .old 1, .old 3], [], []⟩ (.loop k136_12b)))) (.seq (.reg r136_40) (.cond (.tmp 143) (.seq (.reg r136_41) (.pre ⟨[6], [.old 1], [], []⟩ .ret)) (.post .skip ⟨[1, 3, 15], [.old 0, .old 1], [], []⟩))))))
@[go_sem] def r136_7 : List PO := [pM 48 2,
 pB 49 .add 3 48 1 3,
 ⟨(some 50), (.buildSlice 24 1 #[(0, (.tmp 49))]), none⟩,
 pA 6 50]
@[go_sem] def r136_8 : List PO := [pB 52 .eql 3 22 6 3,
 pA 51 52]
@[go_sem] def r136_9 : List PO := [pF 53 149 3 2,
 pL 54 147 53,
 ⟨(some 55), (.indexAddr 147 (.tmp 54) (.const (.int .i64 0))), none⟩,
 pL 56 149 55,
 pM 57 1,
 pM 58 2,
 pC3 59 136 56 57 58 149 24 3,
 pA 7 59]
@[go_sem] def r136_10 : List PO := [pF 60 149 3 2,
 pL 61 147 60,
 ⟨(some 62), (.indexAddr 147 (.tmp 61) (.const (.int .i64 1))), none⟩,
 pL 63 149 62,
 pM 64 1,
 pM 65 2,
 pC3 66 136 63 64 65 149 24 3,
 pE 67 66 24,
 ⟨(some 68), (.move (.const (.int .i64 0))), none⟩]
@[go_sem] def r136_15 : List PO := [pM 76 7,
 pA 6 76]
@[go_sem] def r136_16 : List PO := [pB 78 .eql 3 22 5 3,
 pA 77 78]
@[go_sem] def r136_17 : List PO := [⟨(some 10), (.assign (.const (.slice none 0 0))), none⟩]
@[go_sem] def r136_18 : List PO := [pF 79 149 3 2,
 pL 80 147 79,
 ⟨(some 81), (.indexAddr 147 (.tmp 80) (.const (.int .i64 0))), none⟩,
 pL 82 149 81,
 pM 83 1,
 pM 84 2,
 pC3 85 136 82 83 84 149 24 3,
 pE 86 85 24,
 ⟨(some 87), (.move (.const (.int .i64 0))), none⟩]
@[go_sem] def r136_27 : List PO := [pM 108 10,
 pA 6 108]
@[go_sem] def r136_28 : List PO := [pB 110 .eql 3 22 7 3,
 pA 109 110]
@[go_sem] def r136_29 : List PO := [pM 111 2,
 ⟨(some 112), (.buildSlice 24 1 #[(0, (.tmp 111))]), none⟩,
 pA 15 112]
def k136_2 : PC := (.cond (.tmp 27) (.seq (.pre ⟨[1, 2, 3], [.old 0], [], []⟩ k136_3) (.cond (.tmp 47) (.seq (.reg r136_7) (.pre ⟨[6], [.old 0], [], []⟩ .ret)) (.post .skip ⟨[], [], [], []⟩))) (.seq (.reg r136_8) (.cond (.tmp 51) (.seq (.reg r136_9) (.seq (.seq (.reg r136_10) (.block 1 (.pre ⟨[7, 66, 67, 68], [.old 1, .old 2], [], []⟩ (.loop k136_4b)))) (.seq (.reg r136_15) (.pre ⟨[6], [.old 0], [], []⟩ .ret)))) (.seq (.reg r136_16) (.cond (.tmp 77) (.seq (.reg r136_17) (.seq (.seq (.reg r136_18) (.block 3 (.pre ⟨[1, 3, 10, 85, 86, 87], [.old 0, .nilT 10 0 1, .old 1], [], []⟩ (.loop k136_5b)))) (.seq (.reg r136_27) (.pre ⟨[6], [.old 0], [], []⟩ .ret)))) (.seq (.reg r136_28) (.cond (.tmp 109) (.seq (.reg r136_29) (.block 7 (.pre ⟨[1, 3, 15], [.old 0, .old 1], [], []⟩ (.loop k136_8b)))) (.post .skip ⟨[], [], [], []⟩))))))))
@[go_sem] def r136_0 : List PO := [pX 3 149 0,
 ⟨(some 6), (.assign (.const (.slice none 0 0))), none⟩]
@[go_sem] def r136_1 : List PO := [pF 21 149 3 0,
 pL 22 3 21]
@[go_sem] def r136_2 : List PO := [pB 24 .eql 3 22 2 3,
 pA 23 24]
@[go_sem] def r136_3 : List PO := [pM 25 2,
 ⟨(some 26), (.buildSlice 24 1 #[(0, (.tmp 25))]), none⟩,
 pA 6 26]
@[go_sem] def r136_4 : List PO := [pB 28 .eql 3 22 3 3,
 pA 27 28]
@[go_sem] def r136_42 : List PO := [⟨(some 6), (.assign (.const (.slice none 0 0))), none⟩]
def c136 : PC := (.seq (.reg r136_0) (.seq (.seq (.reg r136_1) (.block 0 (.seq (.reg r136_2) (.cond (.tmp 23) (.seq (.reg r136_3) .ret) (.seq (.seq (.reg r136_4) (.pre ⟨[1, 2, 3, 22, 27], [.old 0], [], []⟩ k136_1)) (.pre ⟨[1, 2, 3, 22, 27], [.old 0], [], []⟩ k136_2)))))) (.seq (.reg r136_42) .ret)))
def i136 : FnI := ⟨145, [(.tmp 6)], c136, 0, [[0, 0, 3], [1], [0]], [[1]], false, false, 0, false⟩
@[go_sem] def r110_2 : List PO := [pO 10 .lss 3 9 8 3]
@[go_sem] def r110_3 : List PO := [pI 11 24 7 9,
 pL 12 3 11,
 pA 6 12]
@[go_sem] def r110_4 : List PO := [pM 13 6,
 pM 14 1,
 pO 15 .eql 3 13 14 3]
@[go_sem] def r110_5 : List PO := [pN 4 true]
@[go_sem] def r110_6 : List PO := [pB 16 .add 3 9 1 3,
 pM 9 16]
def k110_1b : PC := (.seq (.reg r110_2) (.seq (.cond (.tmp 10) .skip (.pre ⟨[], [], [], []⟩ (.exit 0))) (.seq (.block 1 (.seq (.reg r110_3) (.seq (.reg r110_4) (.cond (.tmp 15) (.seq (.reg r110_5) (.pre ⟨[4], [], [], []⟩ .ret)) .skip)))) (.post (.reg r110_6) ⟨[1, 7, 8, 9], [], [], []⟩))))
@[go_sem] def r110_0 : List PO := [pN 4 false]
@[go_sem] def r110_1 : List PO := [pM 7 0,
 pE 8 7 24,
 ⟨(some 9), (.move (.const (.int .i64 0))), none⟩]
@[go_sem] def r110_7 : List PO := [pN 4 false]
def c110 : PC := (.seq (.reg r110_0) (.seq (.seq (.reg r110_1) (.block 0 (.pre ⟨[1, 7, 8, 9], [], [], []⟩ (.loop k110_1b)))) (.seq (.reg r110_7) .ret)))
def i110 : FnI := ⟨17, [(.tmp 4)], c110, 0, [[1], [0]], [[0]], false, false, 0, false⟩
@[go_sem] def r109_2 : List PO := [pM 13 7,
 ⟨(some 14), (.unOp .not 4 (.tmp 13)), none⟩,
 pM 15 14,
 ⟨(some 16), (.move (.tmp 1)), (some (15, false))⟩,
 ⟨(some 17), (.call { callee := (.value (.func 135)), args := #[(.tmp 16)], argTypes := #[24] }), (some (15, false))⟩,
 ⟨(some 18), (.unOp .not 4 (.tmp 17)), (some (15, false))⟩,
 ⟨(some 19), (.pick (.tmp 15) (.const (.bool true)) (.tmp 18)), none⟩]
def k109_1 : PC := (.post (.reg r109_2) ⟨[1, 6, 19], [.old 0, .old 1], [], []⟩)
@[go_sem] def r109_0 : List PO := [pN 4 false,
 pN 5 false]
@[go_sem] def r109_1 : List PO := [pM 9 0,
 pC 10 122 9 70,
 pM 8 10,
 ⟨(some 11), (.extract (.tmp 8) 0), none⟩,
 ⟨(some 12), (.extract (.tmp 8) 1), none⟩,
 ⟨(some 6), (.alloc 149), none⟩,
 ⟨none, (.store 149 (.tmp 6) (.tmp 11)), none⟩,
 pA 7 12]
@[go_sem] def r109_3 : List PO := [pN 4 false,
 pN 5 false]
@[go_sem] def r109_4 : List PO := [pL 20 149 6,
 pM 21 1,
 ⟨(some 22), (.call { callee := (.value (.func 136)), args := #[(.tmp 20), (.tmp 21), (.const (.int .i64 0))], argTypes := #[149, 24, 3] }), none⟩,
 pM 23 1,
 pE 24 23 24,
 pC2 25 110 22 24 24 3,
 pA 4 25,
 pN 5 true]
def c109 : PC := (.seq (.reg r109_0) (.seq (.reg r109_1) (.seq (.seq (.pre ⟨[1, 6, 7], [.old 1, .old 0], [], []⟩ k109_1) (.cond (.tmp 19) (.seq (.reg r109_3) .ret) .skip)) (.seq (.reg r109_4) .ret))))
def i109 : FnI := ⟨26, [(.tmp 4), (.tmp 5)], c109, 0, [[2], [1]], [[0], [0]], false, false, 0, false⟩
@[go_sem] def r62_6 : List PO := [pM 21 5,
 pM 22 21,
 ⟨(some 23), (.fieldAddr 114 (.tmp 7) 0), (some (22, false))⟩,
 ⟨(some 24), (.load 31 (.tmp 23)), (some (22, false))⟩,
 ⟨(some 25), (.fieldAddr 34 (.tmp 3) 0), (some (22, false))⟩,
 ⟨(some 26), (.load 31 (.tmp 25)), (some (22, false))⟩,
 ⟨(some 27), (.call { callee := (.value (.func 108)), args := #[(.tmp 24), (.tmp 26)], argTypes := #[31, 31] }), (some (22, false))⟩,
 ⟨(some 28), (.move (.tmp 27)), (some (22, false))⟩,
 ⟨(some 29), (.fieldAddr 34 (.tmp 3) 0), (some (28, true))⟩,
 ⟨(some 30), (.fieldAddr 31 (.tmp 29) 1), (some (28, true))⟩,
 ⟨(some 31), (.load 3 (.tmp 30)), (some (28, true))⟩,
 ⟨(some 32), (.fieldAddr 114 (.tmp 7) 1), (some (28, true))⟩,
 ⟨(some 33), (.load 3 (.tmp 32)), (some (28, true))⟩,
 ⟨(some 34), (.fieldAddr 114 (.tmp 7) 2), (some (28, true))⟩,
 ⟨(some 35), (.load 3 (.tmp 34)), (some (28, true))⟩,
 ⟨(some 36), (.call { callee := (.value (.func 71)), args := #[(.tmp 31), (.tmp 33), (.tmp 35)], argTypes := #[3, 3, 3] }), (some (28, true))⟩,
 ⟨(some 37), (.pick (.tmp 28) (.tmp 36) (.const (.bool false))), (some (22, false))⟩,
 ⟨(some 38), (.pick (.tmp 22) (.const (.bool true)) (.tmp 37)), none⟩,
 pA 5 38]
def k62_4 : PC := (.post (.reg r62_6) ⟨[2, 3, 5, 15, 16, 17], [.old 0, .old 1], [], []⟩)
@[go_sem] def r62_4 : List PO := [pO 18 .lss 3 17 16 3]
@[go_sem] def r62_5 : List PO := [pI 19 69 15 17,
 pL 20 114 19,
 ⟨(some 7), (.alloc 114), none⟩,
 ⟨none, (.store 114 (.tmp 7) (.tmp 20)), none⟩]
@[go_sem] def r62_7 : List PO := [pB 39 .add 3 17 1 3,
 pM 17 39]
def k62_2b : PC := (.seq (.reg r62_4) (.seq (.cond (.tmp 18) .skip (.pre ⟨[2, 3, 5], [.old 0, .old 1], [], []⟩ (.exit 0))) (.seq (.block 1 (.seq (.reg r62_5) (.pre ⟨[2, 3, 5, 7, 15, 16, 17], [.old 0, .old 1, .old 2], [], []⟩ k62_4))) (.post (.reg r62_7) ⟨[2, 3, 5, 15, 16, 17], [.old 0, .old 1], [], []⟩))))
@[go_sem] def r62_2 : List PO := [pN 5 false]
@[go_sem] def r62_3 : List PO := [pF 14 73 2 0,
 pL 15 69 14,
 pE 16 15 69,
 ⟨(some 17), (.move (.const (.int .i64 0))), none⟩]
@[go_sem] def r62_8 : List PO := [pM 40 5,
 ⟨(some 41), (.unOp .not 4 (.tmp 40)), none⟩]
@[go_sem] def r62_9 : List PO := [pN 4 false]
def k62_1 : PC := (.cond (.tmp 13) (.seq (.reg r62_2) (.seq (.seq (.reg r62_3) (.block 0 (.pre ⟨[2, 3, 5, 15, 16, 17], [.old 0, .old 1], [], []⟩ (.loop k62_2b)))) (.seq (.reg r62_8) (.cond (.tmp 41) (.seq (.reg r62_9) (.pre ⟨[4], [], [], []⟩ .ret)) (.post .skip ⟨[2, 3], [.old 0, .old 1], [], []⟩))))) (.post .skip ⟨[2, 3], [.old 0, .old 1], [], []⟩))
@[go_sem] def r62_11 : List PO := [pF 47 73 2 1,
 pL 48 70 47,
 pF 49 34 3 1,
 pF 50 32 49 1,
 pL 51 24 50,
 pC2 52 109 48 51 70 24,
 pM 46 52,
 ⟨(some 53), (.extract (.tmp 46) 0), none⟩,
 ⟨(some 54), (.extract (.tmp 46) 1), none⟩,
 pA 8 53,
 pA 9 54]
@[go_sem] def r62_12 : List PO := [pM 55 8,
 ⟨(some 56), (.unOp .not 4 (.tmp 55)), none⟩]
@[go_sem] def r62_13 : List PO := [pN 4 false]
def k62_5 : PC := (.cond (.tmp 45) (.seq (.reg r62_11) (.seq (.reg r62_12) (.cond (.tmp 56) (.seq (.reg r62_13) (.pre ⟨[4], [], [], []⟩ .ret)) (.post .skip ⟨[2, 3], [.old 0, .old 1], [], []⟩)))) (.post .skip ⟨[2, 3], [.old 0, .old 1], [], []⟩))
@[go_sem] def r62_14 : List PO := [pF 57 73 2 2,
 pL 58 3 57,
 pB 59 .eql 3 58 (-1) 3,
 pM 60 59,
 ⟨(some 61), (.fieldAddr 34 (.tmp 3) 1), (some (60, false))⟩,
 ⟨(some 62), (.fieldAddr 32 (.tmp 61) 5), (some (60, false))⟩,
 ⟨(some 63), (.load 24 (.tmp 62)), (some (60, false))⟩,
 ⟨(some 64), (.fieldAddr 73 (.tmp 2) 2), (some (60, false))⟩,
 ⟨(some 65), (.load 3 (.tmp 64)), (some (60, false))⟩,
 ⟨(some 66), (.call { callee := (.value (.func 110)), args := #[(.tmp 63), (.tmp 65)], argTypes := #[24, 3] }), (some (60, false))⟩,
 ⟨(some 67), (.pick (.tmp 60) (.const (.bool true)) (.tmp 66)), none⟩,
 pA 4 67]
def k62_6 : PC := (.post (.reg r62_14) ⟨[4], [], [], []⟩)
@[go_sem] def r62_0 : List PO := [pX 2 73 0,
 pX 3 34 1,
 pN 4 false]
@[go_sem] def r62_1 : List PO := [pF 10 73 2 0,
 pL 11 69 10,
 pE 12 11 69,
 pB 13 .gtr 3 12 0 3]
@[go_sem] def r62_10 : List PO := [pF 42 73 2 1,
 pL 43 70 42,
 pE 44 43 70,
 pB 45 .gtr 3 44 0 3]
def c62 : PC := (.seq (.reg r62_0) (.seq (.seq (.reg r62_1) (.pre ⟨[2, 3, 13], [.old 0, .old 1], [], []⟩ k62_1)) (.seq (.seq (.reg r62_10) (.pre ⟨[2, 3, 45], [.old 0, .old 1], [], []⟩ k62_5)) (.seq (.pre ⟨[2, 3], [.old 0, .old 1], [], []⟩ k62_6) .ret))))
def i62 : FnI := ⟨68, [(.tmp 4)], c62, 0, [[4, 2, 0, 2, 0], [0, 0, 0, 1, 0, 0, 0, 1]], [[0]], false, false, 0, false⟩
@[go_sem] def r28_1 : List PO := [pL 6 73 2,
 pC 7 42 6 73,
 ⟨(some 8), (.unOp .not 4 (.tmp 7)), none⟩,
 pM 9 8,
 ⟨(some 10), (.load 34 (.tmp 3)), (some (9, false))⟩,
 ⟨(some 11), (.call { callee := (.value (.func 9)), args := #[(.tmp 10)], argTypes := #[34] }), (some (9, false))⟩,
 ⟨(some 12), (.unOp .not 4 (.tmp 11)), (some (9, false))⟩,
 ⟨(some 13), (.pick (.tmp 9) (.const (.bool true)) (.tmp 12)), none⟩]
def k28_1 : PC := (.post (.reg r28_1) ⟨[2, 3, 13], [.old 0, .old 1], [], []⟩)
@[go_sem] def r28_0 : List PO := [pX 2 73 0,
 pX 3 34 1,
 pN 4 false,
 pN 5 false]
@[go_sem] def r28_2 : List PO := [pN 4 false,
 pN 5 false]
@[go_sem] def r28_3 : List PO := [pL 14 73 2,
 pL 15 34 3,
 pC2 16 62 14 15 73 34,
 pA 4 16,
 pN 5 true]
def c28 : PC := (.seq (.reg r28_0) (.seq (.seq (.pre ⟨[2, 3], [.old 0, .old 1], [], []⟩ k28_1) (.cond (.tmp 13) (.seq (.reg r28_2) .ret) .skip)) (.seq (.reg r28_3) .ret)))
def i28 : FnI := ⟨17, [(.tmp 4), (.tmp 5)], c28, 0, [[4, 2, 0, 2, 0], [0, 0, 0, 1, 0, 0, 0, 1]], [[0], [0]], false, false, 0, false⟩
@[go_sem] def r75_1 : List PO := [pM 7 0,
 pM 8 1,
 pO 9 .geq 3 7 8 3,
 pM 10 9,
 ⟨(some 11), (.move (.tmp 0)), (some (10, true))⟩,
 ⟨(some 12), (.move (.tmp 2)), (some (10, true))⟩,
 ⟨(some 13), (.binOp .leq 3 (.tmp 11) (.tmp 12) 3), (some (10, true))⟩,
 ⟨(some 14), (.pick (.tmp 10) (.tmp 13) (.const (.bool false))), none⟩,
 pA 6 14]
def k75_1 : PC := (.post (.reg r75_1) ⟨[6], [], [], []⟩)
@[go_sem] def r75_0 : List PO := [pN 6 false]
def c75 : PC := (.seq (.reg r75_0) (.seq (.pre ⟨[0, 1, 2], [], [], []⟩ k75_1) .ret))
def i75 : FnI := ⟨15, [(.tmp 6)], c75, 0, [[0], [0], [0]], [[0]], false, false, 0, false⟩
@[go_sem] def r144_5 : List PO := [pB 8 .eql 3 3 4 3,
 pA 4 8]
def k144_3 : PC := (.cond (.tmp 4) (.post .skip ⟨[3, 4], [], [], []⟩) (.post (.reg r144_5) ⟨[3, 4], [], [], []⟩))
@[go_sem] def r144_4 : List PO := [pB 7 .eql 3 3 3 3,
 pA 4 7]
def k144_2 : PC := (.cond (.tmp 4) (.post .skip ⟨[3, 4], [], [], []⟩) (.seq (.reg r144_4) (.post (.pre ⟨[3, 4], [], [], []⟩ k144_3) ⟨[3, 4], [], [], []⟩)))
@[go_sem] def r144_3 : List PO := [pB 6 .eql 3 3 2 3,
 pA 4 6]
def k144_1 : PC := (.cond (.tmp 4) (.post .skip ⟨[3, 4], [], [], []⟩) (.seq (.reg r144_3) (.post (.pre ⟨[3, 4], [], [], []⟩ k144_2) ⟨[3, 4], [], [], []⟩)))
@[go_sem] def r144_10 : List PO := [pB 13 .eql 3 3 6 3,
 pA 11 13]
def k144_4 : PC := (.cond (.tmp 11) (.post .skip ⟨[11], [], [], []⟩) (.post (.reg r144_10) ⟨[11], [], [], []⟩))
@[go_sem] def r144_0 : List PO := [pK 2 0]
@[go_sem] def r144_1 : List PO := [pM 3 0]
@[go_sem] def r144_2 : List PO := [pB 5 .eql 3 3 1 3,
 pA 4 5]
@[go_sem] def r144_6 : List PO := [pK 2 0]
@[go_sem] def r144_7 : List PO := [pB 10 .eql 3 3 7 3,
 pA 9 10]
@[go_sem] def r144_8 : List PO := [pK 2 1]
@[go_sem] def r144_9 : List PO := [pB 12 .eql 3 3 5 3,
 pA 11 12]
@[go_sem] def r144_11 : List PO := [pK 2 2]
@[go_sem] def r144_12 : List PO := [pK 2 (-1)]
def c144 : PC := (.seq (.reg r144_0) (.seq (.seq (.reg r144_1) (.block 0 (.seq (.seq (.reg r144_2) (.pre ⟨[3, 4], [], [], []⟩ k144_1)) (.cond (.tmp 4) (.seq (.reg r144_6) .ret) (.seq (.reg r144_7) (.cond (.tmp 9) (.seq (.reg r144_8) .ret) (.seq (.seq (.reg r144_9) (.pre ⟨[3, 11], [], [], []⟩ k144_4)) (.cond (.tmp 11) (.seq (.reg r144_11) .ret) .skip)))))))) (.seq (.reg r144_12) .ret)))
def i144 : FnI := ⟨14, [(.tmp 2)], c144, 0, [[0]], [[0]], false, false, 0, false⟩
@[go_sem] def r123_3 : List PO := [pM 9 6,
 pM 10 0,
 pE 11 10 70,
 pO 12 .lss 3 9 11 3]
@[go_sem] def r123_5 : List PO := [pM 15 0,
 pM 16 6,
 pI 17 70 15 16,
 pF 18 129 17 0,
 pL 19 3 18,
 pC 20 144 19 3,
 pA 7 20]
@[go_sem] def r123_6 : List PO := [pM 21 7,
 pB 22 .lss 3 21 0 3]
@[go_sem] def r123_7 : List PO := [pK 4 (-1)]
@[go_sem] def r123_8 : List PO := [pM 23 5,
 pM 24 7,
 pB 25 .sub 3 24 1 3,
 pO 26 .add 3 23 25 3,
 pA 5 26]
@[go_sem] def r123_9 : List PO := [pM 27 5,
 pB 28 .eql 3 27 0 3]
@[go_sem] def r123_10 : List PO := [pM 29 6,
 pB 30 .add 3 29 1 3,
 pM 31 1,
 pO 32 .sub 3 30 31 3,
 pA 4 32]
@[go_sem] def r123_4 : List PO := [pM 13 6,
 pB 14 .add 3 13 1 3,
 pA 6 14]
def k123_1b : PC := (.seq (.seq (.reg r123_3) (.cond (.tmp 12) .skip (.pre ⟨[], [], [], []⟩ (.exit 0)))) (.seq (.block 1 (.seq (.reg r123_5) (.seq (.seq (.reg r123_6) (.cond (.tmp 22) (.seq (.reg r123_7) (.pre ⟨[4], [], [], []⟩ .ret)) .skip)) (.seq (.reg r123_8) (.seq (.reg r123_9) (.cond (.tmp 28) (.seq (.reg r123_10) (.pre ⟨[4], [], [], []⟩ .ret)) .skip)))))) (.post (.reg r123_4) ⟨[0, 1, 5, 6], [], [], []⟩)))
@[go_sem] def r123_0 : List PO := [pK 4 0]
@[go_sem] def r123_1 : List PO := [pK 5 1]
@[go_sem] def r123_2 : List PO := [pM 8 1,
 pA 6 8]
@[go_sem] def r123_11 : List PO := [pK 4 (-1)]
def c123 : PC := (.seq (.reg r123_0) (.seq (.reg r123_1) (.seq (.seq (.reg r123_2) (.block 0 (.pre ⟨[0, 1, 5, 6], [], [], []⟩ (.loop k123_1b)))) (.seq (.reg r123_11) .ret))))
def i123 : FnI := ⟨33, [(.tmp 4)], c123, 0, [[2], [0]], [[0]], false, false, 0, false⟩
@[go_sem] def r145_2 : List PO := [pO 9 .lss 3 8 7 3]
@[go_sem] def r145_3 : List PO := [pM 10 8,
 pA 5 10]
@[go_sem] def r145_4 : List PO := [pM 11 1,
 pM 12 0,
 pM 13 5,
 pI 14 70 12 13,
 pL 15 129 14,
 ⟨(some 16), (.call { callee := (.value (.tmp 11)), args := #[(.tmp 15)], argTypes := #[129] }), none⟩]
@[go_sem] def r145_5 : List PO := [pM 17 5,
 pA 4 17]
@[go_sem] def r145_6 : List PO := [pB 18 .add 3 8 1 3,
 pM 8 18]
def k145_1b : PC := (.seq (.reg r145_2) (.seq (.cond (.tmp 9) .skip (.pre ⟨[], [], [], []⟩ (.exit 0))) (.seq (.block 1 (.seq (.reg r145_3) (.seq (.reg r145_4) (.cond (.tmp 16) (.seq (.reg r145_5) (.pre ⟨[4], [], [], []⟩ .ret)) .skip)))) (.post (.reg r145_6) ⟨[0, 1, 7, 8], [], [], []⟩))))
@[go_sem] def r145_0 : List PO := [pK 4 0]
@[go_sem] def r145_1 : List PO := [pM 6 0,
 pE 7 6 70,
 ⟨(some 8), (.move (.const (.int .i64 0))), none⟩]
@[go_sem] def r145_7 : List PO := [pK 4 (-1)]
def c145 : PC := (.seq (.reg r145_0) (.seq (.seq (.reg r145_1) (.block 0 (.pre ⟨[0, 1, 7, 8], [], [], []⟩ (.loop k145_1b)))) (.seq (.reg r145_7) .ret)))
def i145 : FnI := ⟨19, [(.tmp 4)], c145, 0, [[2], [0]], [[0]], false, false, 0, false⟩
@[go_sem] def r124_0 : List PO := [pN 4 false]
@[go_sem] def r124_1 : List PO := [pM 5 0,
 pM 6 1,
 pC2 7 145 5 6 70 153,
 pB 8 .geq 3 7 0 3,
 pA 4 8]
def c124 : PC := (.seq (.reg r124_0) (.seq (.reg r124_1) .ret))
def i124 : FnI := ⟨9, [(.tmp 4)], c124, 0, [[2], [0]], [[0]], false, false, 0, false⟩
@[go_sem] def r91_0 : List PO := [pN 2 false]
@[go_sem] def r91_1 : List PO := [pM 3 0,
 ⟨(some 4), (.call { callee := (.value (.func 75)), args := #[(.tmp 3), (.const (.int .i64 1)), (.const (.int .i64 65535))], argTypes := #[3, 3, 3] }), none⟩,
 pA 2 4]
def c91 : PC := (.seq (.reg r91_0) (.seq (.reg r91_1) .ret))
def i91 : FnI := ⟨5, [(.tmp 2)], c91, 0, [[0]], [[0]], false, false, 0, false⟩
@[go_sem] def r125_1 : List PO := [pF 3 129 1 0,
 pL 4 3 3,
 pB 5 .eql 3 4 3 3,
 pM 6 5,
 ⟨(some 7), (.fieldAddr 129 (.tmp 1) 1), (some (6, true))⟩,
 ⟨(some 8), (.load 3 (.tmp 7)), (some (6, true))⟩,
 ⟨(some 9), (.call { callee := (.value (.func 91)), args := #[(.tmp 8)], argTypes := #[3] }), (some (6, true))⟩,
 ⟨(some 10), (.unOp .not 4 (.tmp 9)), (some (6, true))⟩,
 ⟨(some 11), (.pick (.tmp 6) (.tmp 10) (.const (.bool false))), none⟩,
 pM 12 11,
 ⟨(some 13), (.fieldAddr 129 (.tmp 1) 0), (some (12, false))⟩,
 ⟨(some 14), (.load 3 (.tmp 13)), (some (12, false))⟩,
 ⟨(some 15), (.binOp .neq 3 (.tmp 14) (.const (.int .i64 3)) 3), (some (12, false))⟩,
 ⟨(some 16), (.move (.tmp 15)), (some (12, false))⟩,
 ⟨(some 17), (.fieldAddr 129 (.tmp 1) 1), (some (16, true))⟩,
 ⟨(some 18), (.load 3 (.tmp 17)), (some (16, true))⟩,
 ⟨(some 19), (.binOp .neq 3 (.tmp 18) (.const (.int .i64 0)) 3), (some (16, true))⟩,
 ⟨(some 20), (.pick (.tmp 16) (.tmp 19) (.const (.bool false))), (some (12, false))⟩,
 ⟨(some 21), (.pick (.tmp 12) (.const (.bool true)) (.tmp 20)), none⟩,
 pA 2 21]
def k125_1 : PC := (.post (.reg r125_1) ⟨[2], [], [], []⟩)
@[go_sem] def r125_0 : List PO := [pX 1 129 0,
 pN 2 false]
def c125 : PC := (.seq (.reg r125_0) (.seq (.pre ⟨[1], [.old 0], [], []⟩ k125_1) .ret))
def i125 : FnI := ⟨22, [(.tmp 2)], c125, 0, [[0, 0]], [[0]], false, false, 0, false⟩
@[go_sem] def r84_1 : List PO := [pM 3 0,
 pE 4 3 70,
 ⟨(some 5), (.call { callee := (.value (.func 75)), args := #[(.tmp 4), (.const (.int .i64 1)), (.const (.int .i64 30))], argTypes := #[3, 3, 3] }), none⟩,
 ⟨(some 6), (.unOp .not 4 (.tmp 5)), none⟩,
 pM 7 6,
 ⟨(some 8), (.move (.tmp 0)), (some (7, false))⟩,
 ⟨(some 9), (.call { callee := (.value (.func 123)), args := #[(.tmp 8), (.const (.int .i64 0))], argTypes := #[70, 3] }), (some (7, false))⟩,
 ⟨(some 10), (.move (.tmp 0)), (some (7, false))⟩,
 ⟨(some 11), (.call { callee := (.builtin .len), args := #[(.tmp 10)], argTypes := #[70] }), (some (7, false))⟩,
 ⟨(some 12), (.binOp .neq 3 (.tmp 9) (.tmp 11) 3), (some (7, false))⟩,
 ⟨(some 13), (.pick (.tmp 7) (.const (.bool true)) (.tmp 12)), none⟩]
def k84_1 : PC := (.post (.reg r84_1) ⟨[0, 13], [], [], []⟩)
@[go_sem] def r84_0 : List PO := [pN 2 false]
@[go_sem] def r84_2 : List PO := [pN 2 false]
@[go_sem] def r84_3 : List PO := [pM 14 0,
 ⟨(some 15), (.call { callee := (.value (.func 124)), args := #[(.tmp 14), (.func 125)], argTypes := #[70, 153] }), none⟩,
 ⟨(some 16), (.unOp .not 4 (.tmp 15)), none⟩,
 pA 2 16]
def c84 : PC := (.seq (.reg r84_0) (.seq (.seq (.pre ⟨[0], [], [], []⟩ k84_1) (.cond (.tmp 13) (.seq (.reg r84_2) .ret) .skip)) (.seq (.reg r84_3) .ret)))
def i84 : FnI := ⟨17, [(.tmp 2)], c84, 0, [[2]], [[0]], false, false, 0, false⟩
@[go_sem] def r79_0 : List PO := [pN 2 false]
@[go_sem] def r79_1 : List PO := [pM 3 0,
 ⟨(some 4), (.call { callee := (.value (.func 75)), args := #[(.tmp 3), (.const (.int .i64 0)), (.const (.int .i64 1000000))], argTypes := #[3, 3, 3] }), none⟩,
 pA 2 4]
def c79 : PC := (.seq (.reg r79_0) (.seq (.reg r79_1) .ret))
def i79 : FnI := ⟨5, [(.tmp 2)], c79, 0, [[0]], [[0]], false, false, 0, false⟩
@[go_sem] def r126_2 : List PO := [pO 9 .lss 3 8 7 3]
@[go_sem] def r126_3 : List PO := [pM 10 8,
 pA 5 10]
@[go_sem] def r126_4 : List PO := [pM 11 1,
 pM 12 0,
 pM 13 5,
 pI 14 69 12 13,
 pL 15 114 14,
 ⟨(some 16), (.call { callee := (.value (.tmp 11)), args := #[(.tmp 15)], argTypes := #[114] }), none⟩]
@[go_sem] def r126_5 : List PO := [pM 17 5,
 pA 4 17]
@[go_sem] def r126_6 : List PO := [pB 18 .add 3 8 1 3,
 pM 8 18]
def k126_1b : PC := (.seq (.reg r126_2) (.seq (.cond (.tmp 9) .skip (.pre ⟨[], [], [], []⟩ (.exit 0))) (.seq (.block 1 (.seq (.reg r126_3) (.seq (.reg r126_4) (.cond (.tmp 16) (.seq (.reg r126_5) (.pre ⟨[4], [], [], []⟩ .ret)) .skip)))) (.post (.reg r126_6) ⟨[0, 1, 7, 8], [], [], []⟩))))
@[go_sem] def r126_0 : List PO := [pK 4 0]
@[go_sem] def r126_1 : List PO := [pM 6 0,
 pE 7 6 69,
 ⟨(some 8), (.move (.const (.int .i64 0))), none⟩]
@[go_sem] def r126_7 : List PO := [pK 4 (-1)]
def c126 : PC := (.seq (.reg r126_0) (.seq (.seq (.reg r126_1) (.block 0 (.pre ⟨[0, 1, 7, 8], [], [], []⟩ (.loop k126_1b)))) (.seq (.reg r126_7) .ret)))
def i126 : FnI := ⟨19, [(.tmp 4)], c126, 0, [[4], [0]], [[0]], false, false, 0, false⟩
@[go_sem] def r85_0 : List PO := [pN 4 false]
@[go_sem] def r85_1 : List PO := [pM 5 0,
 pM 6 1,
 pC2 7 126 5 6 69 118,
 pB 8 .geq 3 7 0 3,
 pA 4 8]
def c85 : PC := (.seq (.reg r85_0) (.seq (.reg r85_1) .ret))
def i85 : FnI := ⟨9, [(.tmp 4)], c85, 0, [[4], [0]], [[0]], false, false, 0, false⟩
@[go_sem] def r76_0 : List PO := [pN 2 false]
@[go_sem] def r76_1 : List PO := [pM 3 0,
 ⟨(some 4), (.call { callee := (.value (.func 75)), args := #[(.tmp 3), (.const (.int .i64 0)), (.const (.int .i64 4294967295))], argTypes := #[3, 3, 3] }), none⟩,
 pA 2 4]
def c76 : PC := (.seq (.reg r76_0) (.seq (.reg r76_1) .ret))
def i76 : FnI := ⟨5, [(.tmp 2)], c76, 0, [[0]], [[0]], false, false, 0, false⟩
@[go_sem] def r77_0 : List PO := [pK 2 0]
@[go_sem] def r77_1 : List PO := [pM 3 0,
 ⟨(some 4), (.binOp .sub 3 (.const (.int .i64 32)) (.tmp 3) 3), none⟩,
 ⟨(some 5), (.binOp .shl 3 (.const (.int .i64 1)) (.tmp 4) 3), none⟩,
 pA 2 5]
def c77 : PC := (.seq (.reg r77_0) (.seq (.reg r77_1) .ret))
def i77 : FnI := ⟨6, [(.tmp 2)], c77, 0, [[0]], [[0]], false, false, 0, false⟩
@[go_sem] def r37_1 : List PO := [pF 3 31 1 1,
 pL 4 3 3,
 ⟨(some 5), (.call { callee := (.value (.func 75)), args := #[(.tmp 4), (.const (.int .i64 0)), (.const (.int .i64 32))], argTypes := #[3, 3, 3] }), none⟩,
 pM 6 5,
 ⟨(some 7), (.fieldAddr 31 (.tmp 1) 0), (some (6, true))⟩,
 ⟨(some 8), (.load 3 (.tmp 7)), (some (6, true))⟩,
 ⟨(some 9), (.call { callee := (.value (.func 76)), args := #[(.tmp 8)], argTypes := #[3] }), (some (6, true))⟩,
 ⟨(some 10), (.pick (.tmp 6) (.tmp 9) (.const (.bool false))), none⟩,
 pM 11 10,
 ⟨(some 12), (.fieldAddr 31 (.tmp 1) 0), (some (11, true))⟩,
 ⟨(some 13), (.load 3 (.tmp 12)), (some (11, true))⟩,
 ⟨(some 14), (.fieldAddr 31 (.tmp 1) 1), (some (11, true))⟩,
 ⟨(some 15), (.load 3 (.tmp 14)), (some (11, true))⟩,
 ⟨(some 16), (.call { callee := (.value (.func 77)), args := #[(.tmp 15)], argTypes := #[3] }), (some (11, true))⟩,
 ⟨(some 17), (.binOp .rem 3 (.tmp 13) (.tmp 16) 3), (some (11, true))⟩,
 ⟨(some 18), (.binOp .eql 3 (.tmp 17) (.const (.int .i64 0)) 3), (some (11, true))⟩,
 ⟨(some 19), (.pick (.tmp 11) (.tmp 18) (.const (.bool false))), none⟩,
 pA 2 19]
def k37_1 : PC := (.post (.fz r37_1) ⟨[2], [], [], []⟩)
@[go_sem] def r37_0 : List PO := [pX 1 31 0,
 pN 2 false]
def c37 : PC := (.seq (.reg r37_0) (.seq (.pre ⟨[1], [.old 0], [], []⟩ k37_1) .ret))
def i37 : FnI := ⟨20, [(.tmp 2)], c37, 0, [[0, 0]], [[0]], false, false, 0, false⟩
@[go_sem] def r86_1 : List PO := [pF 3 114 1 0,
 pL 4 31 3,
 pC 5 37 4 31,
 ⟨(some 6), (.unOp .not 4 (.tmp 5)), none⟩,
 pM 7 6,
 ⟨(some 8), (.fieldAddr 114 (.tmp 1) 1), (some (7, false))⟩,
 ⟨(some 9), (.load 3 (.tmp 8)), (some (7, false))⟩,
 ⟨(some 10), (.fieldAddr 114 (.tmp 1) 0), (some (7, false))⟩,
 ⟨(some 11), (.fieldAddr 31 (.tmp 10) 1), (some (7, false))⟩,
 ⟨(some 12), (.load 3 (.tmp 11)), (some (7, false))⟩,
 ⟨(some 13), (.binOp .lss 3 (.tmp 9) (.tmp 12) 3), (some (7, false))⟩,
 ⟨(some 14), (.pick (.tmp 7) (.const (.bool true)) (.tmp 13)), none⟩,
 pM 15 14,
 ⟨(some 16), (.fieldAddr 114 (.tmp 1) 2), (some (15, false))⟩,
 ⟨(some 17), (.load 3 (.tmp 16)), (some (15, false))⟩,
 ⟨(some 18), (.fieldAddr 114 (.tmp 1) 1), (some (15, false))⟩,
 ⟨(some 19), (.load 3 (.tmp 18)), (some (15, false))⟩,
 ⟨(some 20), (.binOp .lss 3 (.tmp 17) (.tmp 19) 3), (some (15, false))⟩,
 ⟨(some 21), (.pick (.tmp 15) (.const (.bool true)) (.tmp 20)), none⟩,
 pM 22 21,
 ⟨(some 23), (.fieldAddr 114 (.tmp 1) 2), (some (22, false))⟩,
 ⟨(some 24), (.load 3 (.tmp 23)), (some (22, false))⟩,
 ⟨(some 25), (.binOp .gtr 3 (.tmp 24) (.const (.int .i64 32)) 3), (some (22, false))⟩,
 ⟨(some 26), (.pick (.tmp 22) (.const (.bool true)) (.tmp 25)), none⟩,
 pA 2 26]
def k86_1 : PC := (.post (.reg r86_1) ⟨[2], [], [], []⟩)
@[go_sem] def r86_0 : List PO := [pX 1 114 0,
 pN 2 false]
def c86 : PC := (.seq (.reg r86_0) (.seq (.pre ⟨[1], [.old 0], [], []⟩ k86_1) .ret))
def i86 : FnI := ⟨27, [(.tmp 2)], c86, 0, [[0, 0, 0, 0]], [[0]], false, false, 0, false⟩
@[go_sem] def r127_2 : List PO := [pO 9 .lss 3 8 7 3]
@[go_sem] def r127_3 : List PO := [pM 10 8,
 pA 5 10]
@[go_sem] def r127_4 : List PO := [pM 11 1,
 pM 12 0,
 pM 13 5,
 pI 14 71 12 13,
 pL 15 53 14,
 ⟨(some 16), (.call { callee := (.value (.tmp 11)), args := #[(.tmp 15)], argTypes := #[53] }), none⟩]
@[go_sem] def r127_5 : List PO := [pM 17 5,
 pA 4 17]
@[go_sem] def r127_6 : List PO := [pB 18 .add 3 8 1 3,
 pM 8 18]
def k127_1b : PC := (.seq (.reg r127_2) (.seq (.cond (.tmp 9) .skip (.pre ⟨[], [], [], []⟩ (.exit 0))) (.seq (.block 1 (.seq (.reg r127_3) (.seq (.reg r127_4) (.cond (.tmp 16) (.seq (.reg r127_5) (.pre ⟨[4], [], [], []⟩ .ret)) .skip)))) (.post (.reg r127_6) ⟨[0, 1, 7, 8], [], [], []⟩))))
@[go_sem] def r127_0 : List PO := [pK 4 0]
@[go_sem] def r127_1 : List PO := [pM 6 0,
 pE 7 6 71,
 ⟨(some 8), (.move (.const (.int .i64 0))), none⟩]
@[go_sem] def r127_7 : List PO := [pK 4 (-1)]
def c127 : PC := (.seq (.reg r127_0) (.seq (.seq (.reg r127_1) (.block 0 (.pre ⟨[0, 1, 7, 8], [], [], []⟩ (.loop k127_1b)))) (.seq (.reg r127_7) .ret)))
def i127 : FnI := ⟨19, [(.tmp 4)], c127, 0, [[2], [0]], [[0]], false, false, 0, false⟩
@[go_sem] def r87_0 : List PO := [pN 4 false]
@[go_sem] def r87_1 : List PO := [pM 5 0,
 pM 6 1,
 pC2 7 127 5 6 71 89,
 pB 8 .geq 3 7 0 3,
 pA 4 8]
def c87 : PC := (.seq (.reg r87_0) (.seq (.reg r87_1) .ret))
def i87 : FnI := ⟨9, [(.tmp 4)], c87, 0, [[2], [0]], [[0]], false, false, 0, false⟩
@[go_sem] def r50_5 : List PO := [pB 9 .eql 3 4 4 3,
 pA 5 9]
def k50_3 : PC := (.cond (.tmp 5) (.post .skip ⟨[1, 4, 5], [.old 0], [], []⟩) (.post (.reg r50_5) ⟨[1, 4, 5], [.old 0], [], []⟩))
@[go_sem] def r50_4 : List PO := [pB 8 .eql 3 4 3 3,
 pA 5 8]
def k50_2 : PC := (.cond (.tmp 5) (.post .skip ⟨[1, 4, 5], [.old 0], [], []⟩) (.seq (.reg r50_4) (.post (.pre ⟨[1, 4, 5], [.old 0], [], []⟩ k50_3) ⟨[1, 4, 5], [.old 0], [], []⟩)))
@[go_sem] def r50_3 : List PO := [pB 7 .eql 3 4 2 3,
 pA 5 7]
def k50_1 : PC := (.cond (.tmp 5) (.post .skip ⟨[1, 4, 5], [.old 0], [], []⟩) (.seq (.reg r50_3) (.post (.pre ⟨[1, 4, 5], [.old 0], [], []⟩ k50_2) ⟨[1, 4, 5], [.old 0], [], []⟩)))
@[go_sem] def r50_0 : List PO := [pX 1 53 0,
 pN 2 false]
@[go_sem] def r50_1 : List PO := [pF 3 53 1 0,
 pL 4 3 3]
@[go_sem] def r50_2 : List PO := [pB 6 .eql 3 4 1 3,
 pA 5 6]
@[go_sem] def r50_6 : List PO := [pF 10 53 1 1,
 pL 11 3 10,
 pC 12 79 11 3,
 pA 2 12]
@[go_sem] def r50_7 : List PO := [pB 14 .eql 3 4 5 3,
 pA 13 14]
@[go_sem] def r50_8 : List PO := [pF 15 53 1 1,
 pL 16 3 15,
 pC 17 91 16 3,
 pA 2 17]
@[go_sem] def r50_9 : List PO := [pN 2 false]
def c50 : PC := (.seq (.reg r50_0) (.seq (.seq (.reg r50_1) (.block 0 (.seq (.seq (.reg r50_2) (.pre ⟨[1, 4, 5], [.old 0], [], []⟩ k50_1)) (.cond (.tmp 5) (.seq (.reg r50_6) .ret) (.seq (.reg r50_7) (.cond (.tmp 13) (.seq (.reg r50_8) .ret) .skip)))))) (.seq (.reg r50_9) .ret)))
def i50 : FnI := ⟨18, [(.tmp 2)], c50, 0, [[0, 0]], [[0]], false, false, 0, false⟩
@[go_sem] def r88_0 : List PO := [pX 1 53 0,
 pN 2 false]
@[go_sem] def r88_1 : List PO := [pL 3 53 1,
 pC 4 50 3 53,
 ⟨(some 5), (.unOp .not 4 (.tmp 4)), none⟩,
 pA 2 5]
def c88 : PC := (.seq (.reg r88_0) (.seq (.reg r88_1) .ret))
def i88 : FnI := ⟨6, [(.tmp 2)], c88, 0, [[0, 0]], [[0]], false, false, 0, false⟩
@[go_sem] def r46_1 : List PO := [pF 3 73 1 0,
 pL 4 69 3,
 pE 5 4 69,
 pB 6 .gtr 3 5 6 3,
 pM 7 6,
 ⟨(some 8), (.fieldAddr 73 (.tmp 1) 1), (some (7, false))⟩,
 ⟨(some 9), (.load 70 (.tmp 8)), (some (7, false))⟩,
 ⟨(some 10), (.call { callee := (.builtin .len), args := #[(.tmp 9)], argTypes := #[70] }), (some (7, false))⟩,
 ⟨(some 11), (.binOp .gtr 3 (.tmp 10) (.const (.int .i64 0)) 3), (some (7, false))⟩,
 ⟨(some 12), (.move (.tmp 11)), (some (7, false))⟩,
 ⟨(some 13), (.fieldAddr 73 (.tmp 1) 1), (some (12, true))⟩,
 ⟨(some 14), (.load 70 (.tmp 13)), (some (12, true))⟩,
 ⟨(some 15), (.call { callee := (.value (.func 84)), args := #[(.tmp 14)], argTypes := #[70] }), (some (12, true))⟩,
 ⟨(some 16), (.unOp .not 4 (.tmp 15)), (some (12, true))⟩,
 ⟨(some 17), (.pick (.tmp 12) (.tmp 16) (.const (.bool false))), (some (7, false))⟩,
 ⟨(some 18), (.pick (.tmp 7) (.const (.bool true)) (.tmp 17)), none⟩,
 pM 19 18,
 ⟨(some 20), (.fieldAddr 73 (.tmp 1) 2), (some (19, false))⟩,
 ⟨(some 21), (.load 3 (.tmp 20)), (some (19, false))⟩,
 ⟨(some 22), (.binOp .neq 3 (.tmp 21) (.const (.int .i64 (-1))) 3), (some (19, false))⟩,
 ⟨(some 23), (.move (.tmp 22)), (some (19, false))⟩,
 ⟨(some 24), (.fieldAddr 73 (.tmp 1) 2), (some (23, true))⟩,
 ⟨(some 25), (.load 3 (.tmp 24)), (some (23, true))⟩,
 ⟨(some 26), (.call { callee := (.value (.func 79)), args := #[(.tmp 25)], argTypes := #[3] }), (some (23, true))⟩,
 ⟨(some 27), (.unOp .not 4 (.tmp 26)), (some (23, true))⟩,
 ⟨(some 28), (.pick (.tmp 23) (.tmp 27) (.const (.bool false))), (some (19, false))⟩,
 ⟨(some 29), (.pick (.tmp 19) (.const (.bool true)) (.tmp 28)), none⟩,
 pM 30 29,
 ⟨(some 31), (.fieldAddr 73 (.tmp 1) 3), (some (30, false))⟩,
 ⟨(some 32), (.load 71 (.tmp 31)), (some (30, false))⟩,
 ⟨(some 33), (.call { callee := (.builtin .len), args := #[(.tmp 32)], argTypes := #[71] }), (some (30, false))⟩,
 ⟨(some 34), (.binOp .gtr 3 (.tmp 33) (.const (.int .i64 5)) 3), (some (30, false))⟩,
 ⟨(some 35), (.pick (.tmp 30) (.const (.bool true)) (.tmp 34)), none⟩,
 pM 36 35,
 ⟨(some 37), (.fieldAddr 73 (.tmp 1) 4), (some (36, false))⟩,
 ⟨(some 38), (.load 3 (.tmp 37)), (some (36, false))⟩,
 ⟨(some 39), (.call { callee := (.value (.func 75)), args := #[(.tmp 38), (.const (.int .i64 0)), (.const (.int .i64 2))], argTypes := #[3, 3, 3] }), (some (36, false))⟩,
 ⟨(some 40), (.unOp .not 4 (.tmp 39)), (some (36, false))⟩,
 ⟨(some 41), (.pick (.tmp 36) (.const (.bool true)) (.tmp 40)), none⟩]
def k46_1 : PC := (.post (.reg r46_1) ⟨[1, 41], [.old 0], [], []⟩)
@[go_sem] def r46_3 : List PO := [pF 42 73 1 0,
 pL 43 69 42,
 ⟨(some 44), (.call { callee := (.value (.func 85)), args := #[(.tmp 43), (.func 86)], argTypes := #[69, 118] }), none⟩,
 ⟨(some 45), (.unOp .not 4 (.tmp 44)), none⟩,
 pM 46 45,
 ⟨(some 47), (.fieldAddr 73 (.tmp 1) 3), (some (46, true))⟩,
 ⟨(some 48), (.load 71 (.tmp 47)), (some (46, true))⟩,
 ⟨(some 49), (.call { callee := (.value (.func 87)), args := #[(.tmp 48), (.func 88)], argTypes := #[71, 89] }), (some (46, true))⟩,
 ⟨(some 50), (.unOp .not 4 (.tmp 49)), (some (46, true))⟩,
 ⟨(some 51), (.pick (.tmp 46) (.tmp 50) (.const (.bool false))), none⟩,
 pA 2 51]
def k46_2 : PC := (.post (.reg r46_3) ⟨[2], [], [], []⟩)
@[go_sem] def r46_0 : List PO := [pX 1 73 0,
 pN 2 false]
@[go_sem] def r46_2 : List PO := [pN 2 false]
def c46 : PC := (.seq (.reg r46_0) (.seq (.seq (.pre ⟨[1], [.old 0], [], []⟩ k46_1) (.cond (.tmp 41) (.seq (.reg r46_2) .ret) .skip)) (.seq (.pre ⟨[1], [.old 0], [], []⟩ k46_2) .ret)))
def i46 : FnI := ⟨52, [(.tmp 2)], c46, 0, [[4, 2, 0, 2, 0]], [[0]], false, false, 0, false⟩
@[go_sem] def r133_2 : List PO := [pO 9 .lss 3 8 7 3]
@[go_sem] def r133_3 : List PO := [pM 10 8,
 pA 5 10]
@[go_sem] def r133_4 : List PO := [pM 11 1,
 pM 12 0,
 pM 13 5,
 pI 14 24 12 13,
 pL 15 3 14,
 ⟨(some 16), (.call { callee := (.value (.tmp 11)), args := #[(.tmp 15)], argTypes := #[3] }), none⟩]
@[go_sem] def r133_5 : List PO := [pM 17 5,
 pA 4 17]
@[go_sem] def r133_6 : List PO := [pB 18 .add 3 8 1 3,
 pM 8 18]
def k133_1b : PC := (.seq (.reg r133_2) (.seq (.cond (.tmp 9) .skip (.pre ⟨[], [], [], []⟩ (.exit 0))) (.seq (.block 1 (.seq (.reg r133_3) (.seq (.reg r133_4) (.cond (.tmp 16) (.seq (.reg r133_5) (.pre ⟨[4], [], [], []⟩ .ret)) .skip)))) (.post (.reg r133_6) ⟨[0, 1, 7, 8], [], [], []⟩))))
@[go_sem] def r133_0 : List PO := [pK 4 0]
@[go_sem] def r133_1 : List PO := [pM 6 0,
 pE 7 6 24,
 ⟨(some 8), (.move (.const (.int .i64 0))), none⟩]
@[go_sem] def r133_7 : List PO := [pK 4 (-1)]
def c133 : PC := (.seq (.reg r133_0) (.seq (.seq (.reg r133_1) (.block 0 (.pre ⟨[0, 1, 7, 8], [], [], []⟩ (.loop k133_1b)))) (.seq (.reg r133_7) .ret)))
def i133 : FnI := ⟨19, [(.tmp 4)], c133, 0, [[1], [0]], [[0]], false, false, 0, false⟩
@[go_sem] def r120_0 : List PO := [pN 4 false]
@[go_sem] def r120_1 : List PO := [pM 5 0,
 pM 6 1,
 pC2 7 133 5 6 24 107,
 pB 8 .geq 3 7 0 3,
 pA 4 8]
def c120 : PC := (.seq (.reg r120_0) (.seq (.reg r120_1) .ret))
def i120 : FnI := ⟨9, [(.tmp 4)], c120, 0, [[1], [0]], [[0]], false, false, 0, false⟩
@[go_sem] def r121_0 : List PO := [pN 2 false]
@[go_sem] def r121_1 : List PO := [pM 3 0,
 pC 4 91 3 3,
 ⟨(some 5), (.unOp .not 4 (.tmp 4)), none⟩,
 pA 2 5]
def c121 : PC := (.seq (.reg r121_0) (.seq (.reg r121_1) .ret))
def i121 : FnI := ⟨6, [(.tmp 2)], c121, 0, [[0]], [[0]], false, false, 0, false⟩
@[go_sem] def r78_1 : List PO := [pM 3 0,
 pE 4 3 24,
 pB 5 .leq 3 4 10 3,
 pM 6 5,
 ⟨(some 7), (.move (.tmp 0)), (some (6, true))⟩,
 ⟨(some 8), (.call { callee := (.value (.func 120)), args := #[(.tmp 7), (.func 121)], argTypes := #[24, 107] }), (some (6, true))⟩,
 ⟨(some 9), (.unOp .not 4 (.tmp 8)), (some (6, true))⟩,
 ⟨(some 10), (.pick (.tmp 6) (.tmp 9) (.const (.bool false))), none⟩,
 pA 2 10]
def k78_1 : PC := (.post (.reg r78_1) ⟨[2], [], [], []⟩)
@[go_sem] def r78_0 : List PO := [pN 2 false]
def c78 : PC := (.seq (.reg r78_0) (.seq (.pre ⟨[0], [], [], []⟩ k78_1) .ret))
def i78 : FnI := ⟨11, [(.tmp 2)], c78, 0, [[1]], [[0]], false, false, 0, false⟩
@[go_sem] def r80_4 : List PO := [pM 12 4,
 pC 13 79 12 3,
 ⟨(some 14), (.unOp .not 4 (.tmp 13)), none⟩,
 pM 15 14,
 ⟨(some 16), (.move (.tmp 3)), (some (15, false))⟩,
 ⟨(some 17), (.binOp .gtr 3 (.tmp 16) (.const (.int .i64 0)) 3), (some (15, false))⟩,
 ⟨(some 18), (.move (.tmp 17)), (some (15, false))⟩,
 ⟨(some 19), (.move (.tmp 4)), (some (18, true))⟩,
 ⟨(some 20), (.move (.tmp 0)), (some (18, true))⟩,
 ⟨(some 21), (.move (.tmp 3)), (some (18, true))⟩,
 ⟨(some 22), (.binOp .sub 3 (.tmp 21) (.const (.int .i64 1)) 3), (some (18, true))⟩,
 ⟨(some 23), (.indexAddr 24 (.tmp 20) (.tmp 22)), (some (18, true))⟩,
 ⟨(some 24), (.load 3 (.tmp 23)), (some (18, true))⟩,
 ⟨(some 25), (.binOp .leq 3 (.tmp 19) (.tmp 24) 3), (some (18, true))⟩,
 ⟨(some 26), (.pick (.tmp 18) (.tmp 25) (.const (.bool false))), (some (15, false))⟩,
 ⟨(some 27), (.pick (.tmp 15) (.const (.bool true)) (.tmp 26)), none⟩]
def k80_3 : PC := (.post (.reg r80_4) ⟨[0, 5, 6, 7, 27], [], [], []⟩)
@[go_sem] def r80_2 : List PO := [pO 8 .lss 3 7 6 3]
@[go_sem] def r80_3 : List PO := [pM 9 7,
 pI 10 24 5 7,
 pL 11 3 10,
 pA 3 9,
 pA 4 11]
@[go_sem] def r80_5 : List PO := [pN 2 false]
@[go_sem] def r80_6 : List PO := [pB 28 .add 3 7 1 3,
 pM 7 28]
def k80_1b : PC := (.seq (.reg r80_2) (.seq (.cond (.tmp 8) .skip (.pre ⟨[0], [], [], []⟩ (.exit 0))) (.seq (.block 1 (.seq (.reg r80_3) (.seq (.pre ⟨[0, 3, 4, 5, 6, 7], [], [], []⟩ k80_3) (.cond (.tmp 27) (.seq (.reg r80_5) (.pre ⟨[2], [], [], []⟩ .ret)) .skip)))) (.post (.reg r80_6) ⟨[0, 5, 6, 7], [], [], []⟩))))
@[go_sem] def r80_0 : List PO := [pN 2 false]
@[go_sem] def r80_1 : List PO := [pM 5 0,
 pE 6 5 24,
 ⟨(some 7), (.move (.const (.int .i64 0))), none⟩]
@[go_sem] def r80_7 : List PO := [pM 29 0,
 pE 30 29 24,
 pB 31 .leq 3 30 6 3,
 pA 2 31]
def c80 : PC := (.seq (.reg r80_0) (.seq (.seq (.reg r80_1) (.block 0 (.pre ⟨[0, 5, 6, 7], [], [], []⟩ (.loop k80_1b)))) (.seq (.reg r80_7) .ret)))
def i80 : FnI := ⟨32, [(.tmp 2)], c80, 0, [[1]], [[0]], false, false, 0, false⟩
@[go_sem] def r38_1 : List PO := [pF 3 32 1 0,
 pL 4 3 3,
 ⟨(some 5), (.call { callee := (.value (.func 75)), args := #[(.tmp 4), (.const (.int .i64 0)), (.const (.int .i64 2))], argTypes := #[3, 3, 3] }), none⟩,
 pM 6 5,
 ⟨(some 7), (.fieldAddr 32 (.tmp 1) 1), (some (6, true))⟩,
 ⟨(some 8), (.load 24 (.tmp 7)), (some (6, true))⟩,
 ⟨(some 9), (.call { callee := (.value (.func 78)), args := #[(.tmp 8)], argTypes := #[24] }), (some (6, true))⟩,
 ⟨(some 10), (.pick (.tmp 6) (.tmp 9) (.const (.bool false))), none⟩,
 pM 11 10,
 ⟨(some 12), (.fieldAddr 32 (.tmp 1) 2), (some (11, true))⟩,
 ⟨(some 13), (.load 3 (.tmp 12)), (some (11, true))⟩,
 ⟨(some 14), (.call { callee := (.value (.func 76)), args := #[(.tmp 13)], argTypes := #[3] }), (some (11, true))⟩,
 ⟨(some 15), (.pick (.tmp 11) (.tmp 14) (.const (.bool false))), none⟩,
 pM 16 15,
 ⟨(some 17), (.fieldAddr 32 (.tmp 1) 3), (some (16, true))⟩,
 ⟨(some 18), (.load 3 (.tmp 17)), (some (16, true))⟩,
 ⟨(some 19), (.call { callee := (.value (.func 79)), args := #[(.tmp 18)], argTypes := #[3] }), (some (16, true))⟩,
 ⟨(some 20), (.pick (.tmp 16) (.tmp 19) (.const (.bool false))), none⟩,
 pM 21 20,
 ⟨(some 22), (.fieldAddr 32 (.tmp 1) 4), (some (21, true))⟩,
 ⟨(some 23), (.load 3 (.tmp 22)), (some (21, true))⟩,
 ⟨(some 24), (.call { callee := (.value (.func 79)), args := #[(.tmp 23)], argTypes := #[3] }), (some (21, true))⟩,
 ⟨(some 25), (.pick (.tmp 21) (.tmp 24) (.const (.bool false))), none⟩,
 pM 26 25,
 ⟨(some 27), (.fieldAddr 32 (.tmp 1) 5), (some (26, true))⟩,
 ⟨(some 28), (.load 24 (.tmp 27)), (some (26, true))⟩,
 ⟨(some 29), (.call { callee := (.value (.func 80)), args := #[(.tmp 28)], argTypes := #[24] }), (some (26, true))⟩,
 ⟨(some 30), (.pick (.tmp 26) (.tmp 29) (.const (.bool false))), none⟩,
 pA 2 30]
def k38_1 : PC := (.post (.reg r38_1) ⟨[2], [], [], []⟩)
@[go_sem] def r38_0 : List PO := [pX 1 32 0,
 pN 2 false]
def c38 : PC := (.seq (.reg r38_0) (.seq (.pre ⟨[1], [.old 0], [], []⟩ k38_1) .ret))
def i38 : FnI := ⟨31, [(.tmp 2)], c38, 0, [[0, 1, 0, 0, 0, 1]], [[0]], false, false, 0, false⟩
@[go_sem] def r11_1 : List PO := [pF 3 34 1 0,
 pL 4 31 3,
 pC 5 37 4 31,
 pM 6 5,
 ⟨(some 7), (.fieldAddr 34 (.tmp 1) 1), (some (6, true))⟩,
 ⟨(some 8), (.load 32 (.tmp 7)), (some (6, true))⟩,
 ⟨(some 9), (.call { callee := (.value (.func 38)), args := #[(.tmp 8)], argTypes := #[32] }), (some (6, true))⟩,
 ⟨(some 10), (.pick (.tmp 6) (.tmp 9) (.const (.bool false))), none⟩,
 pA 2 10]
def k11_1 : PC := (.post (.reg r11_1) ⟨[2], [], [], []⟩)
@[go_sem] def r11_0 : List PO := [pX 1 34 0,
 pN 2 false]
def c11 : PC := (.seq (.reg r11_0) (.seq (.pre ⟨[1], [.old 0], [], []⟩ k11_1) .ret))
def i11 : FnI := ⟨11, [(.tmp 2)], c11, 0, [[0, 0, 0, 1, 0, 0, 0, 1]], [[0]], false, false, 0, false⟩
@[go_sem] def r142_2 : List PO := [pO 9 .lss 3 8 7 3]
@[go_sem] def r142_3 : List PO := [pM 10 8,
 pA 5 10]
@[go_sem] def r142_4 : List PO := [pM 11 1,
 pM 12 0,
 pM 13 5,
 pI 14 24 12 13,
 pL 15 3 14,
 pO 16 .eql 3 11 15 3]
@[go_sem] def r142_5 : List PO := [pM 17 5,
 pA 4 17]
@[go_sem] def r142_6 : List PO := [pB 18 .add 3 8 1 3,
 pM 8 18]
def k142_1b : PC := (.seq (.reg r142_2) (.seq (.cond (.tmp 9) .skip (.pre ⟨[], [], [], []⟩ (.exit 0))) (.seq (.block 1 (.seq (.reg r142_3) (.seq (.reg r142_4) (.cond (.tmp 16) (.seq (.reg r142_5) (.pre ⟨[4], [], [], []⟩ .ret)) .skip)))) (.post (.reg r142_6) ⟨[0, 1, 7, 8], [], [], []⟩))))
@[go_sem] def r142_0 : List PO := [pK 4 0]
@[go_sem] def r142_1 : List PO := [pM 6 0,
 pE 7 6 24,
 ⟨(some 8), (.move (.const (.int .i64 0))), none⟩]
@[go_sem] def r142_7 : List PO := [pK 4 (-1)]
def c142 : PC := (.seq (.reg r142_0) (.seq (.seq (.reg r142_1) (.block 0 (.pre ⟨[0, 1, 7, 8], [], [], []⟩ (.loop k142_1b)))) (.seq (.reg r142_7) .ret)))
def i142 : FnI := ⟨19, [(.tmp 4)], c142, 0, [[1], [0]], [[0]], false, false, 0, false⟩
@[go_sem] def r116_0 : List PO := [pN 4 false]
@[go_sem] def r116_1 : List PO := [pM 5 0,
 pM 6 1,
 pC2 7 142 5 6 24 3,
 pB 8 .geq 3 7 0 3,
 pA 4 8]
def c116 : PC := (.seq (.reg r116_0) (.seq (.reg r116_1) .ret))
def i116 : FnI := ⟨9, [(.tmp 4)], c116, 0, [[1], [0]], [[0]], false, false, 0, false⟩
@[go_sem] def r138_4 : List PO := [pO 21 .lss 3 20 19 3]
@[go_sem] def r138_5 : List PO := [pM 23 5,
 pC 24 138 23 70,
 pM 22 24,
 ⟨(some 25), (.extract (.tmp 22) 0), none⟩,
 ⟨(some 26), (.extract (.tmp 22) 1), none⟩,
 pA 6 25,
 pA 7 26]
@[go_sem] def r138_6 : List PO := [pM 27 4,
 pM 28 4,
 ⟨(some 29), (.nilCheck (.tmp 28)), none⟩,
 pF 30 173 29 1,
 pL 31 171 30,
 pM 32 6,
 ⟨(some 33), (.buildSlice 171 1 #[(0, (.tmp 32))]), none⟩,
 ⟨(some 34), (.call { callee := (.builtin .append), args := #[(.tmp 31), (.tmp 33)], argTypes := #[171, 171] }), none⟩,
 ⟨(some 35), (.nilCheck (.tmp 27)), none⟩,
 pF 36 173 35 1,
 ⟨none, (.store 171 (.tmp 36) (.tmp 34)), none⟩]
@[go_sem] def r138_7 : List PO := [pM 37 7,
 pA 5 37]
@[go_sem] def r138_8 : List PO := [pB 38 .add 3 20 1 3,
 pM 20 38]
def k138_1b : PC := (.seq (.reg r138_4) (.seq (.cond (.tmp 21) .skip (.pre ⟨[4, 5], [.old 0, .old 1], [], []⟩ (.exit 0))) (.seq (.block 1 (.seq (.reg r138_5) (.seq (.reg r138_6) (.reg r138_7)))) (.post (.reg r138_8) ⟨[4, 5, 19, 20], [.old 0, .old 3], [], []⟩))))
@[go_sem] def r138_0 : List PO := [⟨(some 2), (.assign (.const (.pointer none))), none⟩,
 ⟨(some 3), (.assign (.const (.slice none 0 0))), none⟩]
@[go_sem] def r138_1 : List PO := [pM 8 0,
 ⟨(some 9), (.indexAddr 70 (.tmp 8) (.const (.int .i64 0))), none⟩,
 pL 10 129 9,
 ⟨(some 11), (.build 173 #[(0, (.tmp 10))]), none⟩,
 pX 12 173 11,
 pA 4 12]
@[go_sem] def r138_2 : List PO := [pM 13 0,
 ⟨(some 14), (.slice 70 (.tmp 13) (some (.const (.int .i64 1))) none none), none⟩,
 pA 5 14]
@[go_sem] def r138_3 : List PO := [pM 15 0,
 ⟨(some 16), (.indexAddr 70 (.tmp 15) (.const (.int .i64 0))), none⟩,
 pF 17 129 16 0,
 pL 18 3 17,
 pC 19 144 18 3,
 ⟨(some 20), (.move (.const (.int .i64 0))), none⟩]
@[go_sem] def r138_9 : List PO := [pM 39 4,
 pM 40 5,
 pA 2 39,
 pA 3 40]
def c138 : PC := (.seq (.reg r138_0) (.seq (.reg r138_1) (.seq (.reg r138_2) (.seq (.seq (.reg r138_3) (.block 0 (.pre ⟨[4, 5, 19, 20], [.old 0, .nilB 0 2 1], [], []⟩ (.loop k138_1b)))) (.seq (.reg r138_9) .ret)))))
def i138 : FnI := ⟨41, [(.tmp 2), (.tmp 3)], c138, 0, [[2]], [[0], [2]], true, false, 0, false⟩
@[go_sem] def r150_0 : List PO := [⟨(some 4), (.assign (.const (.pointer none))), none⟩]
@[go_sem] def r150_1 : List PO := [pM 5 0,
 ⟨(some 6), (.build 129 #[(0, (.tmp 5))]), none⟩,
 pM 7 1,
 ⟨(some 8), (.build 173 #[(0, (.tmp 6)), (1, (.tmp 7))]), none⟩,
 pX 9 173 8,
 pA 4 9]
def c150 : PC := (.seq (.reg r150_0) (.seq (.reg r150_1) .ret))
def i150 : FnI := ⟨10, [(.tmp 4)], c150, 0, [[0], [1]], [[0]], true, false, 0, false⟩
@[go_sem] def r141_3 : List PO := [pB 10 .eql 3 7 7 3,
 pA 8 10]
def k141_1 : PC := (.cond (.tmp 8) (.post .skip ⟨[0, 7, 8], [], [], []⟩) (.post (.reg r141_3) ⟨[0, 7, 8], [], [], []⟩))
@[go_sem] def r141_6 : List PO := [pM 13 0,
 ⟨(some 14), (.nilCheck (.tmp 13)), none⟩,
 pF 15 173 14 1,
 pL 16 171 15,
 ⟨(some 17), (.indexAddr 171 (.tmp 16) (.const (.int .i64 0))), none⟩,
 pL 18 161 17,
 pC 19 141 18 161,
 pM 20 19,
 ⟨(some 21), (.move (.tmp 0)), (some (20, true))⟩,
 ⟨(some 22), (.nilCheck (.tmp 21)), (some (20, true))⟩,
 ⟨(some 23), (.fieldAddr 173 (.tmp 22) 1), (some (20, true))⟩,
 ⟨(some 24), (.load 171 (.tmp 23)), (some (20, true))⟩,
 ⟨(some 25), (.indexAddr 171 (.tmp 24) (.const (.int .i64 1))), (some (20, true))⟩,
 ⟨(some 26), (.load 161 (.tmp 25)), (some (20, true))⟩,
 ⟨(some 27), (.call { callee := (.value (.func 141)), args := #[(.tmp 26)], argTypes := #[161] }), (some (20, true))⟩,
 ⟨(some 28), (.pick (.tmp 20) (.tmp 27) (.const (.bool false))), none⟩,
 pA 2 28]
def k141_2 : PC := (.post (.reg r141_6) ⟨[2], [], [], []⟩)
@[go_sem] def r141_8 : List PO := [pM 31 0,
 ⟨(some 32), (.nilCheck (.tmp 31)), none⟩,
 pF 33 173 32 1,
 pL 34 171 33,
 ⟨(some 35), (.indexAddr 171 (.tmp 34) (.const (.int .i64 0))), none⟩,
 pL 36 161 35,
 pC 37 141 36 161,
 pM 38 37,
 ⟨(some 39), (.move (.tmp 0)), (some (38, false))⟩,
 ⟨(some 40), (.nilCheck (.tmp 39)), (some (38, false))⟩,
 ⟨(some 41), (.fieldAddr 173 (.tmp 40) 1), (some (38, false))⟩,
 ⟨(some 42), (.load 171 (.tmp 41)), (some (38, false))⟩,
 ⟨(some 43), (.indexAddr 171 (.tmp 42) (.const (.int .i64 1))), (some (38, false))⟩,
 ⟨(some 44), (.load 161 (.tmp 43)), (some (38, false))⟩,
 ⟨(some 45), (.call { callee := (.value (.func 141)), args := #[(.tmp 44)], argTypes := #[161] }), (some (38, false))⟩,
 ⟨(some 46), (.pick (.tmp 38) (.const (.bool true)) (.tmp 45)), none⟩,
 pA 2 46]
def k141_3 : PC := (.post (.reg r141_8) ⟨[2], [], [], []⟩)
@[go_sem] def r141_0 : List PO := [pN 2 false]
@[go_sem] def r141_1 : List PO := [pM 3 0,
 ⟨(some 4), (.nilCheck (.tmp 3)), none⟩,
 pF 5 173 4 0,
 pF 6 129 5 0,
 pL 7 3 6]
@[go_sem] def r141_2 : List PO := [pB 9 .eql 3 7 2 3,
 pA 8 9]
@[go_sem] def r141_4 : List PO := [pN 2 true]
@[go_sem] def r141_5 : List PO := [pB 12 .eql 3 7 5 3,
 pA 11 12]
@[go_sem] def r141_7 : List PO := [pB 30 .eql 3 7 6 3,
 pA 29 30]
@[go_sem] def r141_9 : List PO := [pN 2 false]
def c141 : PC := (.seq (.reg r141_0) (.seq (.seq (.reg r141_1) (.block 0 (.seq (.seq (.reg r141_2) (.pre ⟨[0, 7, 8], [], [], []⟩ k141_1)) (.cond (.tmp 8) (.seq (.reg r141_4) .ret) (.seq (.reg r141_5) (.cond (.tmp 11) (.seq (.pre ⟨[0], [], [], []⟩ k141_2) .ret) (.seq (.reg r141_7) (.cond (.tmp 29) (.seq (.pre ⟨[0], [], [], []⟩ k141_3) .ret) .skip)))))))) (.seq (.reg r141_9) .ret)))
def i141 : FnI := ⟨47, [(.tmp 2)], c141, 0, [[0]], [[0]], false, false, 0, false⟩
@[go_sem] def r139_5 : List PO := [pM 16 0,
 ⟨(some 17), (.nilCheck (.tmp 16)), none⟩,
 pF 18 173 17 0,
 pF 19 129 18 1,
 pL 20 3 19,
 pM 21 1,
 pO 22 .eql 3 20 21 3]
@[go_sem] def r139_6 : List PO := [⟨(some 23), (.call { callee := (.value (.func 150)), args := #[(.const (.int .i64 2)), (.const (.slice none 0 0))], argTypes := #[3, 171] }), none⟩,
 pA 4 23]
@[go_sem] def r139_7 : List PO := [pB 25 .eql 3 10 6 3,
 pA 24 25]
@[go_sem] def r139_8 : List PO := [pM 26 0,
 ⟨(some 27), (.nilCheck (.tmp 26)), none⟩,
 pF 28 173 27 1,
 pL 29 171 28,
 ⟨(some 30), (.indexAddr 171 (.tmp 29) (.const (.int .i64 0))), none⟩,
 pL 31 161 30,
 pM 32 1,
 pC2 33 139 31 32 161 3,
 pM 34 0,
 ⟨(some 35), (.nilCheck (.tmp 34)), none⟩,
 pF 36 173 35 1,
 pL 37 171 36,
 ⟨(some 38), (.indexAddr 171 (.tmp 37) (.const (.int .i64 1))), none⟩,
 pL 39 161 38,
 pM 40 1,
 pC2 41 139 39 40 161 3,
 ⟨(some 42), (.buildSlice 171 2 #[(0, (.tmp 33)), (1, (.tmp 41))]), none⟩,
 ⟨(some 43), (.call { callee := (.value (.func 150)), args := #[(.const (.int .i64 6)), (.tmp 42)], argTypes := #[3, 171] }), none⟩,
 pA 4 43]
@[go_sem] def x139_8 : FxI := ⟨[7, 15, 16, 17], [none, none, none, none, none, none, none, none, none, none, none, none, none, none, none, none, none, none, none], 0, [[], [7], [7, 15], [7, 15, 16], [7, 15, 16, 17]], [], [(11, 0, 0), (12, 0, 0), (13, 0, 0)]⟩
@[go_sem] def r139_9 : List PO := [pB 45 .eql 3 10 7 3,
 pA 44 45]
@[go_sem] def r139_10 : List PO := [pM 46 0,
 ⟨(some 47), (.nilCheck (.tmp 46)), none⟩,
 pF 48 173 47 1,
 pL 49 171 48,
 ⟨(some 50), (.indexAddr 171 (.tmp 49) (.const (.int .i64 0))), none⟩,
 pL 51 161 50,
 pM 52 1,
 pC2 53 139 51 52 161 3,
 pM 54 0,
 ⟨(some 55), (.buildSlice 171 2 #[(0, (.tmp 53)), (1, (.tmp 54))]), none⟩,
 ⟨(some 56), (.call { callee := (.value (.func 150)), args := #[(.const (.int .i64 5)), (.tmp 55)], argTypes := #[3, 171] }), none⟩,
 pA 4 56]
@[go_sem] def r139_11 : List PO := [pB 58 .eql 3 10 5 3,
 pA 57 58]
@[go_sem] def r139_12 : List PO := [pM 59 0,
 ⟨(some 60), (.nilCheck (.tmp 59)), none⟩,
 pF 61 173 60 1,
 pL 62 171 61,
 ⟨(some 63), (.indexAddr 171 (.tmp 62) (.const (.int .i64 0))), none⟩,
 pL 64 161 63,
 pM 65 1,
 pC2 66 139 64 65 161 3,
 pM 67 0,
 ⟨(some 68), (.nilCheck (.tmp 67)), none⟩,
 pF 69 173 68 1,
 pL 70 171 69,
 ⟨(some 71), (.indexAddr 171 (.tmp 70) (.const (.int .i64 1))), none⟩,
 pL 72 161 71,
 ⟨(some 73), (.buildSlice 171 2 #[(0, (.tmp 66)), (1, (.tmp 72))]), none⟩,
 ⟨(some 74), (.call { callee := (.value (.func 150)), args := #[(.const (.int .i64 5)), (.tmp 73)], argTypes := #[3, 171] }), none⟩,
 pA 5 74]
@[go_sem] def x139_12 : FxI := ⟨[7, 14, 15], [none, none, none, none, none, none, none, none, none, none, none, none, none, none, none, none, none], 0, [[], [7], [7, 14], [7, 14, 15]], [], [(11, 0, 0), (12, 0, 0), (13, 0, 0)]⟩
@[go_sem] def r139_13 : List PO := [pM 75 0,
 ⟨(some 76), (.nilCheck (.tmp 75)), none⟩,
 pF 77 173 76 1,
 pL 78 171 77,
 ⟨(some 79), (.indexAddr 171 (.tmp 78) (.const (.int .i64 0))), none⟩,
 pL 80 161 79,
 pC 81 141 80 161]
@[go_sem] def r139_14 : List PO := [pM 82 5,
 pM 83 0,
 ⟨(some 84), (.nilCheck (.tmp 83)), none⟩,
 pF 85 173 84 1,
 pL 86 171 85,
 ⟨(some 87), (.indexAddr 171 (.tmp 86) (.const (.int .i64 1))), none⟩,
 pL 88 161 87,
 pM 89 1,
 pC2 90 139 88 89 161 3,
 ⟨(some 91), (.buildSlice 171 2 #[(0, (.tmp 82)), (1, (.tmp 90))]), none⟩,
 ⟨(some 92), (.call { callee := (.value (.func 150)), args := #[(.const (.int .i64 6)), (.tmp 91)], argTypes := #[3, 171] }), none⟩,
 pA 4 92]
@[go_sem] def r139_15 : List PO := [pM 93 5,
 pA 4 93]
def k139_1 : PC := (.cond (.tmp 14) (.seq (.reg r139_5) (.cond (.tmp 22) (.seq (.reg r139_6) (.pre ⟨[4], [], [], []⟩ .ret)) (.post .skip ⟨[], [], [], []⟩))) (.seq (.reg r139_7) (.cond (.tmp 24) (.seq (.fx r139_8 x139_8) (.pre ⟨[4], [], [], []⟩ .ret)) (.seq (.reg r139_9) (.cond (.tmp 44) (.seq (.reg r139_10) (.pre ⟨[4], [], [], []⟩ .ret)) (.seq (.reg r139_11) (.cond (.tmp 57) (.seq (.fx r139_12 x139_12) (.seq (.seq (.reg r139_13) (.cond (.tmp 81) (.seq (.reg r139_14) (.pre ⟨[4], [], [], []⟩ .ret)) .skip)) (.seq (.reg r139_15) (.pre ⟨[4], [], [], []⟩ .ret)))) (.post .skip ⟨[], [], [], []⟩))))))))
@[go_sem] def r139_0 : List PO := [⟨(some 4), (.assign (.const (.pointer none))), none⟩]
@[go_sem] def r139_1 : List PO := [pM 6 0,
 ⟨(some 7), (.nilCheck (.tmp 6)), none⟩,
 pF 8 173 7 0,
 pF 9 129 8 0,
 pL 10 3 9]
@[go_sem] def r139_2 : List PO := [pB 12 .eql 3 10 4 3,
 pA 11 12]
@[go_sem] def r139_3 : List PO := [⟨(some 13), (.call { callee := (.value (.func 150)), args := #[(.const (.int .i64 2)), (.const (.slice none 0 0))], argTypes := #[3, 171] }), none⟩,
 pA 4 13]
@[go_sem] def r139_4 : List PO := [pB 15 .eql 3 10 3 3,
 pA 14 15]
@[go_sem] def r139_16 : List PO := [⟨(some 94), (.call { callee := (.value (.func 150)), args := #[(.const (.int .i64 1)), (.const (.slice none 0 0))], argTypes := #[3, 171] }), none⟩,
 pA 4 94]
def c139 : PC := (.seq (.reg r139_0) (.seq (.seq (.reg r139_1) (.block 0 (.seq (.reg r139_2) (.cond (.tmp 11) (.seq (.reg r139_3) .ret) (.seq (.reg r139_4) (.pre ⟨[0, 1, 10, 14], [], [], []⟩ k139_1)))))) (.seq (.reg r139_16) .ret)))
def i139 : FnI := ⟨95, [(.tmp 4)], c139, 0, [[0], [0]], [[0]], true, false, 0, false⟩
@[go_sem] def r151_0 : List PO := [pN 5 false]
@[go_sem] def r151_1 : List PO := [pL 6 161 2,
 ⟨(some 7), (.nilCheck (.tmp 6)), none⟩,
 pF 8 173 7 1,
 pL 9 171 8,
 pM 10 0,
 pI 11 171 9 10,
 pL 12 161 11,
 ⟨(some 13), (.nilCheck (.tmp 12)), none⟩,
 pF 14 173 13 0,
 pF 15 129 14 0,
 pL 16 3 15,
 pM 17 1,
 pO 18 .eql 3 16 17 3,
 pA 5 18]
def c151 : PC := (.seq (.reg r151_0) (.seq (.reg r151_1) .ret))
def i151 : FnI := ⟨19, [(.tmp 5)], c151, 0, [[0], [0], [0]], [[0]], false, false, 0, false⟩
@[go_sem] def r153_3 : List PO := [pO 17 .lss 3 16 15 3]
@[go_sem] def r153_4 : List PO := [pI 18 171 14 16,
 pL 19 161 18,
 pA 5 19]
@[go_sem] def r153_5 : List PO := [pM 20 3,
 pM 21 5,
 pC 22 153 21 161,
 ⟨(some 23), (.call { callee := (.builtin .append), args := #[(.tmp 20), (.tmp 22)], argTypes := #[70, 70] }), none⟩,
 pA 3 23]
@[go_sem] def r153_6 : List PO := [pB 24 .add 3 16 1 3,
 pM 16 24]
def k153_1b : PC := (.seq (.reg r153_3) (.seq (.cond (.tmp 17) .skip (.pre ⟨[3], [.old 0], [], []⟩ (.exit 0))) (.seq (.block 1 (.seq (.reg r153_4) (.reg r153_5))) (.post (.reg r153_6) ⟨[3, 14, 15, 16], [.old 2], [], []⟩))))
@[go_sem] def r153_0 : List PO := [⟨(some 2), (.assign (.const (.slice none 0 0))), none⟩]
@[go_sem] def r153_1 : List PO := [pM 6 0,
 ⟨(some 7), (.nilCheck (.tmp 6)), none⟩,
 pF 8 173 7 0,
 pL 9 129 8,
 ⟨(some 10), (.buildSlice 70 1 #[(0, (.tmp 9))]), none⟩,
 pA 3 10]
@[go_sem] def r153_2 : List PO := [pM 11 0,
 ⟨(some 12), (.nilCheck (.tmp 11)), none⟩,
 pF 13 173 12 1,
 pL 14 171 13,
 pE 15 14 171,
 ⟨(some 16), (.move (.const (.int .i64 0))), none⟩]
@[go_sem] def r153_7 : List PO := [pM 25 3,
 pA 2 25]
def c153 : PC := (.seq (.reg r153_0) (.seq (.reg r153_1) (.seq (.seq (.reg r153_2) (.block 0 (.pre ⟨[3, 14, 15, 16], [.old 0], [], []⟩ (.loop k153_1b)))) (.seq (.reg r153_7) .ret))))
def i153 : FnI := ⟨26, [(.tmp 2)], c153, 0, [[0]], [[2]], false, false, 0, false⟩
@[go_sem] def r152_4 : List PO := [pO 14 .lss 3 13 12 3]
@[go_sem] def r152_5 : List PO := [pM 15 13,
 pA 5 15]
@[go_sem] def r152_6 : List PO := [pM 16 0,
 pM 17 5,
 pI 18 70 16 17,
 pL 19 129 18,
 pM 20 1,
 pM 21 5,
 pI 22 70 20 21,
 pL 23 129 22,
 pO 24 .neq 129 19 23 129]
@[go_sem] def r152_7 : List PO := [pN 4 false]
@[go_sem] def r152_8 : List PO := [pB 25 .add 3 13 1 3,
 pM 13 25]
def k152_1b : PC := (.seq (.reg r152_4) (.seq (.cond (.tmp 14) .skip (.pre ⟨[], [], [], []⟩ (.exit 0))) (.seq (.block 1 (.seq (.reg r152_5) (.seq (.fz r152_6) (.cond (.tmp 24) (.seq (.reg r152_7) (.pre ⟨[4], [], [], []⟩ .ret)) .skip)))) (.post (.reg r152_8) ⟨[0, 1, 12, 13], [], [], []⟩))))
@[go_sem] def r152_0 : List PO := [pN 4 false]
@[go_sem] def r152_1 : List PO := [pM 6 0,
 pE 7 6 70,
 pM 8 1,
 pE 9 8 70,
 pO 10 .neq 3 7 9 3]
@[go_sem] def r152_2 : List PO := [pN 4 false]
@[go_sem] def r152_3 : List PO := [pM 11 0,
 pE 12 11 70,
 ⟨(some 13), (.move (.const (.int .i64 0))), none⟩]
@[go_sem] def r152_9 : List PO := [pN 4 true]
def c152 : PC := (.seq (.reg r152_0) (.seq (.seq (.reg r152_1) (.cond (.tmp 10) (.seq (.reg r152_2) .ret) .skip)) (.seq (.seq (.reg r152_3) (.block 0 (.pre ⟨[0, 1, 12, 13], [], [], []⟩ (.loop k152_1b)))) (.seq (.reg r152_9) .ret))))
def i152 : FnI := ⟨26, [(.tmp 4)], c152, 0, [[2], [2]], [[0]], false, false, 0, false⟩
@[go_sem] def r140_3 : List PO := [pO 19 .lss 3 18 17 3]
@[go_sem] def r140_4 : List PO := [pI 20 171 16 18,
 pL 21 161 20,
 pA 5 21]
@[go_sem] def r140_5 : List PO := [pL 22 161 3,
 pL 23 161 3,
 ⟨(some 24), (.nilCheck (.tmp 23)), none⟩,
 pF 25 173 24 1,
 pL 26 171 25,
 pM 27 5,
 pC 28 140 27 161,
 ⟨(some 29), (.buildSlice 171 1 #[(0, (.tmp 28))]), none⟩,
 ⟨(some 30), (.call { callee := (.builtin .append), args := #[(.tmp 26), (.tmp 29)], argTypes := #[171, 171] }), none⟩,
 ⟨(some 31), (.nilCheck (.tmp 22)), none⟩,
 pF 32 173 31 1,
 ⟨none, (.store 171 (.tmp 32) (.tmp 30)), none⟩]
@[go_sem] def x140_5 : FxI := ⟨[6, 7, 8, 11], [none, none, none, none, none, none, none, none, none, none, none, none], 0, [[], [6], [6, 7], [6, 7, 8], [6, 7, 8, 11]], [], [(0, 1, 1), (0, 2, 2), (0, 3, 3), (1, 1, 1), (1, 2, 2), (4, 1, 1), (4, 2, 2)]⟩
@[go_sem] def r140_6 : List PO := [pB 33 .add 3 18 1 3,
 pM 18 33]
def k140_1b : PC := (.seq (.reg r140_3) (.seq (.cond (.tmp 19) .skip (.pre ⟨[0, 3], [.old 0, .old 1, .old 2], [], []⟩ (.exit 0))) (.seq (.block 1 (.seq (.reg r140_4) (.fx r140_5 x140_5))) (.post (.reg r140_6) ⟨[0, 3, 16, 17, 18], [.old 0, .old 1, .old 4], [], []⟩))))
@[go_sem] def r140_10 : List PO := [pM 43 6,
 ⟨(some 44), (.call { callee := (.value (.tmp 43)), args := #[(.const (.int .i64 0)), (.const (.int .i64 1))], argTypes := #[3, 3] }), none⟩,
 pM 45 44,
 ⟨(some 46), (.move (.tmp 6)), (some (45, false))⟩,
 ⟨(some 47), (.call { callee := (.value (.tmp 46)), args := #[(.const (.int .i64 1)), (.const (.int .i64 1))], argTypes := #[3, 3] }), (some (45, false))⟩,
 ⟨(some 48), (.pick (.tmp 45) (.const (.bool true)) (.tmp 47)), none⟩,
 pA 42 48]
def k140_3 : PC := (.post (.reg r140_10) ⟨[3, 6, 42], [.old 0], [], []⟩)
@[go_sem] def r140_19 : List PO := [pM 80 6,
 ⟨(some 81), (.call { callee := (.value (.tmp 80)), args := #[(.const (.int .i64 1)), (.const (.int .i64 1))], argTypes := #[3, 3] }), none⟩,
 pM 82 81,
 ⟨(some 83), (.load 161 (.tmp 3)), (some (82, false))⟩,
 ⟨(some 84), (.nilCheck (.tmp 83)), (some (82, false))⟩,
 ⟨(some 85), (.fieldAddr 173 (.tmp 84) 1), (some (82, false))⟩,
 ⟨(some 86), (.load 171 (.tmp 85)), (some (82, false))⟩,
 ⟨(some 87), (.indexAddr 171 (.tmp 86) (.const (.int .i64 0))), (some (82, false))⟩,
 ⟨(some 88), (.load 161 (.tmp 87)), (some (82, false))⟩,
 ⟨(some 89), (.call { callee := (.value (.func 153)), args := #[(.tmp 88)], argTypes := #[161] }), (some (82, false))⟩,
 ⟨(some 90), (.load 161 (.tmp 3)), (some (82, false))⟩,
 ⟨(some 91), (.nilCheck (.tmp 90)), (some (82, false))⟩,
 ⟨(some 92), (.fieldAddr 173 (.tmp 91) 1), (some (82, false))⟩,
 ⟨(some 93), (.load 171 (.tmp 92)), (some (82, false))⟩,
 ⟨(some 94), (.indexAddr 171 (.tmp 93) (.const (.int .i64 1))), (some (82, false))⟩,
 ⟨(some 95), (.load 161 (.tmp 94)), (some (82, false))⟩,
 ⟨(some 96), (.call { callee := (.value (.func 153)), args := #[(.tmp 95)], argTypes := #[161] }), (some (82, false))⟩,
 ⟨(some 97), (.call { callee := (.value (.func 152)), args := #[(.tmp 89), (.tmp 96)], argTypes := #[70, 70] }), (some (82, false))⟩,
 ⟨(some 98), (.pick (.tmp 82) (.const (.bool true)) (.tmp 97)), none⟩,
 pA 79 98]
def k140_5 : PC := (.post (.fz r140_19) ⟨[3, 79], [.old 0], [], []⟩)
@[go_sem] def r140_22 : List PO := [pM 108 6,
 ⟨(some 109), (.call { callee := (.value (.tmp 108)), args := #[(.const (.int .i64 0)), (.const (.int .i64 1))], argTypes := #[3, 3] }), none⟩,
 pM 110 109,
 ⟨(some 111), (.move (.tmp 6)), (some (110, false))⟩,
 ⟨(some 112), (.call { callee := (.value (.tmp 111)), args := #[(.const (.int .i64 0)), (.const (.int .i64 2))], argTypes := #[3, 3] }), (some (110, false))⟩,
 ⟨(some 113), (.pick (.tmp 110) (.const (.bool true)) (.tmp 112)), none⟩,
 pA 107 113]
def k140_7 : PC := (.post (.reg r140_22) ⟨[3, 6, 107], [.old 0], [], []⟩)
@[go_sem] def r140_23 : List PO := [⟨(some 114), (.call { callee := (.value (.func 150)), args := #[(.const (.int .i64 2)), (.const (.slice none 0 0))], argTypes := #[3, 171] }), none⟩,
 pA 2 114]
@[go_sem] def r140_24 : List PO := [pM 116 6,
 ⟨(some 117), (.call { callee := (.value (.tmp 116)), args := #[(.const (.int .i64 0)), (.const (.int .i64 7))], argTypes := #[3, 3] }), none⟩,
 pA 115 117]
@[go_sem] def r140_25 : List PO := [pL 118 161 3,
 ⟨(some 119), (.nilCheck (.tmp 118)), none⟩,
 pF 120 173 119 1,
 pL 121 171 120,
 ⟨(some 122), (.indexAddr 171 (.tmp 121) (.const (.int .i64 0))), none⟩,
 pL 123 161 122,
 pA 2 123]
def k140_6 : PC := (.cond (.tmp 105) (.block 5 (.seq (.pre ⟨[3, 6], [.old 0], [], []⟩ k140_7) (.cond (.tmp 107) (.seq (.reg r140_23) (.pre ⟨[2], [], [], []⟩ .ret)) (.seq (.reg r140_24) (.cond (.tmp 115) (.seq (.reg r140_25) (.pre ⟨[2], [], [], []⟩ .ret)) (.post .skip ⟨[3], [.old 0], [], []⟩)))))) (.post .skip ⟨[3], [.old 0], [], []⟩))
@[go_sem] def r140_17 : List PO := [pM 71 6,
 ⟨(some 72), (.call { callee := (.value (.tmp 71)), args := #[(.const (.int .i64 0)), (.const (.int .i64 1))], argTypes := #[3, 3] }), none⟩,
 pA 70 72]
@[go_sem] def r140_18 : List PO := [pL 73 161 3,
 ⟨(some 74), (.nilCheck (.tmp 73)), none⟩,
 pF 75 173 74 1,
 pL 76 171 75,
 ⟨(some 77), (.indexAddr 171 (.tmp 76) (.const (.int .i64 1))), none⟩,
 pL 78 161 77,
 pA 2 78]
@[go_sem] def r140_20 : List PO := [pL 99 161 3,
 ⟨(some 100), (.nilCheck (.tmp 99)), none⟩,
 pF 101 173 100 1,
 pL 102 171 101,
 ⟨(some 103), (.indexAddr 171 (.tmp 102) (.const (.int .i64 0))), none⟩,
 pL 104 161 103,
 pA 2 104]
@[go_sem] def r140_21 : List PO := [pB 106 .eql 3 39 7 3,
 pA 105 106]
def k140_4 : PC := (.cond (.tmp 68) (.block 4 (.seq (.reg r140_17) (.cond (.tmp 70) (.seq (.reg r140_18) (.pre ⟨[2], [], [], []⟩ .ret)) (.seq (.pre ⟨[3, 6], [.old 0], [], []⟩ k140_5) (.cond (.tmp 79) (.seq (.reg r140_20) (.pre ⟨[2], [], [], []⟩ .ret)) (.post .skip ⟨[3], [.old 0], [], []⟩)))))) (.seq (.reg r140_21) (.post (.pre ⟨[3, 6, 105], [.old 0], [], []⟩ k140_6) ⟨[3], [.old 0], [], []⟩)))
@[go_sem] def r140_11 : List PO := [⟨(some 49), (.call { callee := (.value (.func 150)), args := #[(.const (.int .i64 1)), (.const (.slice none 0 0))], argTypes := #[3, 171] }), none⟩,
 pA 2 49]
@[go_sem] def r140_12 : List PO := [pM 51 6,
 ⟨(some 52), (.call { callee := (.value (.tmp 51)), args := #[(.const (.int .i64 0)), (.const (.int .i64 2))], argTypes := #[3, 3] }), none⟩,
 pA 50 52]
@[go_sem] def r140_13 : List PO := [pL 53 161 3,
 ⟨(some 54), (.nilCheck (.tmp 53)), none⟩,
 pF 55 173 54 1,
 pL 56 171 55,
 ⟨(some 57), (.indexAddr 171 (.tmp 56) (.const (.int .i64 1))), none⟩,
 pL 58 161 57,
 pA 2 58]
@[go_sem] def r140_14 : List PO := [pM 60 6,
 ⟨(some 61), (.call { callee := (.value (.tmp 60)), args := #[(.const (.int .i64 1)), (.const (.int .i64 2))], argTypes := #[3, 3] }), none⟩,
 pA 59 61]
@[go_sem] def r140_15 : List PO := [pL 62 161 3,
 ⟨(some 63), (.nilCheck (.tmp 62)), none⟩,
 pF 64 173 63 1,
 pL 65 171 64,
 ⟨(some 66), (.indexAddr 171 (.tmp 65) (.const (.int .i64 0))), none⟩,
 pL 67 161 66,
 pA 2 67]
@[go_sem] def r140_16 : List PO := [pB 69 .eql 3 39 6 3,
 pA 68 69]
def k140_2 : PC := (.cond (.tmp 40) (.block 3 (.seq (.pre ⟨[3, 6], [.old 0], [], []⟩ k140_3) (.cond (.tmp 42) (.seq (.reg r140_11) (.pre ⟨[2], [], [], []⟩ .ret)) (.seq (.reg r140_12) (.cond (.tmp 50) (.seq (.reg r140_13) (.pre ⟨[2], [], [], []⟩ .ret)) (.seq (.reg r140_14) (.cond (.tmp 59) (.seq (.reg r140_15) (.pre ⟨[2], [], [], []⟩ .ret)) (.post .skip ⟨[3], [.old 0], [], []⟩)))))))) (.seq (.reg r140_16) (.post (.pre ⟨[3, 6, 39, 68], [.old 0], [], []⟩ k140_4) ⟨[3], [.old 0], [], []⟩)))
@[go_sem] def r140_0 : List PO := [⟨(some 2), (.assign (.const (.pointer none))), none⟩]
@[go_sem] def r140_1 : List PO := [pM 7 0,
 ⟨(some 8), (.nilCheck (.tmp 7)), none⟩,
 pF 9 173 8 0,
 pL 10 129 9,
 ⟨(some 11), (.build 173 #[(0, (.tmp 10))]), none⟩,
 pX 12 173 11,
 ⟨(some 3), (.alloc 161), none⟩,
 ⟨none, (.store 161 (.tmp 3) (.tmp 12)), none⟩]
@[go_sem] def r140_2 : List PO := [pM 13 0,
 ⟨(some 14), (.nilCheck (.tmp 13)), none⟩,
 pF 15 173 14 1,
 pL 16 171 15,
 pE 17 16 171,
 ⟨(some 18), (.move (.const (.int .i64 0))), none⟩]
@[go_sem] def r140_7 : List PO := [⟨(some 34), (.makeFunc (.func 151) #[] #[(.tmp 3)]), none⟩,
 pA 6 34]
@[go_sem] def r140_8 : List PO := [pM 35 0,
 ⟨(some 36), (.nilCheck (.tmp 35)), none⟩,
 pF 37 173 36 0,
 pF 38 129 37 0,
 pL 39 3 38]
@[go_sem] def r140_9 : List PO := [pB 41 .eql 3 39 5 3,
 pA 40 41]
@[go_sem] def r140_26 : List PO := [pL 124 161 3,
 pA 2 124]
def c140 : PC := (.seq (.reg r140_0) (.seq (.reg r140_1) (.seq (.seq (.reg r140_2) (.block 0 (.pre ⟨[0, 3, 16, 17, 18], [.old 1, .old 0, .nilB 0 2 1], [], []⟩ (.loop k140_1b)))) (.seq (.pre ⟨[0, 3], [.old 0], [], [(0, 0, 0)]⟩ (.reg r140_7)) (.seq (.seq (.reg r140_8) (.block 2 (.seq (.reg r140_9) (.pre ⟨[3, 6, 39, 40], [.old 0], [], []⟩ k140_2)))) (.seq (.reg r140_26) .ret))))))
def i140 : FnI := ⟨125, [(.tmp 2)], c140, 0, [[0]], [[0]], true, false, 0, false⟩
@[go_sem] def r115_3 : List PO := [pO 17 .lss 3 16 15 3]
@[go_sem] def r115_4 : List PO := [pI 18 24 14 16,
 pL 19 3 18,
 pA 8 19]
@[go_sem] def r115_5 : List PO := [pM 20 5,
 pM 21 8,
 pC2 22 139 20 21 161 3,
 pC 23 140 22 161,
 pA 5 23]
@[go_sem] def r115_6 : List PO := [pB 24 .add 3 16 1 3,
 pM 16 24]
def k115_1b : PC := (.seq (.reg r115_3) (.seq (.cond (.tmp 17) .skip (.pre ⟨[5], [], [], []⟩ (.exit 0))) (.seq (.block 1 (.seq (.reg r115_4) (.reg r115_5))) (.post (.reg r115_6) ⟨[5, 14, 15, 16], [], [], []⟩))))
@[go_sem] def r115_0 : List PO := [pN 4 false]
@[go_sem] def r115_1 : List PO := [pM 10 0,
 pC 11 138 10 70,
 pM 9 11,
 ⟨(some 12), (.extract (.tmp 9) 0), none⟩,
 ⟨(some 13), (.extract (.tmp 9) 1), none⟩,
 pA 5 12,
 pA 6 13]
@[go_sem] def r115_2 : List PO := [pM 14 1,
 pE 15 14 24,
 ⟨(some 16), (.move (.const (.int .i64 0))), none⟩]
@[go_sem] def r115_7 : List PO := [pM 25 5,
 pC 26 141 25 161,
 pA 4 26]
def c115 : PC := (.seq (.reg r115_0) (.seq (.reg r115_1) (.seq (.seq (.reg r115_2) (.block 0 (.pre ⟨[5, 14, 15, 16], [], [], []⟩ (.loop k115_1b)))) (.seq (.reg r115_7) .ret))))
def i115 : FnI := ⟨27, [(.tmp 4)], c115, 0, [[2], [1]], [[0]], false, false, 0, false⟩
@[go_sem] def r149_0 : List PO := [pX 1 31 0,
 pK 2 0]
@[go_sem] def r149_1 : List PO := [pF 3 31 1 0,
 pL 4 3 3,
 pF 5 31 1 1,
 pL 6 3 5,
 pC 7 77 6 3,
 pO 8 .add 3 4 7 3,
 pB 9 .sub 3 8 1 3,
 pA 2 9]
def c149 : PC := (.seq (.reg r149_0) (.seq (.fz r149_1) .ret))
def i149 : FnI := ⟨10, [(.tmp 2)], c149, 0, [[0, 0]], [[0]], false, false, 0, false⟩
@[go_sem] def r137_0 : List PO := [pX 2 31 0,
 pN 4 false]
@[go_sem] def r137_1 : List PO := [pM 5 1,
 pF 6 31 2 0,
 pL 7 3 6,
 pL 8 31 2,
 pC 9 149 8 31,
 pC3 10 75 5 7 9 3 3 3,
 pA 4 10]
def c137 : PC := (.seq (.reg r137_0) (.seq (.fz r137_1) .ret))
def i137 : FnI := ⟨11, [(.tmp 4)], c137, 0, [[0, 0], [0]], [[0]], false, false, 0, false⟩
@[go_sem] def r114_1 : List PO := [pF 5 31 2 1,
 pL 6 3 5,
 pF 7 31 3 1,
 pL 8 3 7,
 pO 9 .leq 3 6 8 3,
 pM 10 9,
 ⟨(some 11), (.load 31 (.tmp 2)), (some (10, true))⟩,
 ⟨(some 12), (.fieldAddr 31 (.tmp 3) 0), (some (10, true))⟩,
 ⟨(some 13), (.load 3 (.tmp 12)), (some (10, true))⟩,
 ⟨(some 14), (.call { callee := (.value (.func 137)), args := #[(.tmp 11), (.tmp 13)], argTypes := #[31, 3] }), (some (10, true))⟩,
 ⟨(some 15), (.pick (.tmp 10) (.tmp 14) (.const (.bool false))), none⟩,
 pA 4 15]
def k114_1 : PC := (.post (.reg r114_1) ⟨[4], [], [], []⟩)
@[go_sem] def r114_0 : List PO := [pX 2 31 0,
 pX 3 31 1,
 pN 4 false]
def c114 : PC := (.seq (.reg r114_0) (.seq (.pre ⟨[2, 3], [.old 0, .old 1], [], []⟩ k114_1) .ret))
def i114 : FnI := ⟨16, [(.tmp 4)], c114, 0, [[0, 0], [0, 0]], [[0]], false, false, 0, false⟩
@[go_sem] def r113_1 : List PO := [pF 4 114 2 0,
 pL 5 31 4,
 pF 6 34 1 0,
 pL 7 31 6,
 pC2 8 114 5 7 31 31,
 pM 9 8,
 ⟨(some 10), (.fieldAddr 34 (.tmp 1) 0), (some (9, true))⟩,
 ⟨(some 11), (.fieldAddr 31 (.tmp 10) 1), (some (9, true))⟩,
 ⟨(some 12), (.load 3 (.tmp 11)), (some (9, true))⟩,
 ⟨(some 13), (.fieldAddr 114 (.tmp 2) 1), (some (9, true))⟩,
 ⟨(some 14), (.load 3 (.tmp 13)), (some (9, true))⟩,
 ⟨(some 15), (.fieldAddr 114 (.tmp 2) 2), (some (9, true))⟩,
 ⟨(some 16), (.load 3 (.tmp 15)), (some (9, true))⟩,
 ⟨(some 17), (.call { callee := (.value (.func 75)), args := #[(.tmp 12), (.tmp 14), (.tmp 16)], argTypes := #[3, 3, 3] }), (some (9, true))⟩,
 ⟨(some 18), (.pick (.tmp 9) (.tmp 17) (.const (.bool false))), none⟩,
 pA 3 18]
def k113_1 : PC := (.post (.reg r113_1) ⟨[3], [], [], []⟩)
@[go_sem] def r113_0 : List PO := [pX 2 114 0,
 pN 3 false]
def c113 : PC := (.seq (.reg r113_0) (.seq (.pre ⟨[1, 2], [.old 0], [], []⟩ k113_1) .ret))
def i113 : FnI := ⟨19, [(.tmp 3)], c113, 0, [[0, 0, 0, 0], [0]], [[0]], false, false, 0, false⟩
@[go_sem] def r66_2 : List PO := [pF 7 73 2 0,
 pL 8 69 7,
 pE 9 8 69,
 pB 10 .eql 3 9 0 3,
 pM 11 10,
 ⟨(some 12), (.fieldAddr 73 (.tmp 2) 0), (some (11, false))⟩,
 ⟨(some 13), (.load 69 (.tmp 12)), (some (11, false))⟩,
 ⟨(some 14), (.move (.tmp 5)), (some (11, false))⟩,
 ⟨(some 15), (.call { callee := (.value (.func 85)), args := #[(.tmp 13), (.tmp 14)], argTypes := #[69, 118] }), (some (11, false))⟩,
 ⟨(some 16), (.pick (.tmp 11) (.const (.bool true)) (.tmp 15)), none⟩,
 pM 17 16,
 ⟨(some 18), (.fieldAddr 73 (.tmp 2) 1), (some (17, true))⟩,
 ⟨(some 19), (.load 70 (.tmp 18)), (some (17, true))⟩,
 ⟨(some 20), (.call { callee := (.builtin .len), args := #[(.tmp 19)], argTypes := #[70] }), (some (17, true))⟩,
 ⟨(some 21), (.binOp .eql 3 (.tmp 20) (.const (.int .i64 0)) 3), (some (17, true))⟩,
 ⟨(some 22), (.move (.tmp 21)), (some (17, true))⟩,
 ⟨(some 23), (.fieldAddr 73 (.tmp 2) 1), (some (22, false))⟩,
 ⟨(some 24), (.load 70 (.tmp 23)), (some (22, false))⟩,
 ⟨(some 25), (.fieldAddr 34 (.tmp 3) 1), (some (22, false))⟩,
 ⟨(some 26), (.fieldAddr 32 (.tmp 25) 1), (some (22, false))⟩,
 ⟨(some 27), (.load 24 (.tmp 26)), (some (22, false))⟩,
 ⟨(some 28), (.call { callee := (.value (.func 115)), args := #[(.tmp 24), (.tmp 27)], argTypes := #[70, 24] }), (some (22, false))⟩,
 ⟨(some 29), (.pick (.tmp 22) (.const (.bool true)) (.tmp 28)), (some (17, true))⟩,
 ⟨(some 30), (.pick (.tmp 17) (.tmp 29) (.const (.bool false))), none⟩,
 pM 31 30,
 ⟨(some 32), (.fieldAddr 73 (.tmp 2) 2), (some (31, true))⟩,
 ⟨(some 33), (.load 3 (.tmp 32)), (some (31, true))⟩,
 ⟨(some 34), (.binOp .eql 3 (.tmp 33) (.const (.int .i64 (-1))) 3), (some (31, true))⟩,
 ⟨(some 35), (.move (.tmp 34)), (some (31, true))⟩,
 ⟨(some 36), (.fieldAddr 34 (.tmp 3) 1), (some (35, false))⟩,
 ⟨(some 37), (.fieldAddr 32 (.tmp 36) 5), (some (35, false))⟩,
 ⟨(some 38), (.load 24 (.tmp 37)), (some (35, false))⟩,
 ⟨(some 39), (.fieldAddr 73 (.tmp 2) 2), (some (35, false))⟩,
 ⟨(some 40), (.load 3 (.tmp 39)), (some (35, false))⟩,
 ⟨(some 41), (.call { callee := (.value (.func 116)), args := #[(.tmp 38), (.tmp 40)], argTypes := #[24, 3] }), (some (35, false))⟩,
 ⟨(some 42), (.pick (.tmp 35) (.const (.bool true)) (.tmp 41)), (some (31, true))⟩,
 ⟨(some 43), (.pick (.tmp 31) (.tmp 42) (.const (.bool false))), none⟩,
 pA 4 43]
def k66_1 : PC := (.post (.reg r66_2) ⟨[4], [], [], []⟩)
@[go_sem] def r66_0 : List PO := [pX 2 73 0,
 pX 3 34 1,
 pN 4 false]
@[go_sem] def r66_1 : List PO := [⟨(some 6), (.makeFunc (.func 113) #[] #[(.tmp 3)]), none⟩,
 pA 5 6]
def c66 : PC := (.seq (.reg r66_0) (.seq (.reg r66_1) (.seq (.pre ⟨[2, 3, 5], [.old 0, .old 1], [], []⟩ k66_1) .ret)))
def i66 : FnI := ⟨44, [(.tmp 4)], c66, 0, [[4, 2, 0, 2, 0], [0, 0, 0, 1, 0, 0, 0, 1]], [[0]], false, false, 0, false⟩
@[go_sem] def r30_1 : List PO := [pL 6 73 2,
 pC 7 46 6 73,
 ⟨(some 8), (.unOp .not 4 (.tmp 7)), none⟩,
 pM 9 8,
 ⟨(some 10), (.load 34 (.tmp 3)), (some (9, false))⟩,
 ⟨(some 11), (.call { callee := (.value (.func 11)), args := #[(.tmp 10)], argTypes := #[34] }), (some (9, false))⟩,
 ⟨(some 12), (.unOp .not 4 (.tmp 11)), (some (9, false))⟩,
 ⟨(some 13), (.pick (.tmp 9) (.const (.bool true)) (.tmp 12)), none⟩]
def k30_1 : PC := (.post (.reg r30_1) ⟨[2, 3, 13], [.old 0, .old 1], [], []⟩)
@[go_sem] def r30_0 : List PO := [pX 2 73 0,
 pX 3 34 1,
 pN 4 false,
 pN 5 false]
@[go_sem] def r30_2 : List PO := [pN 4 false,
 pN 5 false]
@[go_sem] def r30_3 : List PO := [pL 14 73 2,
 pL 15 34 3,
 pC2 16 66 14 15 73 34,
 pA 4 16,
 pN 5 true]
def c30 : PC := (.seq (.reg r30_0) (.seq (.seq (.pre ⟨[2, 3], [.old 0, .old 1], [], []⟩ k30_1) (.cond (.tmp 13) (.seq (.reg r30_2) .ret) .skip)) (.seq (.reg r30_3) .ret)))
def i30 : FnI := ⟨17, [(.tmp 4), (.tmp 5)], c30, 0, [[4, 2, 0, 2, 0], [0, 0, 0, 1, 0, 0, 0, 1]], [[0], [0]], false, false, 0, false⟩
@[go_sem] def r39_0 : List PO := [pX 2 31 0,
 pX 3 31 1,
 pN 4 false]
@[go_sem] def r39_1 : List PO := [pF 5 31 2 0,
 pL 6 3 5,
 pF 7 31 3 0,
 pL 8 3 7,
 pO 9 .neq 3 6 8 3]
@[go_sem] def r39_2 : List PO := [pN 4 false]
@[go_sem] def r39_3 : List PO := [pF 10 31 2 1,
 pL 11 3 10,
 pF 12 31 3 1,
 pL 13 3 12,
 pO 14 .neq 3 11 13 3]
@[go_sem] def r39_4 : List PO := [pN 4 false]
@[go_sem] def r39_5 : List PO := [pN 4 true]
def c39 : PC := (.seq (.reg r39_0) (.seq (.seq (.reg r39_1) (.cond (.tmp 9) (.seq (.reg r39_2) .ret) .skip)) (.seq (.seq (.reg r39_3) (.cond (.tmp 14) (.seq (.reg r39_4) .ret) .skip)) (.seq (.reg r39_5) .ret))))
def i39 : FnI := ⟨15, [(.tmp 4)], c39, 0, [[0, 0], [0, 0]], [[0]], false, false, 0, false⟩
@[go_sem] def r117_0 : List PO := [pX 2 114 0,
 pX 3 114 1,
 pN 4 false]
@[go_sem] def r117_1 : List PO := [pF 5 114 2 0,
 pL 6 31 5,
 pF 7 114 3 0,
 pL 8 31 7,
 pC2 9 39 6 8 31 31,
 ⟨(some 10), (.unOp .not 4 (.tmp 9)), none⟩]
@[go_sem] def r117_2 : List PO := [pN 4 false]
@[go_sem] def r117_3 : List PO := [pF 11 114 2 1,
 pL 12 3 11,
 pF 13 114 3 1,
 pL 14 3 13,
 pO 15 .neq 3 12 14 3]
@[go_sem] def r117_4 : List PO := [pN 4 false]
@[go_sem] def r117_5 : List PO := [pF 16 114 2 2,
 pL 17 3 16,
 pF 18 114 3 2,
 pL 19 3 18,
 pO 20 .neq 3 17 19 3]
@[go_sem] def r117_6 : List PO := [pN 4 false]
@[go_sem] def r117_7 : List PO := [pN 4 true]
def c117 : PC := (.seq (.reg r117_0) (.seq (.seq (.reg r117_1) (.cond (.tmp 10) (.seq (.reg r117_2) .ret) .skip)) (.seq (.seq (.reg r117_3) (.cond (.tmp 15) (.seq (.reg r117_4) .ret) .skip)) (.seq (.seq (.reg r117_5) (.cond (.tmp 20) (.seq (.reg r117_6) .ret) .skip)) (.seq (.reg r117_7) .ret)))))
def i117 : FnI := ⟨21, [(.tmp 4)], c117, 0, [[0, 0, 0, 0], [0, 0, 0, 0]], [[0]], false, false, 0, false⟩
@[go_sem] def r67_4 : List PO := [pM 11 5,
 pM 12 0,
 pE 13 12 69,
 pO 14 .lss 3 11 13 3]
@[go_sem] def r67_6 : List PO := [pM 17 0,
 pM 18 5,
 pI 19 69 17 18,
 pL 20 114 19,
 pM 21 1,
 pM 22 5,
 pI 23 69 21 22,
 pL 24 114 23,
 pC2 25 117 20 24 114 114,
 ⟨(some 26), (.unOp .not 4 (.tmp 25)), none⟩]
@[go_sem] def r67_7 : List PO := [pN 4 false]
@[go_sem] def r67_5 : List PO := [pM 15 5,
 pB 16 .add 3 15 1 3,
 pA 5 16]
def k67_1b : PC := (.seq (.seq (.reg r67_4) (.cond (.tmp 14) .skip (.pre ⟨[], [], [], []⟩ (.exit 0)))) (.seq (.block 1 (.seq (.fz r67_6) (.cond (.tmp 26) (.seq (.reg r67_7) (.pre ⟨[4], [], [], []⟩ .ret)) .skip))) (.post (.reg r67_5) ⟨[0, 1, 5], [], [], []⟩)))
@[go_sem] def r67_0 : List PO := [pN 4 false]
@[go_sem] def r67_1 : List PO := [pM 6 0,
 pE 7 6 69,
 pM 8 1,
 pE 9 8 69,
 pO 10 .neq 3 7 9 3]
@[go_sem] def r67_2 : List PO := [pN 4 false]
@[go_sem] def r67_3 : List PO := [pK 5 0]
@[go_sem] def r67_8 : List PO := [pN 4 true]
def c67 : PC := (.seq (.reg r67_0) (.seq (.seq (.reg r67_1) (.cond (.tmp 10) (.seq (.reg r67_2) .ret) .skip)) (.seq (.seq (.reg r67_3) (.block 0 (.pre ⟨[0, 1, 5], [], [], []⟩ (.loop k67_1b)))) (.seq (.reg r67_8) .ret))))
def i67 : FnI := ⟨27, [(.tmp 4)], c67, 0, [[4], [4]], [[0]], false, false, 0, false⟩
@[go_sem] def r118_0 : List PO := [pX 2 129 0,
 pX 3 129 1,
 pN 4 false]
@[go_sem] def r118_1 : List PO := [pF 5 129 2 0,
 pL 6 3 5,
 pF 7 129 3 0,
 pL 8 3 7,
 pO 9 .neq 3 6 8 3]
@[go_sem] def r118_2 : List PO := [pN 4 false]
@[go_sem] def r118_3 : List PO := [pF 10 129 2 1,
 pL 11 3 10,
 pF 12 129 3 1,
 pL 13 3 12,
 pO 14 .neq 3 11 13 3]
@[go_sem] def r118_4 : List PO := [pN 4 false]
@[go_sem] def r118_5 : List PO := [pN 4 true]
def c118 : PC := (.seq (.reg r118_0) (.seq (.seq (.reg r118_1) (.cond (.tmp 9) (.seq (.reg r118_2) .ret) .skip)) (.seq (.seq (.reg r118_3) (.cond (.tmp 14) (.seq (.reg r118_4) .ret) .skip)) (.seq (.reg r118_5) .ret))))
def i118 : FnI := ⟨15, [(.tmp 4)], c118, 0, [[0, 0], [0, 0]], [[0]], false, false, 0, false⟩
@[go_sem] def r68_4 : List PO := [pM 11 5,
 pM 12 0,
 pE 13 12 70,
 pO 14 .lss 3 11 13 3]
@[go_sem] def r68_6 : List PO := [pM 17 0,
 pM 18 5,
 pI 19 70 17 18,
 pL 20 129 19,
 pM 21 1,
 pM 22 5,
 pI 23 70 21 22,
 pL 24 129 23,
 pC2 25 118 20 24 129 129,
 ⟨(some 26), (.unOp .not 4 (.tmp 25)), none⟩]
@[go_sem] def r68_7 : List PO := [pN 4 false]
@[go_sem] def r68_5 : List PO := [pM 15 5,
 pB 16 .add 3 15 1 3,
 pA 5 16]
def k68_1b : PC := (.seq (.seq (.reg r68_4) (.cond (.tmp 14) .skip (.pre ⟨[], [], [], []⟩ (.exit 0)))) (.seq (.block 1 (.seq (.fz r68_6) (.cond (.tmp 26) (.seq (.reg r68_7) (.pre ⟨[4], [], [], []⟩ .ret)) .skip))) (.post (.reg r68_5) ⟨[0, 1, 5], [], [], []⟩)))
@[go_sem] def r68_0 : List PO := [pN 4 false]
@[go_sem] def r68_1 : List PO := [pM 6 0,
 pE 7 6 70,
 pM 8 1,
 pE 9 8 70,
 pO 10 .neq 3 7 9 3]
@[go_sem] def r68_2 : List PO := [pN 4 false]
@[go_sem] def r68_3 : List PO := [pK 5 0]
@[go_sem] def r68_8 : List PO := [pN 4 true]
def c68 : PC := (.seq (.reg r68_0) (.seq (.seq (.reg r68_1) (.cond (.tmp 10) (.seq (.reg r68_2) .ret) .skip)) (.seq (.seq (.reg r68_3) (.block 0 (.pre ⟨[0, 1, 5], [], [], []⟩ (.loop k68_1b)))) (.seq (.reg r68_8) .ret))))
def i68 : FnI := ⟨27, [(.tmp 4)], c68, 0, [[2], [2]], [[0]], false, false, 0, false⟩
@[go_sem] def r119_0 : List PO := [pX 2 53 0,
 pX 3 53 1,
 pN 4 false]
@[go_sem] def r119_1 : List PO := [pF 5 53 2 0,
 pL 6 3 5,
 pF 7 53 3 0,
 pL 8 3 7,
 pO 9 .neq 3 6 8 3]
@[go_sem] def r119_2 : List PO := [pN 4 false]
@[go_sem] def r119_3 : List PO := [pF 10 53 2 1,
 pL 11 3 10,
 pF 12 53 3 1,
 pL 13 3 12,
 pO 14 .neq 3 11 13 3]
@[go_sem] def r119_4 : List PO := [pN 4 false]
@[go_sem] def r119_5 : List PO := [pN 4 true]
def c119 : PC := (.seq (.reg r119_0) (.seq (.seq (.reg r119_1) (.cond (.tmp 9) (.seq (.reg r119_2) .ret) .skip)) (.seq (.seq (.reg r119_3) (.cond (.tmp 14) (.seq (.reg r119_4) .ret) .skip)) (.seq (.reg r119_5) .ret))))
def i119 : FnI := ⟨15, [(.tmp 4)], c119, 0, [[0, 0], [0, 0]], [[0]], false, false, 0, false⟩
@[go_sem] def r69_4 : List PO := [pM 11 5,
 pM 12 0,
 pE 13 12 71,
 pO 14 .lss 3 11 13 3]
@[go_sem] def r69_6 : List PO := [pM 17 0,
 pM 18 5,
 pI 19 71 17 18,
 pL 20 53 19,
 pM 21 1,
 pM 22 5,
 pI 23 71 21 22,
 pL 24 53 23,
 pC2 25 119 20 24 53 53,
 ⟨(some 26), (.unOp .not 4 (.tmp 25)), none⟩]
@[go_sem] def r69_7 : List PO := [pN 4 false]
@[go_sem] def r69_5 : List PO := [pM 15 5,
 pB 16 .add 3 15 1 3,
 pA 5 16]
def k69_1b : PC := (.seq (.seq (.reg r69_4) (.cond (.tmp 14) .skip (.pre ⟨[], [], [], []⟩ (.exit 0)))) (.seq (.block 1 (.seq (.fz r69_6) (.cond (.tmp 26) (.seq (.reg r69_7) (.pre ⟨[4], [], [], []⟩ .ret)) .skip))) (.post (.reg r69_5) ⟨[0, 1, 5], [], [], []⟩)))
@[go_sem] def r69_0 : List PO := [pN 4 false]
@[go_sem] def r69_1 : List PO := [pM 6 0,
 pE 7 6 71,
 pM 8 1,
 pE 9 8 71,
 pO 10 .neq 3 7 9 3]
@[go_sem] def r69_2 : List PO := [pN 4 false]
@[go_sem] def r69_3 : List PO := [pK 5 0]
@[go_sem] def r69_8 : List PO := [pN 4 true]
def c69 : PC := (.seq (.reg r69_0) (.seq (.seq (.reg r69_1) (.cond (.tmp 10) (.seq (.reg r69_2) .ret) .skip)) (.seq (.seq (.reg r69_3) (.block 0 (.pre ⟨[0, 1, 5], [], [], []⟩ (.loop k69_1b)))) (.seq (.reg r69_8) .ret))))
def i69 : FnI := ⟨27, [(.tmp 4)], c69, 0, [[2], [2]], [[0]], false, false, 0, false⟩
@[go_sem] def r31_0 : List PO := [pX 2 73 0,
 pX 3 73 1,
 pN 4 false]
@[go_sem] def r31_1 : List PO := [pF 5 73 2 0,
 pL 6 69 5,
 pF 7 73 3 0,
 pL 8 69 7,
 pC2 9 67 6 8 69 69,
 ⟨(some 10), (.unOp .not 4 (.tmp 9)), none⟩]
@[go_sem] def r31_2 : List PO := [pN 4 false]
@[go_sem] def r31_3 : List PO := [pF 11 73 2 1,
 pL 12 70 11,
 pF 13 73 3 1,
 pL 14 70 13,
 pC2 15 68 12 14 70 70,
 ⟨(some 16), (.unOp .not 4 (.tmp 15)), none⟩]
@[go_sem] def r31_4 : List PO := [pN 4 false]
@[go_sem] def r31_5 : List PO := [pF 17 73 2 2,
 pL 18 3 17,
 pF 19 73 3 2,
 pL 20 3 19,
 pO 21 .neq 3 18 20 3]
@[go_sem] def r31_6 : List PO := [pN 4 false]
@[go_sem] def r31_7 : List PO := [pF 22 73 2 3,
 pL 23 71 22,
 pF 24 73 3 3,
 pL 25 71 24,
 pC2 26 69 23 25 71 71,
 ⟨(some 27), (.unOp .not 4 (.tmp 26)), none⟩]
@[go_sem] def r31_8 : List PO := [pN 4 false]
@[go_sem] def r31_9 : List PO := [pF 28 73 2 4,
 pL 29 3 28,
 pF 30 73 3 4,
 pL 31 3 30,
 pO 32 .neq 3 29 31 3]
@[go_sem] def r31_10 : List PO := [pN 4 false]
@[go_sem] def r31_11 : List PO := [pN 4 true]
def c31 : PC := (.seq (.reg r31_0) (.seq (.seq (.reg r31_1) (.cond (.tmp 10) (.seq (.reg r31_2) .ret) .skip)) (.seq (.seq (.reg r31_3) (.cond (.tmp 16) (.seq (.reg r31_4) .ret) .skip)) (.seq (.seq (.reg r31_5) (.cond (.tmp 21) (.seq (.reg r31_6) .ret) .skip)) (.seq (.seq (.reg r31_7) (.cond (.tmp 27) (.seq (.reg r31_8) .ret) .skip)) (.seq (.seq (.reg r31_9) (.cond (.tmp 32) (.seq (.reg r31_10) .ret) .skip)) (.seq (.reg r31_11) .ret)))))))
def i31 : FnI := ⟨33, [(.tmp 4)], c31, 0, [[4, 2, 0, 2, 0], [4, 2, 0, 2, 0]], [[0]], false, false, 0, false⟩
@[go_sem] def r81_4 : List PO := [pM 11 5,
 pM 12 0,
 pE 13 12 24,
 pO 14 .lss 3 11 13 3]
@[go_sem] def r81_6 : List PO := [pM 17 0,
 pM 18 5,
 pI 19 24 17 18,
 pL 20 3 19,
 pM 21 1,
 pM 22 5,
 pI 23 24 21 22,
 pL 24 3 23,
 pO 25 .neq 3 20 24 3]
@[go_sem] def r81_7 : List PO := [pN 4 false]
@[go_sem] def r81_5 : List PO := [pM 15 5,
 pB 16 .add 3 15 1 3,
 pA 5 16]
def k81_1b : PC := (.seq (.seq (.reg r81_4) (.cond (.tmp 14) .skip (.pre ⟨[], [], [], []⟩ (.exit 0)))) (.seq (.block 1 (.seq (.fz r81_6) (.cond (.tmp 25) (.seq (.reg r81_7) (.pre ⟨[4], [], [], []⟩ .ret)) .skip))) (.post (.reg r81_5) ⟨[0, 1, 5], [], [], []⟩)))
@[go_sem] def r81_0 : List PO := [pN 4 false]
@[go_sem] def r81_1 : List PO := [pM 6 0,
 pE 7 6 24,
 pM 8 1,
 pE 9 8 24,
 pO 10 .neq 3 7 9 3]
@[go_sem] def r81_2 : List PO := [pN 4 false]
@[go_sem] def r81_3 : List PO := [pK 5 0]
@[go_sem] def r81_8 : List PO := [pN 4 true]
def c81 : PC := (.seq (.reg r81_0) (.seq (.seq (.reg r81_1) (.cond (.tmp 10) (.seq (.reg r81_2) .ret) .skip)) (.seq (.seq (.reg r81_3) (.block 0 (.pre ⟨[0, 1, 5], [], [], []⟩ (.loop k81_1b)))) (.seq (.reg r81_8) .ret))))
def i81 : FnI := ⟨26, [(.tmp 4)], c81, 0, [[1], [1]], [[0]], false, false, 0, false⟩
@[go_sem] def r40_0 : List PO := [pX 2 32 0,
 pX 3 32 1,
 pN 4 false]
@[go_sem] def r40_1 : List PO := [pF 5 32 2 0,
 pL 6 3 5,
 pF 7 32 3 0,
 pL 8 3 7,
 pO 9 .neq 3 6 8 3]
@[go_sem] def r40_2 : List PO := [pN 4 false]
@[go_sem] def r40_3 : List PO := [pF 10 32 2 1,
 pL 11 24 10,
 pF 12 32 3 1,
 pL 13 24 12,
 pC2 14 81 11 13 24 24,
 ⟨(some 15), (.unOp .not 4 (.tmp 14)), none⟩]
@[go_sem] def r40_4 : List PO := [pN 4 false]
@[go_sem] def r40_5 : List PO := [pF 16 32 2 2,
 pL 17 3 16,
 pF 18 32 3 2,
 pL 19 3 18,
 pO 20 .neq 3 17 19 3]
@[go_sem] def r40_6 : List PO := [pN 4 false]
@[go_sem] def r40_7 : List PO := [pF 21 32 2 3,
 pL 22 3 21,
 pF 23 32 3 3,
 pL 24 3 23,
 pO 25 .neq 3 22 24 3]
@[go_sem] def r40_8 : List PO := [pN 4 false]
@[go_sem] def r40_9 : List PO := [pF 26 32 2 4,
 pL 27 3 26,
 pF 28 32 3 4,
 pL 29 3 28,
 pO 30 .neq 3 27 29 3]
@[go_sem] def r40_10 : List PO := [pN 4 false]
@[go_sem] def r40_11 : List PO := [pF 31 32 2 5,
 pL 32 24 31,
 pF 33 32 3 5,
 pL 34 24 33,
 pC2 35 81 32 34 24 24,
 ⟨(some 36), (.unOp .not 4 (.tmp 35)), none⟩]
@[go_sem] def r40_12 : List PO := [pN 4 false]
@[go_sem] def r40_13 : List PO := [pN 4 true]
def c40 : PC := (.seq (.reg r40_0) (.seq (.seq (.reg r40_1) (.cond (.tmp 9) (.seq (.reg r40_2) .ret) .skip)) (.seq (.seq (.reg r40_3) (.cond (.tmp 15) (.seq (.reg r40_4) .ret) .skip)) (.seq (.seq (.reg r40_5) (.cond (.tmp 20) (.seq (.reg r40_6) .ret) .skip)) (.seq (.seq (.reg r40_7) (.cond (.tmp 25) (.seq (.reg r40_8) .ret) .skip)) (.seq (.seq (.reg r40_9) (.cond (.tmp 30) (.seq (.reg r40_10) .ret) .skip)) (.seq (.seq (.reg r40_11) (.cond (.tmp 36) (.seq (.reg r40_12) .ret) .skip)) (.seq (.reg r40_13) .ret))))))))
def i40 : FnI := ⟨37, [(.tmp 4)], c40, 0, [[0, 1, 0, 0, 0, 1], [0, 1, 0, 0, 0, 1]], [[0]], false, false, 0, false⟩
@[go_sem] def r12_0 : List PO := [pX 2 34 0,
 pX 3 34 1,
 pN 4 false]
@[go_sem] def r12_1 : List PO := [pF 5 34 2 0,
 pL 6 31 5,
 pF 7 34 3 0,
 pL 8 31 7,
 pC2 9 39 6 8 31 31,
 ⟨(some 10), (.unOp .not 4 (.tmp 9)), none⟩]
@[go_sem] def r12_2 : List PO := [pN 4 false]
@[go_sem] def r12_3 : List PO := [pF 11 34 2 1,
 pL 12 32 11,
 pF 13 34 3 1,
 pL 14 32 13,
 pC2 15 40 12 14 32 32,
 ⟨(some 16), (.unOp .not 4 (.tmp 15)), none⟩]
@[go_sem] def r12_4 : List PO := [pN 4 false]
@[go_sem] def r12_5 : List PO := [pN 4 true]
def c12 : PC := (.seq (.reg r12_0) (.seq (.seq (.reg r12_1) (.cond (.tmp 10) (.seq (.reg r12_2) .ret) .skip)) (.seq (.seq (.reg r12_3) (.cond (.tmp 16) (.seq (.reg r12_4) .ret) .skip)) (.seq (.reg r12_5) .ret))))
def i12 : FnI := ⟨17, [(.tmp 4)], c12, 0, [[0, 0, 0, 1, 0, 0, 0, 1], [0, 0, 0, 1, 0, 0, 0, 1]], [[0]], false, false, 0, false⟩
@[go_sem] def r7_12 : List PO := [pM 40 10,
 pM 41 6,
 pO 42 .neq 4 40 41 4,
 pM 43 42,
 ⟨(some 44), (.move (.tmp 11)), (some (43, false))⟩,
 ⟨(some 45), (.move (.tmp 7)), (some (43, false))⟩,
 ⟨(some 46), (.binOp .neq 4 (.tmp 44) (.tmp 45) 4), (some (43, false))⟩,
 ⟨(some 47), (.pick (.tmp 43) (.const (.bool true)) (.tmp 46)), none⟩]
def k7_1 : PC := (.post (.reg r7_12) ⟨[2, 3, 8, 9, 47], [.old 0, .old 1, .old 2, .old 3, .old 4, .old 5, .old 6, .old 7, .old 8], [], []⟩)
@[go_sem] def r7_0 : List PO := [pX 2 65 0,
 pX 3 28 1,
 pN 4 false]
@[go_sem] def r7_1 : List PO := [pK 5 1048576]
@[go_sem] def r7_2 : List PO := [pL 12 65 2,
 pM 13 5,
 pC2 14 27 12 13 65 3,
 pA 5 14]
@[go_sem] def r7_3 : List PO := [pM 15 5,
 pB 16 .lss 3 15 0 3]
@[go_sem] def r7_4 : List PO := [pN 4 true]
@[go_sem] def r7_5 : List PO := [pL 17 28 3,
 pM 18 5,
 pC2 19 8 17 18 28 3,
 pA 5 19]
@[go_sem] def r7_6 : List PO := [pM 20 5,
 pB 21 .lss 3 20 0 3]
@[go_sem] def r7_7 : List PO := [pN 4 true]
@[go_sem] def r7_8 : List PO := [pL 23 65 2,
 pC 24 29 23 65,
 pL 25 28 3,
 pC 26 10 25 28,
 pC2 27 28 24 26 73 34,
 pM 22 27,
 ⟨(some 28), (.extract (.tmp 22) 0), none⟩,
 ⟨(some 29), (.extract (.tmp 22) 1), none⟩,
 pA 6 28,
 pA 7 29]
@[go_sem] def r7_9 : List PO := [pL 30 65 2,
 pC 31 29 30 65,
 ⟨(some 8), (.alloc 73), none⟩,
 ⟨none, (.store 73 (.tmp 8) (.tmp 31)), none⟩]
@[go_sem] def r7_10 : List PO := [pL 32 28 3,
 pC 33 10 32 28,
 ⟨(some 9), (.alloc 34), none⟩,
 ⟨none, (.store 34 (.tmp 9) (.tmp 33)), none⟩]
@[go_sem] def r7_11 : List PO := [pL 35 73 8,
 pL 36 34 9,
 pC2 37 30 35 36 73 34,
 pM 34 37,
 ⟨(some 38), (.extract (.tmp 34) 0), none⟩,
 ⟨(some 39), (.extract (.tmp 34) 1), none⟩,
 pA 10 38,
 pA 11 39]
@[go_sem] def r7_13 : List PO := [pN 4 false]
@[go_sem] def r7_14 : List PO := [pL 48 73 8,
 pL 49 65 2,
 pC 50 29 49 65,
 pC2 51 31 48 50 73 73,
 ⟨(some 52), (.unOp .not 4 (.tmp 51)), none⟩]
@[go_sem] def r7_15 : List PO := [pN 4 false]
@[go_sem] def r7_16 : List PO := [pL 53 34 9,
 pL 54 28 3,
 pC 55 10 54 28,
 pC2 56 12 53 55 34 34,
 ⟨(some 57), (.unOp .not 4 (.tmp 56)), none⟩]
@[go_sem] def r7_17 : List PO := [pN 4 false]
@[go_sem] def r7_18 : List PO := [pN 4 true]
def c7 : PC := (.seq (.reg r7_0) (.seq (.reg r7_1) (.seq (.reg r7_2) (.seq (.seq (.reg r7_3) (.cond (.tmp 16) (.seq (.reg r7_4) .ret) .skip)) (.seq (.reg r7_5) (.seq (.seq (.reg r7_6) (.cond (.tmp 21) (.seq (.reg r7_7) .ret) .skip)) (.seq (.fz r7_8) (.seq (.reg r7_9) (.seq (.reg r7_10) (.seq (.reg r7_11) (.seq (.seq (.pre ⟨[2, 3, 6, 7, 8, 9, 10, 11], [.old 0, .old 1, .old 5, .old 2, .old 3, .old 4, .old 8, .old 6, .old 7], [], []⟩ k7_1) (.cond (.tmp 47) (.seq (.reg r7_13) .ret) .skip)) (.seq (.seq (.fz r7_14) (.cond (.tmp 52) (.seq (.reg r7_15) .ret) .skip)) (.seq (.seq (.fz r7_16) (.cond (.tmp 57) (.seq (.reg r7_17) .ret) .skip)) (.seq (.reg r7_18) .ret))))))))))))))
def i7 : FnI := ⟨58, [(.tmp 4)], c7, 0, [[4, 2, 0, 2, 0], [0, 0, 0, 1, 0, 0, 0, 1]], [[0]], false, false, 0, false⟩
def tys : List (Nat × TyI) := [(3, ⟨1, 8, false, [.int .i64 0], [0], 0, [], .int .i64, false⟩),
 (4, ⟨1, 1, false, [.bool false], [0], 0, [], .bool, false⟩),
 (23, ⟨2, 16, true, [.int .i64 0, .int .i64 0], [0, 0], 0, [(0, 1, false), (1, 1, false)], .other, true⟩),
 (24, ⟨1, 24, false, [.nil], [1], 3, [], .other, false⟩),
 (26, ⟨6, 80, true, [.int .i64 0, .nil, .int .i64 0, .int .i64 0, .int .i64 0, .nil], [0, 1, 0, 0, 0, 1], 0, [(0, 1, false), (1, 1, false), (2, 1, false), (3, 1, false), (4, 1, false), (5, 1, false)], .other, false⟩),
 (28, ⟨8, 96, true, [.int .i64 0, .int .i64 0, .int .i64 0, .nil, .int .i64 0, .int .i64 0, .int .i64 0, .nil], [0, 0, 0, 1, 0, 0, 0, 1], 0, [(0, 2, true), (2, 6, true)], .other, false⟩),
 (31, ⟨2, 16, true, [.int .i64 0, .int .i64 0], [0, 0], 0, [(0, 1, false), (1, 1, false)], .other, true⟩),
 (32, ⟨6, 80, true, [.int .i64 0, .nil, .int .i64 0, .int .i64 0, .int .i64 0, .nil], [0, 1, 0, 0, 0, 1], 0, [(0, 1, false), (1, 1, false), (2, 1, false), (3, 1, false), (4, 1, false), (5, 1, false)], .other, false⟩),
 (34, ⟨8, 96, true, [.int .i64 0, .int .i64 0, .int .i64 0, .nil, .int .i64 0, .int .i64 0, .int .i64 0, .nil], [0, 0, 0, 1, 0, 0, 0, 1], 0, [(0, 2, true), (2, 6, true)], .other, false⟩),
 (50, ⟨2, 16, true, [.int .i64 0, .int .i64 0], [0, 0], 0, [(0, 1, false), (1, 1, false)], .other, true⟩),
 (53, ⟨2, 16, true, [.int .i64 0, .int .i64 0], [0, 0], 0, [(0, 1, false), (1, 1, false)], .other, true⟩),
 (61, ⟨1, 24, false, [.nil], [4], 138, [], .other, false⟩),
 (62, ⟨1, 24, false, [.nil], [2], 140, [], .other, false⟩),
 (63, ⟨1, 24, false, [.nil], [2], 50, [], .other, false⟩),
 (65, ⟨5, 88, true, [.nil, .nil, .int .i64 0, .nil, .int .i64 0], [4, 2, 0, 2, 0], 0, [(0, 1, false), (1, 1, false), (2, 1, false), (3, 1, false), (4, 1, false)], .other, false⟩),
 (69, ⟨1, 24, false, [.nil], [4], 114, [], .other, false⟩),
 (70, ⟨1, 24, false, [.nil], [2], 129, [], .other, false⟩),
 (71, ⟨1, 24, false, [.nil], [2], 53, [], .other, false⟩),
 (73, ⟨5, 88, true, [.nil, .nil, .int .i64 0, .nil, .int .i64 0], [4, 2, 0, 2, 0], 0, [(0, 1, false), (1, 1, false), (2, 1, false), (3, 1, false), (4, 1, false)], .other, false⟩),
 (114, ⟨4, 32, true, [.int .i64 0, .int .i64 0, .int .i64 0, .int .i64 0], [0, 0, 0, 0], 0, [(0, 2, true), (2, 1, false), (3, 1, false)], .other, false⟩),
 (129, ⟨2, 16, true, [.int .i64 0, .int .i64 0], [0, 0], 0, [(0, 1, false), (1, 1, false)], .other, true⟩),
 (138, ⟨4, 32, true, [.int .i64 0, .int .i64 0, .int .i64 0, .int .i64 0], [0, 0, 0, 0], 0, [(0, 2, true), (2, 1, false), (3, 1, false)], .other, false⟩),
 (140, ⟨2, 16, true, [.int .i64 0, .int .i64 0], [0, 0], 0, [(0, 1, false), (1, 1, false)], .other, true⟩),
 (145, ⟨1, 8, false, [.int .u64 0], [0], 0, [], .int .u64, false⟩),
 (147, ⟨1, 24, false, [.nil], [3], 149, [], .other, false⟩),
 (149, ⟨3, 40, true, [.int .i64 0, .int .i64 0, .nil], [0, 0, 3], 0, [(0, 1, false), (1, 1, false), (2, 1, false)], .other, false⟩),
 (161, ⟨1, 8, false, [.nilp], [0], 0, [], .other, false⟩),
 (171, ⟨1, 24, false, [.nil], [1], 161, [], .other, false⟩),
 (173, ⟨3, 40, true, [.int .i64 0, .int .i64 0, .nil], [0, 0, 1], 0, [(0, 2, true), (2, 1, false)], .other, false⟩)]
def fns : List (Nat × FnI) := [(7, i7), (8, i8), (9, i9), (10, i10), (11, i11), (12, i12), (19, i19), (27, i27), (28, i28), (29, i29), (30, i30), (31, i31), (32, i32), (33, i33), (34, i34), (35, i35), (36, i36), (37, i37), (38, i38), (39, i39), (40, i40), (42, i42), (46, i46), (48, i48), (50, i50), (59, i59), (60, i60), (61, i61), (62, i62), (63, i63), (64, i64), (65, i65), (66, i66), (67, i67), (68, i68), (69, i69), (70, i70), (71, i71), (72, i72), (73, i73), (74, i74), (75, i75), (76, i76), (77, i77), (78, i78), (79, i79), (80, i80), (81, i81), (82, i82), (84, i84), (85, i85), (86, i86), (87, i87), (88, i88), (90, i90), (91, i91), (108, i108), (109, i109), (110, i110), (111, i111), (112, i112), (113, i113), (114, i114), (115, i115), (116, i116), (117, i117), (118, i118), (119, i119), (120, i120), (121, i121), (122, i122), (123, i123), (124, i124), (125, i125), (126, i126), (127, i127), (133, i133), (134, i134), (135, i135), (136, i136), (137, i137), (138, i138), (139, i139), (140, i140), (141, i141), (142, i142), (143, i143), (144, i144), (145, i145), (149, i149), (150, i150), (151, i151), (152, i152), (153, i153), (154, i154)]
def T : Tab := mkTab tys fns
theorem soft0 : T.soft = false := rfl
theorem ty3 : T.ty 3 = some ⟨1, 8, false, [.int .i64 0], [0], 0, [], .int .i64, false⟩ := rfl
theorem base3 : T.baseOf 3 = Bs.int .i64 := rfl
theorem ty4 : T.ty 4 = some ⟨1, 1, false, [.bool false], [0], 0, [], .bool, false⟩ := rfl
theorem base4 : T.baseOf 4 = Bs.bool := rfl
theorem ty23 : T.ty 23 = some ⟨2, 16, true, [.int .i64 0, .int .i64 0], [0, 0], 0, [(0, 1, false), (1, 1, false)], .other, true⟩ := rfl
theorem base23 : T.baseOf 23 = Bs.other := rfl
theorem ty24 : T.ty 24 = some ⟨1, 24, false, [.nil], [1], 3, [], .other, false⟩ := rfl
theorem base24 : T.baseOf 24 = Bs.other := rfl
theorem elem24 : T.elemOf 24 = some ⟨1, 8, false, [.int .i64 0], [0], 0, [], .int .i64, false⟩ := rfl
theorem ty26 : T.ty 26 = some ⟨6, 80, true, [.int .i64 0, .nil, .int .i64 0, .int .i64 0, .int .i64 0, .nil], [0, 1, 0, 0, 0, 1], 0, [(0, 1, false), (1, 1, false), (2, 1, false), (3, 1, false), (4, 1, false), (5, 1, false)], .other, false⟩ := rfl
theorem base26 : T.baseOf 26 = Bs.other := rfl
theorem ty28 : T.ty 28 = some ⟨8, 96, true, [.int .i64 0, .int .i64 0, .int .i64 0, .nil, .int .i64 0, .int .i64 0, .int .i64 0, .nil], [0, 0, 0, 1, 0, 0, 0, 1], 0, [(0, 2, true), (2, 6, true)], .other, false⟩ := rfl
theorem base28 : T.baseOf 28 = Bs.other := rfl
theorem ty31 : T.ty 31 = some ⟨2, 16, true, [.int .i64 0, .int .i64 0], [0, 0], 0, [(0, 1, false), (1, 1, false)], .other, true⟩ := rfl
theorem base31 : T.baseOf 31 = Bs.other := rfl
theorem ty32 : T.ty 32 = some ⟨6, 80, true, [.int .i64 0, .nil, .int .i64 0, .int .i64 0, .int .i64 0, .nil], [0, 1, 0, 0, 0, 1], 0, [(0, 1, false), (1, 1, false), (2, 1, false), (3, 1, false), (4, 1, false), (5, 1, false)], .other, false⟩ := rfl
theorem base32 : T.baseOf 32 = Bs.other := rfl
theorem ty34 : T.ty 34 = some ⟨8, 96, true, [.int .i64 0, .int .i64 0, .int .i64 0, .nil, .int .i64 0, .int .i64 0, .int .i64 0, .nil], [0, 0, 0, 1, 0, 0, 0, 1], 0, [(0, 2, true), (2, 6, true)], .other, false⟩ := rfl
theorem base34 : T.baseOf 34 = Bs.other := rfl
theorem ty50 : T.ty 50 = some ⟨2, 16, true, [.int .i64 0, .int .i64 0], [0, 0], 0, [(0, 1, false), (1, 1, false)], .other, true⟩ := rfl
theorem base50 : T.baseOf 50 = Bs.other := rfl
theorem ty53 : T.ty 53 = some ⟨2, 16, true, [.int .i64 0, .int .i64 0], [0, 0], 0, [(0, 1, false), (1, 1, false)], .other, true⟩ := rfl
theorem base53 : T.baseOf 53 = Bs.other := rfl
theorem ty61 : T.ty 61 = some ⟨1, 24, false, [.nil], [4], 138, [], .other, false⟩ := rfl
theorem base61 : T.baseOf 61 = Bs.other := rfl
theorem elem61 : T.elemOf 61 = some ⟨4, 32, true, [.int .i64 0, .int .i64 0, .int .i64 0, .int .i64 0], [0, 0, 0, 0], 0, [(0, 2, true), (2, 1, false), (3, 1, false)], .other, false⟩ := rfl
theorem ty62 : T.ty 62 = some ⟨1, 24, false, [.nil], [2], 140, [], .other, false⟩ := rfl
theorem base62 : T.baseOf 62 = Bs.other := rfl
theorem elem62 : T.elemOf 62 = some ⟨2, 16, true, [.int .i64 0, .int .i64 0], [0, 0], 0, [(0, 1, false), (1, 1, false)], .other, true⟩ := rfl
theorem ty63 : T.ty 63 = some ⟨1, 24, false, [.nil], [2], 50, [], .other, false⟩ := rfl
theorem base63 : T.baseOf 63 = Bs.other := rfl
theorem elem63 : T.elemOf 63 = some ⟨2, 16, true, [.int .i64 0, .int .i64 0], [0, 0], 0, [(0, 1, false), (1, 1, false)], .other, true⟩ := rfl
theorem ty65 : T.ty 65 = some ⟨5, 88, true, [.nil, .nil, .int .i64 0, .nil, .int .i64 0], [4, 2, 0, 2, 0], 0, [(0, 1, false), (1, 1, false), (2, 1, false), (3, 1, false), (4, 1, false)], .other, false⟩ := rfl
theorem base65 : T.baseOf 65 = Bs.other := rfl
theorem ty69 : T.ty 69 = some ⟨1, 24, false, [.nil], [4], 114, [], .other, false⟩ := rfl
theorem base69 : T.baseOf 69 = Bs.other := rfl
theorem elem69 : T.elemOf 69 = some ⟨4, 32, true, [.int .i64 0, .int .i64 0, .int .i64 0, .int .i64 0], [0, 0, 0, 0], 0, [(0, 2, true), (2, 1, false), (3, 1, false)], .other, false⟩ := rfl
theorem ty70 : T.ty 70 = some ⟨1, 24, false, [.nil], [2], 129, [], .other, false⟩ := rfl
theorem base70 : T.baseOf 70 = Bs.other := rfl
theorem elem70 : T.elemOf 70 = some ⟨2, 16, true, [.int .i64 0, .int .i64 0], [0, 0], 0, [(0, 1, false), (1, 1, false)], .other, true⟩ := rfl
theorem ty71 : T.ty 71 = some ⟨1, 24, false, [.nil], [2], 53, [], .other, false⟩ := rfl
theorem base71 : T.baseOf 71 = Bs.other := rfl
theorem elem71 : T.elemOf 71 = some ⟨2, 16, true, [.int .i64 0, .int .i64 0], [0, 0], 0, [(0, 1, false), (1, 1, false)], .other, true⟩ := rfl
theorem ty73 : T.ty 73 = some ⟨5, 88, true, [.nil, .nil, .int .i64 0, .nil, .int .i64 0], [4, 2, 0, 2, 0], 0, [(0, 1, false), (1, 1, false), (2, 1, false), (3, 1, false), (4, 1, false)], .other, false⟩ := rfl
theorem base73 : T.baseOf 73 = Bs.other := rfl
theorem ty114 : T.ty 114 = some ⟨4, 32, true, [.int .i64 0, .int .i64 0, .int .i64 0, .int .i64 0], [0, 0, 0, 0], 0, [(0, 2, true), (2, 1, false), (3, 1, false)], .other, false⟩ := rfl
theorem base114 : T.baseOf 114 = Bs.other := rfl
theorem ty129 : T.ty 129 = some ⟨2, 16, true, [.int .i64 0, .int .i64 0], [0, 0], 0, [(0, 1, false), (1, 1, false)], .other, true⟩ := rfl
theorem base129 : T.baseOf 129 = Bs.other := rfl
theorem ty138 : T.ty 138 = some ⟨4, 32, true, [.int .i64 0, .int .i64 0, .int .i64 0, .int .i64 0], [0, 0, 0, 0], 0, [(0, 2, true), (2, 1, false), (3, 1, false)], .other, false⟩ := rfl
theorem base138 : T.baseOf 138 = Bs.other := rfl
theorem ty140 : T.ty 140 = some ⟨2, 16, true, [.int .i64 0, .int .i64 0], [0, 0], 0, [(0, 1, false), (1, 1, false)], .other, true⟩ := rfl
theorem base140 : T.baseOf 140 = Bs.other := rfl
theorem ty145 : T.ty 145 = some ⟨1, 8, false, [.int .u64 0], [0], 0, [], .int .u64, false⟩ := rfl
theorem base145 : T.baseOf 145 = Bs.int .u64 := rfl
theorem ty147 : T.ty 147 = some ⟨1, 24, false, [.nil], [3], 149, [], .other, false⟩ := rfl
theorem base147 : T.baseOf 147 = Bs.other := rfl
theorem elem147 : T.elemOf 147 = some ⟨3, 40, true, [.int .i64 0, .int .i64 0, .nil], [0, 0, 3], 0, [(0, 1, false), (1, 1, false), (2, 1, false)], .other, false⟩ := rfl
theorem ty149 : T.ty 149 = some ⟨3, 40, true, [.int .i64 0, .int .i64 0, .nil], [0, 0, 3], 0, [(0, 1, false), (1, 1, false), (2, 1, false)], .other, false⟩ := rfl
theorem base149 : T.baseOf 149 = Bs.other := rfl
theorem ty161 : T.ty 161 = some ⟨1, 8, false, [.nilp], [0], 0, [], .other, false⟩ := rfl
theorem base161 : T.baseOf 161 = Bs.other := rfl
theorem ty171 : T.ty 171 = some ⟨1, 24, false, [.nil], [1], 161, [], .other, false⟩ := rfl
theorem base171 : T.baseOf 171 = Bs.other := rfl
theorem elem171 : T.elemOf 171 = some ⟨1, 8, false, [.nilp], [0], 0, [], .other, false⟩ := rfl
theorem ty173 : T.ty 173 = some ⟨3, 40, true, [.int .i64 0, .int .i64 0, .nil], [0, 0, 1], 0, [(0, 2, true), (2, 1, false)], .other, false⟩ := rfl
theorem base173 : T.baseOf 173 = Bs.other := rfl
attribute [go_sem] soft0 ty3 base3 ty4 base4 ty23 base23 ty24 base24 elem24 ty26 base26 ty28 base28 ty31 base31 ty32 base32 ty34 base34 ty50 base50 ty53 base53 ty61 base61 elem61 ty62 base62 elem62 ty63 base63 elem63 ty65 base65 ty69 base69 elem69 ty70 base70 elem70 ty71 base71 elem71 ty73 base73 ty114 base114 ty129 base129 ty138 base138 ty140 base140 ty145 base145 ty147 base147 elem147 ty149 base149 ty161 base161 ty171 base171 elem171 ty173 base173
theorem ok7 : FnOk Try.prog (7, i7) := ⟨Try.f7, _, Try.func7, rfl, by kernel_rfl, rfl, rfl, by kernel_rfl⟩
theorem ok8 : FnOk Try.prog (8, i8) := ⟨Try.f8, _, Try.func8, rfl, by kernel_rfl, rfl, rfl, by kernel_rfl⟩
theorem ok9 : FnOk Try.prog (9, i9) := ⟨Try.f9, _, Try.func9, rfl, by kernel_rfl, rfl, rfl, by kernel_rfl⟩
theorem ok10 : FnOk Try.prog (10, i10) := ⟨Try.f10, _, Try.func10, rfl, by kernel_rfl, rfl, rfl, by kernel_rfl⟩
theorem ok11 : FnOk Try.prog (11, i11) := ⟨Try.f11, _, Try.func11, rfl, by kernel_rfl, rfl, rfl, by kernel_rfl⟩
theorem ok12 : FnOk Try.prog (12, i12) := ⟨Try.f12, _, Try.func12, rfl, by kernel_rfl, rfl, rfl, by kernel_rfl⟩
theorem ok19 : FnOk Try.prog (19, i19) := ⟨Try.f19, _, Try.func19, rfl, by kernel_rfl, rfl, rfl, by kernel_rfl⟩
theorem ok27 : FnOk Try.prog (27, i27) := ⟨Try.f27, _, Try.func27, rfl, by kernel_rfl, rfl, rfl, by kernel_rfl⟩
theorem ok28 : FnOk Try.prog (28, i28) := ⟨Try.f28, _, Try.func28, rfl, by kernel_rfl, rfl, rfl, by kernel_rfl⟩
theorem ok29 : FnOk Try.prog (29, i29) := ⟨Try.f29, _, Try.func29, rfl, by kernel_rfl, rfl, rfl, by kernel_rfl⟩
theorem ok30 : FnOk Try.prog (30, i30) := ⟨Try.f30, _, Try.func30, rfl, by kernel_rfl, rfl, rfl, by kernel_rfl⟩
theorem ok31 : FnOk Try.prog (31, i31) := ⟨Try.f31, _, Try.func31, rfl, by kernel_rfl, rfl, rfl, by kernel_rfl⟩
theorem ok32 : FnOk Try.prog (32, i32) := ⟨Try.f32, _, Try.func32, rfl, by kernel_rfl, rfl, rfl, by kernel_rfl⟩
theorem ok33 : FnOk Try.prog (33, i33) := ⟨Try.f33, _, Try.func33, rfl, by kernel_rfl, rfl, rfl, by kernel_rfl⟩
theorem ok34 : FnOk Try.prog (34, i34) := ⟨Try.f34, _, Try.func34, rfl, by kernel_rfl, rfl, rfl, by kernel_rfl⟩
theorem ok35 : FnOk Try.prog (35, i35) := ⟨Try.f35, _, Try.func35, rfl, by kernel_rfl, rfl, rfl, by kernel_rfl⟩
theorem ok36 : FnOk Try.prog (36, i36) := ⟨Try.f36, _, Try.func36, rfl, by kernel_rfl, rfl, rfl, by kernel_rfl⟩
theorem ok37 : FnOk Try.prog (37, i37) := ⟨Try.f37, _, Try.func37, rfl, by kernel_rfl, rfl, rfl, by kernel_rfl⟩
theorem ok38 : FnOk Try.prog (38, i38) := ⟨Try.f38, _, Try.func38, rfl, by kernel_rfl, rfl, rfl, by kernel_rfl⟩
theorem ok39 : FnOk Try.prog (39, i39) := ⟨Try.f39, _, Try.func39, rfl, by kernel_rfl, rfl, rfl, by kernel_rfl⟩
theorem ok40 : FnOk Try.prog (40, i40) := ⟨Try.f40, _, Try.func40, rfl, by kernel_rfl, rfl, rfl, by kernel_rfl⟩
theorem ok42 : FnOk Try.prog (42, i42) := ⟨Try.f42, _, Try.func42, rfl, by kernel_rfl, rfl, rfl, by kernel_rfl⟩
theorem ok46 : FnOk Try.prog (46, i46) := ⟨Try.f46, _, Try.func46, rfl, by kernel_rfl, rfl, rfl, by kernel_rfl⟩
theorem ok48 : FnOk Try.prog (48, i48) := ⟨Try.f48, _, Try.func48, rfl, by kernel_rfl, rfl, rfl, by kernel_rfl⟩
theorem ok50 : FnOk Try.prog (50, i50) := ⟨Try.f50, _, Try.func50, rfl, by kernel_rfl, rfl, rfl, by kernel_rfl⟩
theorem ok59 : FnOk Try.prog (59, i59) := ⟨Try.f59, _, Try.func59, rfl, by kernel_rfl, rfl, rfl, by kernel_rfl⟩
theorem ok60 : FnOk Try.prog (60, i60) := ⟨Try.f60, _, Try.func60, rfl, by kernel_rfl, rfl, rfl, by kernel_rfl⟩
theorem ok61 : FnOk Try.prog (61, i61) := ⟨Try.f61, _, Try.func61, rfl, by kernel_rfl, rfl, rfl, by kernel_rfl⟩
theorem ok62 : FnOk Try.prog (62, i62) := ⟨Try.f62, _, Try.func62, rfl, by kernel_rfl, rfl, rfl, by kernel_rfl⟩
theorem ok63 : FnOk Try.prog (63, i63) := ⟨Try.f63, _, Try.func63, rfl, by kernel_rfl, rfl, rfl, by kernel_rfl⟩
theorem ok64 : FnOk Try.prog (64, i64) := ⟨Try.f64, _, Try.func64, rfl, by kernel_rfl, rfl, rfl, by kernel_rfl⟩
theorem ok65 : FnOk Try.prog (65, i65) := ⟨Try.f65, _, Try.func65, rfl, by kernel_rfl, rfl, rfl, by kernel_rfl⟩
theorem ok66 : FnOk Try.prog (66, i66) := ⟨Try.f66, _, Try.func66, rfl, by kernel_rfl, rfl, rfl, by kernel_rfl⟩
theorem ok67 : FnOk Try.prog (67, i67) := ⟨Try.f67, _, Try.func67, rfl, by kernel_rfl, rfl, rfl, by kernel_rfl⟩
theorem ok68 : FnOk Try.prog (68, i68) := ⟨Try.f68, _, Try.func68, rfl, by kernel_rfl, rfl, rfl, by kernel_rfl⟩
theorem ok69 : FnOk Try.prog (69, i69) := ⟨Try.f69, _, Try.func69, rfl, by kernel_rfl, rfl, rfl, by kernel_rfl⟩
theorem ok70 : FnOk Try.prog (70, i70) := ⟨Try.f70, _, Try.func70, rfl, by kernel_rfl, rfl, rfl, by kernel_rfl⟩
theorem ok71 : FnOk Try.prog (71, i71) := ⟨Try.f71, _, Try.func71, rfl, by kernel_rfl, rfl, rfl, by kernel_rfl⟩
theorem ok72 : FnOk Try.prog (72, i72) := ⟨Try.f72, _, Try.func72, rfl, by kernel_rfl, rfl, rfl, by kernel_rfl⟩
theorem ok73 : FnOk Try.prog (73, i73) := ⟨Try.f73, _, Try.func73, rfl, by kernel_rfl, rfl, rfl, by kernel_rfl⟩
theorem ok74 : FnOk Try.prog (74, i74) := ⟨Try.f74, _, Try.func74, rfl, by kernel_rfl, rfl, rfl, by kernel_rfl⟩
theorem ok75 : FnOk Try.prog (75, i75) := ⟨Try.f75, _, Try.func75, rfl, by kernel_rfl, rfl, rfl, by kernel_rfl⟩
theorem ok76 : FnOk Try.prog (76, i76) := ⟨Try.f76, _, Try.func76, rfl, by kernel_rfl, rfl, rfl, by kernel_rfl⟩
theorem ok77 : FnOk Try.prog (77, i77) := ⟨Try.f77, _, Try.func77, rfl, by kernel_rfl, rfl, rfl, by kernel_rfl⟩
theorem ok78 : FnOk Try.prog (78, i78) := ⟨Try.f78, _, Try.func78, rfl, by kernel_rfl, rfl, rfl, by kernel_rfl⟩
theorem ok79 : FnOk Try.prog (79, i79) := ⟨Try.f79, _, Try.func79, rfl, by kernel_rfl, rfl, rfl, by kernel_rfl⟩
theorem ok80 : FnOk Try.prog (80, i80) := ⟨Try.f80, _, Try.func80, rfl, by kernel_rfl, rfl, rfl, by kernel_rfl⟩
theorem ok81 : FnOk Try.prog (81, i81) := ⟨Try.f81, _, Try.func81, rfl, by kernel_rfl, rfl, rfl, by kernel_rfl⟩
theorem ok82 : FnOk Try.prog (82, i82) := ⟨Try.f82, _, Try.func82, rfl, by kernel_rfl, rfl, rfl, by kernel_rfl⟩
theorem ok84 : FnOk Try.prog (84, i84) := ⟨Try.f84, _, Try.func84, rfl, by kernel_rfl, rfl, rfl, by kernel_rfl⟩
theorem ok85 : FnOk Try.prog (85, i85) := ⟨Try.f85, _, Try.func85, rfl, by kernel_rfl, rfl, rfl, by kernel_rfl⟩
theorem ok86 : FnOk Try.prog (86, i86) := ⟨Try.f86, _, Try.func86, rfl, by kernel_rfl, rfl, rfl, by kernel_rfl⟩
theorem ok87 : FnOk Try.prog (87, i87) := ⟨Try.f87, _, Try.func87, rfl, by kernel_rfl, rfl, rfl, by kernel_rfl⟩
theorem ok88 : FnOk Try.prog (88, i88) := ⟨Try.f88, _, Try.func88, rfl, by kernel_rfl, rfl, rfl, by kernel_rfl⟩
theorem ok90 : FnOk Try.prog (90, i90) := ⟨Try.f90, _, Try.func90, rfl, by kernel_rfl, rfl, rfl, by kernel_rfl⟩
theorem ok91 : FnOk Try.prog (91, i91) := ⟨Try.f91, _, Try.func91, rfl, by kernel_rfl, rfl, rfl, by kernel_rfl⟩
theorem ok108 : FnOk Try.prog (108, i108) := ⟨Try.f108, _, Try.func108, rfl, by kernel_rfl, rfl, rfl, by kernel_rfl⟩
theorem ok109 : FnOk Try.prog (109, i109) := ⟨Try.f109, _, Try.func109, rfl, by kernel_rfl, rfl, rfl, by kernel_rfl⟩
theorem ok110 : FnOk Try.prog (110, i110) := ⟨Try.f110, _, Try.func110, rfl, by kernel_rfl, rfl, rfl, by kernel_rfl⟩
theorem ok111 : FnOk Try.prog (111, i111) := ⟨Try.f111, _, Try.func111, rfl, by kernel_rfl, rfl, rfl, by kernel_rfl⟩
theorem ok112 : FnOk Try.prog (112, i112) := ⟨Try.f112, _, Try.func112, rfl, by kernel_rfl, rfl, rfl, by kernel_rfl⟩
theorem ok113 : FnOk Try.prog (113, i113) := ⟨Try.f113, _, Try.func113, rfl, by kernel_rfl, rfl, rfl, by kernel_rfl⟩
theorem ok114 : FnOk Try.prog (114, i114) := ⟨Try.f114, _, Try.func114, rfl, by kernel_rfl, rfl, rfl, by kernel_rfl⟩
theorem ok115 : FnOk Try.prog (115, i115) := ⟨Try.f115, _, Try.func115, rfl, by kernel_rfl, rfl, rfl, by kernel_rfl⟩
theorem ok116 : FnOk Try.prog (116, i116) := ⟨Try.f116, _, Try.func116, rfl, by kernel_rfl, rfl, rfl, by kernel_rfl⟩
theorem ok117 : FnOk Try.prog (117, i117) := ⟨Try.f117, _, Try.func117, rfl, by kernel_rfl, rfl, rfl, by kernel_rfl⟩
theorem ok118 : FnOk Try.prog (118, i118) := ⟨Try.f118, _, Try.func118, rfl, by kernel_rfl, rfl, rfl, by kernel_rfl⟩
theorem ok119 : FnOk Try.prog (119, i119) := ⟨Try.f119, _, Try.func119, rfl, by kernel_rfl, rfl, rfl, by kernel_rfl⟩
theorem ok120 : FnOk Try.prog (120, i120) := ⟨Try.f120, _, Try.func120, rfl, by kernel_rfl, rfl, rfl, by kernel_rfl⟩
theorem ok121 : FnOk Try.prog (121, i121) := ⟨Try.f121, _, Try.func121, rfl, by kernel_rfl, rfl, rfl, by kernel_rfl⟩
theorem ok122 : FnOk Try.prog (122, i122) := ⟨Try.f122, _, Try.func122, rfl, by kernel_rfl, rfl, rfl, by kernel_rfl⟩
theorem ok123 : FnOk Try.prog (123, i123) := ⟨Try.f123, _, Try.func123, rfl, by kernel_rfl, rfl, rfl, by kernel_rfl⟩
theorem ok124 : FnOk Try.prog (124, i124) := ⟨Try.f124, _, Try.func124, rfl, by kernel_rfl, rfl, rfl, by kernel_rfl⟩
theorem ok125 : FnOk Try.prog (125, i125) := ⟨Try.f125, _, Try.func125, rfl, by kernel_rfl, rfl, rfl, by kernel_rfl⟩
theorem ok126 : FnOk Try.prog (126, i126) := ⟨Try.f126, _, Try.func126, rfl, by kernel_rfl, rfl, rfl, by kernel_rfl⟩
theorem ok127 : FnOk Try.prog (127, i127) := ⟨Try.f127, _, Try.func127, rfl, by kernel_rfl, rfl, rfl, by kernel_rfl⟩
theorem ok133 : FnOk Try.prog (133, i133) := ⟨Try.f133, _, Try.func133, rfl, by kernel_rfl, rfl, rfl, by kernel_rfl⟩
theorem ok134 : FnOk Try.prog (134, i134) := ⟨Try.f134, _, Try.func134, rfl, by kernel_rfl, rfl, rfl, by kernel_rfl⟩
theorem ok135 : FnOk Try.prog (135, i135) := ⟨Try.f135, _, Try.func135, rfl, by kernel_rfl, rfl, rfl, by kernel_rfl⟩
theorem ok136 : FnOk Try.prog (136, i136) := ⟨Try.f136, _, Try.func136, rfl, by kernel_rfl, rfl, rfl, by kernel_rfl⟩
theorem ok137 : FnOk Try.prog (137, i137) := ⟨Try.f137, _, Try.func137, rfl, by kernel_rfl, rfl, rfl, by kernel_rfl⟩
theorem ok138 : FnOk Try.prog (138, i138) := ⟨Try.f138, _, Try.func138, rfl, by kernel_rfl, rfl, rfl, by kernel_rfl⟩
theorem ok139 : FnOk Try.prog (139, i139) := ⟨Try.f139, _, Try.func139, rfl, by kernel_rfl, rfl, rfl, by kernel_rfl⟩
theorem ok140 : FnOk Try.prog (140, i140) := ⟨Try.f140, _, Try.func140, rfl, by kernel_rfl, rfl, rfl, by kernel_rfl⟩
theorem ok141 : FnOk Try.prog (141, i141) := ⟨Try.f141, _, Try.func141, rfl, by kernel_rfl, rfl, rfl, by kernel_rfl⟩
theorem ok142 : FnOk Try.prog (142, i142) := ⟨Try.f142, _, Try.func142, rfl, by kernel_rfl, rfl, rfl, by kernel_rfl⟩
theorem ok143 : FnOk Try.prog (143, i143) := ⟨Try.f143, _, Try.func143, rfl, by kernel_rfl, rfl, rfl, by kernel_rfl⟩
theorem ok144 : FnOk Try.prog (144, i144) := ⟨Try.f144, _, Try.func144, rfl, by kernel_rfl, rfl, rfl, by kernel_rfl⟩
theorem ok145 : FnOk Try.prog (145, i145) := ⟨Try.f145, _, Try.func145, rfl, by kernel_rfl, rfl, rfl, by kernel_rfl⟩
theorem ok149 : FnOk Try.prog (149, i149) := ⟨Try.f149, _, Try.func149, rfl, by kernel_rfl, rfl, rfl, by kernel_rfl⟩
theorem ok150 : FnOk Try.prog (150, i150) := ⟨Try.f150, _, Try.func150, rfl, by kernel_rfl, rfl, rfl, by kernel_rfl⟩
theorem ok151 : FnOk Try.prog (151, i151) := ⟨Try.f151, _, Try.func151, rfl, by kernel_rfl, rfl, rfl, by kernel_rfl⟩
theorem ok152 : FnOk Try.prog (152, i152) := ⟨Try.f152, _, Try.func152, rfl, by kernel_rfl, rfl, rfl, by kernel_rfl⟩
theorem ok153 : FnOk Try.prog (153, i153) := ⟨Try.f153, _, Try.func153, rfl, by kernel_rfl, rfl, rfl, by kernel_rfl⟩
theorem ok154 : FnOk Try.prog (154, i154) := ⟨Try.f154, _, Try.func154, rfl, by kernel_rfl, rfl, rfl, by kernel_rfl⟩
theorem tab : TabOk Try.prog T := tabOk_of (by kernel_rfl) (.cons ok7 (.cons ok8 (.cons ok9 (.cons ok10 (.cons ok11 (.cons ok12 (.cons ok19 (.cons ok27 (.cons ok28 (.cons ok29 (.cons ok30 (.cons ok31 (.cons ok32 (.cons ok33 (.cons ok34 (.cons ok35 (.cons ok36 (.cons ok37 (.cons ok38 (.cons ok39 (.cons ok40 (.cons ok42 (.cons ok46 (.cons ok48 (.cons ok50 (.cons ok59 (.cons ok60 (.cons ok61 (.cons ok62 (.cons ok63 (.cons ok64 (.cons ok65 (.cons ok66 (.cons ok67 (.cons ok68 (.cons ok69 (.cons ok70 (.cons ok71 (.cons ok72 (.cons ok73 (.cons ok74 (.cons ok75 (.cons ok76 (.cons ok77 (.cons ok78 (.cons ok79 (.cons ok80 (.cons ok81 (.cons ok82 (.cons ok84 (.cons ok85 (.cons ok86 (.cons ok87 (.cons ok88 (.cons ok90 (.cons ok91 (.cons ok108 (.cons ok109 (.cons ok110 (.cons ok111 (.cons ok112 (.cons ok113 (.cons ok114 (.cons ok115 (.cons ok116 (.cons ok117 (.cons ok118 (.cons ok119 (.cons ok120 (.cons ok121 (.cons ok122 (.cons ok123 (.cons ok124 (.cons ok125 (.cons ok126 (.cons ok127 (.cons ok133 (.cons ok134 (.cons ok135 (.cons ok136 (.cons ok137 (.cons ok138 (.cons ok139 (.cons ok140 (.cons ok141 (.cons ok142 (.cons ok143 (.cons ok144 (.cons ok145 (.cons ok149 (.cons ok150 (.cons ok151 (.cons ok152 (.cons ok153 (.cons ok154 (.nil))))))))))))))))))))))))))))))))))))))))))))))))))))))))))))))))))))))))))))))))))))))))))))))))
theorem fn7 : T.fn 7 = some i7 := rfl
theorem fn8 : T.fn 8 = some i8 := rfl
theorem fn9 : T.fn 9 = some i9 := rfl
theorem fn10 : T.fn 10 = some i10 := rfl
theorem fn11 : T.fn 11 = some i11 := rfl
theorem fn12 : T.fn 12 = some i12 := rfl
theorem fn19 : T.fn 19 = some i19 := rfl
theorem fn27 : T.fn 27 = some i27 := rfl
theorem fn28 : T.fn 28 = some i28 := rfl
theorem fn29 : T.fn 29 = some i29 := rfl
theorem fn30 : T.fn 30 = some i30 := rfl
theorem fn31 : T.fn 31 = some i31 := rfl
theorem fn32 : T.fn 32 = some i32 := rfl
theorem fn33 : T.fn 33 = some i33 := rfl
theorem fn34 : T.fn 34 = some i34 := rfl
theorem fn35 : T.fn 35 = some i35 := rfl
theorem fn36 : T.fn 36 = some i36 := rfl
theorem fn37 : T.fn 37 = some i37 := rfl
theorem fn38 : T.fn 38 = some i38 := rfl
theorem fn39 : T.fn 39 = some i39 := rfl
theorem fn40 : T.fn 40 = some i40 := rfl
theorem fn42 : T.fn 42 = some i42 := rfl
theorem fn46 : T.fn 46 = some i46 := rfl
theorem fn48 : T.fn 48 = some i48 := rfl
theorem fn50 : T.fn 50 = some i50 := rfl
theorem fn59 : T.fn 59 = some i59 := rfl
theorem fn60 : T.fn 60 = some i60 := rfl
theorem fn61 : T.fn 61 = some i61 := rfl
theorem fn62 : T.fn 62 = some i62 := rfl
theorem fn63 : T.fn 63 = some i63 := rfl
theorem fn64 : T.fn 64 = some i64 := rfl
theorem fn65 : T.fn 65 = some i65 := rfl
theorem fn66 : T.fn 66 = some i66 := rfl
theorem fn67 : T.fn 67 = some i67 := rfl
theorem fn68 : T.fn 68 = some i68 := rfl
theorem fn69 : T.fn 69 = some i69 := rfl
theorem fn70 : T.fn 70 = some i70 := rfl
theorem fn71 : T.fn 71 = some i71 := rfl
theorem fn72 : T.fn 72 = some i72 := rfl
theorem fn73 : T.fn 73 = some i73 := rfl
theorem fn74 : T.fn 74 = some i74 := rfl
theorem fn75 : T.fn 75 = some i75 := rfl
theorem fn76 : T.fn 76 = some i76 := rfl
theorem fn77 : T.fn 77 = some i77 := rfl
theorem fn78 : T.fn 78 = some i78 := rfl
theorem fn79 : T.fn 79 = some i79 := rfl
theorem fn80 : T.fn 80 = some i80 := rfl
theorem fn81 : T.fn 81 = some i81 := rfl
theorem fn82 : T.fn 82 = some i82 := rfl
theorem fn84 : T.fn 84 = some i84 := rfl
theorem fn85 : T.fn 85 = some i85 := rfl
theorem fn86 : T.fn 86 = some i86 := rfl
theorem fn87 : T.fn 87 = some i87 := rfl
theorem fn88 : T.fn 88 = some i88 := rfl
theorem fn90 : T.fn 90 = some i90 := rfl
theorem fn91 : T.fn 91 = some i91 := rfl
theorem fn108 : T.fn 108 = some i108 := rfl
theorem fn109 : T.fn 109 = some i109 := rfl
theorem fn110 : T.fn 110 = some i110 := rfl
theorem fn111 : T.fn 111 = some i111 := rfl
theorem fn112 : T.fn 112 = some i112 := rfl
theorem fn113 : T.fn 113 = some i113 := rfl
theorem fn114 : T.fn 114 = some i114 := rfl
theorem fn115 : T.fn 115 = some i115 := rfl
theorem fn116 : T.fn 116 = some i116 := rfl
theorem fn117 : T.fn 117 = some i117 := rfl
theorem fn118 : T.fn 118 = some i118 := rfl
theorem fn119 : T.fn 119 = some i119 := rfl
theorem fn120 : T.fn 120 = some i120 := rfl
theorem fn121 : T.fn 121 = some i121 := rfl
theorem fn122 : T.fn 122 = some i122 := rfl
theorem fn123 : T.fn 123 = some i123 := rfl
theorem fn124 : T.fn 124 = some i124 := rfl
theorem fn125 : T.fn 125 = some i125 := rfl
theorem fn126 : T.fn 126 = some i126 := rfl
theorem fn127 : T.fn 127 = some i127 := rfl
theorem fn133 : T.fn 133 = some i133 := rfl
theorem fn134 : T.fn 134 = some i134 := rfl
theorem fn135 : T.fn 135 = some i135 := rfl
theorem fn136 : T.fn 136 = some i136 := rfl
theorem fn137 : T.fn 137 = some i137 := rfl
theorem fn138 : T.fn 138 = some i138 := rfl
theorem fn139 : T.fn 139 = some i139 := rfl
theorem fn140 : T.fn 140 = some i140 := rfl
theorem fn141 : T.fn 141 = some i141 := rfl
theorem fn142 : T.fn 142 = some i142 := rfl
theorem fn143 : T.fn 143 = some i143 := rfl
theorem fn144 : T.fn 144 = some i144 := rfl
theorem fn145 : T.fn 145 = some i145 := rfl
theorem fn149 : T.fn 149 = some i149 := rfl
theorem fn150 : T.fn 150 = some i150 := rfl
theorem fn151 : T.fn 151 = some i151 := rfl
theorem fn152 : T.fn 152 = some i152 := rfl
theorem fn153 : T.fn 153 = some i153 := rfl
theorem fn154 : T.fn 154 = some i154 := rfl
end Go.Pi.Ythidbgihjhkjaaa.TermFits
