/- no condition -/
import Derived.Test.YthidbgihjhkjaaaPiE
import Derived.Test.YthidbgihjhkjaaaProg
import Derived.Test.YthidbgihjhkjaaaPiD
set_option linter.all false
namespace Go.Pi.Ythidbgihjhkjaaa.ActOn
open Go Go.Proofs Go.Pi
set_option maxRecDepth 100000
attribute [go_sem] Nat.reduceLT Nat.reduceAdd Nat.reduceSub Nat.reduceMul Nat.reduceEqDiff Nat.reduceBEq Nat.reduceLeDiff Int.reduceToNat Int.reduceLT Int.reduceLE Int.reduceEq reduceCtorEq
attribute [go_sem ↓] reduceIte
@[go_sem] def r70_0 : List PO := [pK 4 0]
@[go_sem] def r70_1 : List PO := [pM 5 1,
 pM 6 0,
 pE 7 6 24,
 pO 8 .sub 3 5 7 3,
 pA 1 8]
@[go_sem] def r70_2 : List PO := [pM 9 1,
 pB 10 .lss 3 9 0 3]
@[go_sem] def r70_3 : List PO := [pK 4 (-1)]
@[go_sem] def r70_4 : List PO := [pM 11 1,
 pA 4 11]
def c70 : PC := (.seq (.reg r70_0) (.seq (.reg r70_1) (.seq (.seq (.reg r70_2) (.cond (.tmp 10) (.seq (.reg r70_3) .ret) .skip)) (.seq (.reg r70_4) .ret))))
def i70 : FnI := ⟨12, [(.tmp 4)], c70, 0, [[1], [0]], [[0]], false, false, 0, false⟩
@[go_sem] def r32_0 : List PO := [pX 2 26 0,
 pK 4 0]
@[go_sem] def r32_1 : List PO := [pF 5 26 2 1,
 pL 6 24 5,
 pM 7 1,
 pC2 8 70 6 7 24 3,
 pA 1 8]
@[go_sem] def r32_2 : List PO := [pM 9 1,
 pB 10 .lss 3 9 0 3]
@[go_sem] def r32_3 : List PO := [pK 4 (-1)]
@[go_sem] def r32_4 : List PO := [pF 11 26 2 5,
 pL 12 24 11,
 pM 13 1,
 pC2 14 70 12 13 24 3,
 pA 1 14]
@[go_sem] def r32_5 : List PO := [pM 15 1,
 pB 16 .lss 3 15 0 3]
@[go_sem] def r32_6 : List PO := [pK 4 (-1)]
@[go_sem] def r32_7 : List PO := [pM 17 1,
 pA 4 17]
def c32 : PC := (.seq (.reg r32_0) (.seq (.reg r32_1) (.seq (.seq (.reg r32_2) (.cond (.tmp 10) (.seq (.reg r32_3) .ret) .skip)) (.seq (.reg r32_4) (.seq (.seq (.reg r32_5) (.cond (.tmp 16) (.seq (.reg r32_6) .ret) .skip)) (.seq (.reg r32_7) .ret))))))
def i32 : FnI := ⟨18, [(.tmp 4)], c32, 0, [[0, 1, 0, 0, 0, 1], [0]], [[0]], false, false, 0, false⟩
@[go_sem] def r8_0 : List PO := [pX 2 28 0,
 pK 4 0]
@[go_sem] def r8_1 : List PO := [pF 5 28 2 1,
 pL 6 26 5,
 pM 7 1,
 pC2 8 32 6 7 26 3,
 pA 1 8]
@[go_sem] def r8_2 : List PO := [pM 9 1,
 pB 10 .lss 3 9 0 3]
@[go_sem] def r8_3 : List PO := [pK 4 (-1)]
@[go_sem] def r8_4 : List PO := [pM 11 1,
 pA 4 11]
def c8 : PC := (.seq (.reg r8_0) (.seq (.reg r8_1) (.seq (.seq (.reg r8_2) (.cond (.tmp 10) (.seq (.reg r8_3) .ret) .skip)) (.seq (.reg r8_4) .ret))))
def i8 : FnI := ⟨12, [(.tmp 4)], c8, 0, [[0, 0, 0, 1, 0, 0, 0, 1], [0]], [[0]], false, false, 0, false⟩
@[go_sem] def r19_0 : List PO := [pX 1 50 0,
 ⟨(some 2), (.alloc 53), none⟩]
@[go_sem] def r19_1 : List PO := [⟨(some 3), (.alloc 53), none⟩]
@[go_sem] def r19_2 : List PO := [pF 4 50 1 0,
 pL 5 3 4,
 pF 6 53 3 0,
 ⟨none, (.store 3 (.tmp 6) (.tmp 5)), none⟩]
@[go_sem] def r19_3 : List PO := [pF 7 50 1 1,
 pL 8 3 7,
 pF 9 53 3 1,
 ⟨none, (.store 3 (.tmp 9) (.tmp 8)), none⟩]
@[go_sem] def r19_4 : List PO := [pL 10 53 3,
 ⟨none, (.store 53 (.tmp 2) (.tmp 10)), none⟩]
def c19 : PC := (.seq (.reg r19_0) (.seq (.reg r19_1) (.seq (.reg r19_2) (.seq (.reg r19_3) (.seq (.reg r19_4) .ret)))))
def i19 : FnI := ⟨11, [(.cell 2 53)], c19, 0, [[0, 0]], [[0, 0]], false, false, 0, false⟩
@[go_sem] def r35_0 : List PO := [pX 1 23 0,
 ⟨(some 2), (.alloc 31), none⟩]
@[go_sem] def r35_1 : List PO := [⟨(some 3), (.alloc 31), none⟩]
@[go_sem] def r35_2 : List PO := [pF 4 23 1 0,
 pL 5 3 4,
 pF 6 31 3 0,
 ⟨none, (.store 3 (.tmp 6) (.tmp 5)), none⟩]
@[go_sem] def r35_3 : List PO := [pF 7 23 1 1,
 pL 8 3 7,
 pF 9 31 3 1,
 ⟨none, (.store 3 (.tmp 9) (.tmp 8)), none⟩]
@[go_sem] def r35_4 : List PO := [pL 10 31 3,
 ⟨none, (.store 31 (.tmp 2) (.tmp 10)), none⟩]
def c35 : PC := (.seq (.reg r35_0) (.seq (.reg r35_1) (.seq (.reg r35_2) (.seq (.reg r35_3) (.seq (.reg r35_4) .ret)))))
def i35 : FnI := ⟨11, [(.cell 2 31)], c35, 0, [[0, 0]], [[0, 0]], false, false, 0, false⟩
@[go_sem] def r74_3 : List PO := [pM 8 4,
 pM 9 0,
 pE 10 9 24,
 pO 11 .lss 3 8 10 3]
@[go_sem] def r74_5 : List PO := [pM 14 3,
 pM 15 4,
 pM 16 0,
 pM 17 4,
 pI 18 24 16 17,
 pL 19 3 18,
 pI 20 24 14 15,
 ⟨none, (.store 3 (.tmp 20) (.tmp 19)), none⟩]
@[go_sem] def r74_4 : List PO := [pM 12 4,
 pB 13 .add 3 12 1 3,
 pA 4 13]
def k74_1b : PC := (.seq (.seq (.reg r74_3) (.cond (.tmp 11) .skip (.pre ⟨[3], [.old 0], [], []⟩ (.exit 0)))) (.seq (.block 1 (.reg r74_5)) (.post (.reg r74_4) ⟨[0, 3, 4], [.old 0], [], []⟩)))
@[go_sem] def r74_0 : List PO := [⟨(some 2), (.assign (.const (.slice none 0 0))), none⟩]
@[go_sem] def r74_1 : List PO := [pM 5 0,
 pE 6 5 24,
 ⟨(some 7), (.makeSlice 24 (.tmp 6) (.tmp 6)), none⟩,
 pA 3 7]
@[go_sem] def r74_2 : List PO := [pK 4 0]
@[go_sem] def r74_6 : List PO := [pM 21 3,
 pA 2 21]
def c74 : PC := (.seq (.reg r74_0) (.seq (.reg r74_1) (.seq (.seq (.reg r74_2) (.block 0 (.pre ⟨[0, 3, 4], [.old 0], [], []⟩ (.loop k74_1b)))) (.seq (.reg r74_6) .ret))))
def i74 : FnI := ⟨22, [(.tmp 2)], c74, 0, [[1]], [[1]], false, false, 0, false⟩
@[go_sem] def r36_0 : List PO := [pX 1 26 0,
 ⟨(some 2), (.alloc 32), none⟩]
@[go_sem] def r36_1 : List PO := [⟨(some 3), (.alloc 32), none⟩]
@[go_sem] def r36_2 : List PO := [pF 4 26 1 0,
 pL 5 3 4,
 pF 6 32 3 0,
 ⟨none, (.store 3 (.tmp 6) (.tmp 5)), none⟩]
@[go_sem] def r36_3 : List PO := [pF 7 26 1 1,
 pL 8 24 7,
 pC 9 74 8 24,
 pF 10 32 3 1,
 ⟨none, (.store 24 (.tmp 10) (.tmp 9)), none⟩]
@[go_sem] def r36_4 : List PO := [pF 11 26 1 2,
 pL 12 3 11,
 pF 13 32 3 2,
 ⟨none, (.store 3 (.tmp 13) (.tmp 12)), none⟩]
@[go_sem] def r36_5 : List PO := [pF 14 26 1 3,
 pL 15 3 14,
 pF 16 32 3 3,
 ⟨none, (.store 3 (.tmp 16) (.tmp 15)), none⟩]
@[go_sem] def r36_6 : List PO := [pF 17 26 1 4,
 pL 18 3 17,
 pF 19 32 3 4,
 ⟨none, (.store 3 (.tmp 19) (.tmp 18)), none⟩]
@[go_sem] def r36_7 : List PO := [pF 20 26 1 5,
 pL 21 24 20,
 pC 22 74 21 24,
 pF 23 32 3 5,
 ⟨none, (.store 24 (.tmp 23) (.tmp 22)), none⟩]
@[go_sem] def r36_8 : List PO := [pL 24 32 3,
 ⟨none, (.store 32 (.tmp 2) (.tmp 24)), none⟩]
def c36 : PC := (.seq (.reg r36_0) (.seq (.reg r36_1) (.seq (.reg r36_2) (.seq (.reg r36_3) (.seq (.reg r36_4) (.seq (.reg r36_5) (.seq (.reg r36_6) (.seq (.reg r36_7) (.seq (.reg r36_8) .ret)))))))))
def i36 : FnI := ⟨25, [(.cell 2 32)], c36, 0, [[0, 1, 0, 0, 0, 1]], [[0, 1, 0, 0, 0, 1]], false, false, 0, false⟩
@[go_sem] def r10_0 : List PO := [pX 1 28 0,
 ⟨(some 2), (.alloc 34), none⟩]
@[go_sem] def r10_1 : List PO := [⟨(some 3), (.alloc 34), none⟩]
@[go_sem] def r10_2 : List PO := [pF 4 28 1 0,
 pL 5 23 4,
 pC 6 35 5 23,
 pF 7 34 3 0,
 ⟨none, (.store 31 (.tmp 7) (.tmp 6)), none⟩]
@[go_sem] def r10_3 : List PO := [pF 8 28 1 1,
 pL 9 26 8,
 pC 10 36 9 26,
 pF 11 34 3 1,
 ⟨none, (.store 32 (.tmp 11) (.tmp 10)), none⟩]
@[go_sem] def r10_4 : List PO := [pL 12 34 3,
 ⟨none, (.store 34 (.tmp 2) (.tmp 12)), none⟩]
def c10 : PC := (.seq (.reg r10_0) (.seq (.reg r10_1) (.seq (.reg r10_2) (.seq (.reg r10_3) (.seq (.reg r10_4) .ret)))))
def i10 : FnI := ⟨13, [(.cell 2 34)], c10, 0, [[0, 0, 0, 1, 0, 0, 0, 1]], [[0, 0, 0, 1, 0, 0, 0, 1]], false, false, 0, false⟩
@[go_sem] def r71_1 : List PO := [pM 7 0,
 pM 8 1,
 pO 9 .geq 3 7 8 3,
 pM 10 9,
 ⟨(some 11), (.move (.tmp 0)), (some (10, true))⟩,
 ⟨(some 12), (.move (.tmp 2)), (some (10, true))⟩,
 ⟨(some 13), (.binOp .leq 3 (.tmp 11) (.tmp 12) 3), (some (10, true))⟩,
 ⟨(some 14), (.pick (.tmp 10) (.tmp 13) (.const (.bool false))), none⟩,
 pA 6 14]
def k71_1 : PC := (.post (.reg r71_1) ⟨[6], [], [], []⟩)
@[go_sem] def r71_0 : List PO := [pN 6 false]
def c71 : PC := (.seq (.reg r71_0) (.seq (.pre ⟨[0, 1, 2], [], [], []⟩ k71_1) .ret))
def i71 : FnI := ⟨15, [(.tmp 6)], c71, 0, [[0], [0], [0]], [[0]], false, false, 0, false⟩
@[go_sem] def r48_5 : List PO := [pB 9 .eql 3 4 4 3,
 pA 5 9]
def k48_3 : PC := (.cond (.tmp 5) (.post .skip ⟨[1, 5], [.old 0], [], []⟩) (.post (.reg r48_5) ⟨[1, 5], [.old 0], [], []⟩))
@[go_sem] def r48_4 : List PO := [pB 8 .eql 3 4 3 3,
 pA 5 8]
def k48_2 : PC := (.cond (.tmp 5) (.post .skip ⟨[1, 5], [.old 0], [], []⟩) (.seq (.reg r48_4) (.post (.pre ⟨[1, 4, 5], [.old 0], [], []⟩ k48_3) ⟨[1, 5], [.old 0], [], []⟩)))
@[go_sem] def r48_3 : List PO := [pB 7 .eql 3 4 2 3,
 pA 5 7]
def k48_1 : PC := (.cond (.tmp 5) (.post .skip ⟨[1, 5], [.old 0], [], []⟩) (.seq (.reg r48_3) (.post (.pre ⟨[1, 4, 5], [.old 0], [], []⟩ k48_2) ⟨[1, 5], [.old 0], [], []⟩)))
@[go_sem] def r48_7 : List PO := [pF 13 53 1 0,
 pL 14 3 13,
 pB 15 .eql 3 14 5 3,
 pM 16 15,
 ⟨(some 17), (.fieldAddr 53 (.tmp 1) 1), (some (16, true))⟩,
 ⟨(some 18), (.load 3 (.tmp 17)), (some (16, true))⟩,
 ⟨(some 19), (.call { callee := (.value (.func 71)), args := #[(.tmp 18), (.const (.int .i64 1)), (.const (.int .i64 65535))], argTypes := #[3, 3, 3] }), (some (16, true))⟩,
 ⟨(some 20), (.pick (.tmp 16) (.tmp 19) (.const (.bool false))), none⟩,
 pA 2 20]
def k48_4 : PC := (.post (.reg r48_7) ⟨[2], [], [], []⟩)
@[go_sem] def r48_0 : List PO := [pX 1 53 0,
 pN 2 false]
@[go_sem] def r48_1 : List PO := [pF 3 53 1 0,
 pL 4 3 3]
@[go_sem] def r48_2 : List PO := [pB 6 .eql 3 4 1 3,
 pA 5 6]
@[go_sem] def r48_6 : List PO := [pF 10 53 1 1,
 pL 11 3 10,
 ⟨(some 12), (.call { callee := (.value (.func 71)), args := #[(.tmp 11), (.const (.int .i64 0)), (.const (.int .i64 1000000))], argTypes := #[3, 3, 3] }), none⟩,
 pA 2 12]
def c48 : PC := (.seq (.reg r48_0) (.seq (.seq (.reg r48_1) (.block 0 (.seq (.seq (.reg r48_2) (.pre ⟨[1, 4, 5], [.old 0], [], []⟩ k48_1)) (.cond (.tmp 5) (.seq (.reg r48_6) .ret) .skip)))) (.seq (.pre ⟨[1], [.old 0], [], []⟩ k48_4) .ret)))
def i48 : FnI := ⟨21, [(.tmp 2)], c48, 0, [[0, 0]], [[0]], false, false, 0, false⟩
@[go_sem] def r72_0 : List PO := [pN 2 false]
@[go_sem] def r72_1 : List PO := [pM 3 0,
 ⟨(some 4), (.call { callee := (.value (.func 71)), args := #[(.tmp 3), (.const (.int .i64 0)), (.const (.int .i64 4294967295))], argTypes := #[3, 3, 3] }), none⟩,
 pA 2 4]
def c72 : PC := (.seq (.reg r72_0) (.seq (.reg r72_1) .ret))
def i72 : FnI := ⟨5, [(.tmp 2)], c72, 0, [[0]], [[0]], false, false, 0, false⟩
@[go_sem] def r73_0 : List PO := [pX 1 31 0,
 pK 2 0]
@[go_sem] def r73_1 : List PO := [pF 3 31 1 1,
 pL 4 3 3,
 ⟨(some 5), (.binOp .sub 3 (.const (.int .i64 32)) (.tmp 4) 3), none⟩,
 ⟨(some 6), (.convert 3 145 (.tmp 5)), none⟩,
 ⟨(some 7), (.binOp .shl 3 (.const (.int .i64 1)) (.tmp 6) 145), none⟩,
 pA 2 7]
def c73 : PC := (.seq (.reg r73_0) (.seq (.reg r73_1) .ret))
def i73 : FnI := ⟨8, [(.tmp 2)], c73, 0, [[0, 0]], [[0]], false, false, 0, false⟩
@[go_sem] def r33_1 : List PO := [pF 3 31 1 1,
 pL 4 3 3,
 ⟨(some 5), (.call { callee := (.value (.func 71)), args := #[(.tmp 4), (.const (.int .i64 0)), (.const (.int .i64 32))], argTypes := #[3, 3, 3] }), none⟩,
 pM 6 5,
 ⟨(some 7), (.fieldAddr 31 (.tmp 1) 0), (some (6, true))⟩,
 ⟨(some 8), (.load 3 (.tmp 7)), (some (6, true))⟩,
 ⟨(some 9), (.call { callee := (.value (.func 72)), args := #[(.tmp 8)], argTypes := #[3] }), (some (6, true))⟩,
 ⟨(some 10), (.pick (.tmp 6) (.tmp 9) (.const (.bool false))), none⟩,
 pM 11 10,
 ⟨(some 12), (.fieldAddr 31 (.tmp 1) 0), (some (11, true))⟩,
 ⟨(some 13), (.load 3 (.tmp 12)), (some (11, true))⟩,
 ⟨(some 14), (.load 31 (.tmp 1)), (some (11, true))⟩,
 ⟨(some 15), (.call { callee := (.value (.func 73)), args := #[(.tmp 14)], argTypes := #[31] }), (some (11, true))⟩,
 ⟨(some 16), (.binOp .rem 3 (.tmp 13) (.tmp 15) 3), (some (11, true))⟩,
 ⟨(some 17), (.binOp .eql 3 (.tmp 16) (.const (.int .i64 0)) 3), (some (11, true))⟩,
 ⟨(some 18), (.pick (.tmp 11) (.tmp 17) (.const (.bool false))), none⟩,
 pA 2 18]
def k33_1 : PC := (.post (.fz r33_1) ⟨[2], [], [], []⟩)
@[go_sem] def r33_0 : List PO := [pX 1 31 0,
 pN 2 false]
def c33 : PC := (.seq (.reg r33_0) (.seq (.pre ⟨[1], [.old 0], [], []⟩ k33_1) .ret))
def i33 : FnI := ⟨19, [(.tmp 2)], c33, 0, [[0, 0]], [[0]], false, false, 0, false⟩
@[go_sem] def r34_2 : List PO := [pO 11 .lss 3 10 9 3]
@[go_sem] def r34_3 : List PO := [pI 12 24 8 10,
 pL 13 3 12,
 pA 4 13]
@[go_sem] def r34_4 : List PO := [pM 14 4,
 ⟨(some 15), (.call { callee := (.value (.func 71)), args := #[(.tmp 14), (.const (.int .i64 1)), (.const (.int .i64 65535))], argTypes := #[3, 3, 3] }), none⟩,
 ⟨(some 16), (.unOp .not 4 (.tmp 15)), none⟩]
@[go_sem] def r34_5 : List PO := [pN 2 false]
@[go_sem] def r34_6 : List PO := [pB 17 .add 3 10 1 3,
 pM 10 17]
def k34_1b : PC := (.seq (.reg r34_2) (.seq (.cond (.tmp 11) .skip (.pre ⟨[1], [.old 0], [], []⟩ (.exit 0))) (.seq (.block 1 (.seq (.reg r34_3) (.seq (.reg r34_4) (.cond (.tmp 16) (.seq (.reg r34_5) (.pre ⟨[2], [], [], []⟩ .ret)) .skip)))) (.post (.reg r34_6) ⟨[1, 8, 9, 10], [.old 0], [], []⟩))))
@[go_sem] def r34_10 : List PO := [pM 26 6,
 ⟨(some 27), (.call { callee := (.value (.func 71)), args := #[(.tmp 26), (.const (.int .i64 0)), (.const (.int .i64 1000000))], argTypes := #[3, 3, 3] }), none⟩,
 ⟨(some 28), (.unOp .not 4 (.tmp 27)), none⟩,
 pM 29 28,
 ⟨(some 30), (.move (.tmp 5)), (some (29, false))⟩,
 ⟨(some 31), (.binOp .gtr 3 (.tmp 30) (.const (.int .i64 0)) 3), (some (29, false))⟩,
 ⟨(some 32), (.move (.tmp 31)), (some (29, false))⟩,
 ⟨(some 33), (.fieldAddr 32 (.tmp 1) 5), (some (32, true))⟩,
 ⟨(some 34), (.load 24 (.tmp 33)), (some (32, true))⟩,
 ⟨(some 35), (.move (.tmp 5)), (some (32, true))⟩,
 ⟨(some 36), (.binOp .sub 3 (.tmp 35) (.const (.int .i64 1)) 3), (some (32, true))⟩,
 ⟨(some 37), (.indexAddr 24 (.tmp 34) (.tmp 36)), (some (32, true))⟩,
 ⟨(some 38), (.load 3 (.tmp 37)), (some (32, true))⟩,
 ⟨(some 39), (.move (.tmp 6)), (some (32, true))⟩,
 ⟨(some 40), (.binOp .geq 3 (.tmp 38) (.tmp 39) 3), (some (32, true))⟩,
 ⟨(some 41), (.pick (.tmp 32) (.tmp 40) (.const (.bool false))), (some (29, false))⟩,
 ⟨(some 42), (.pick (.tmp 29) (.const (.bool true)) (.tmp 41)), none⟩]
def k34_4 : PC := (.post (.reg r34_10) ⟨[1, 19, 20, 21, 42], [.old 0], [], []⟩)
@[go_sem] def r34_8 : List PO := [pO 22 .lss 3 21 20 3]
@[go_sem] def r34_9 : List PO := [pM 23 21,
 pI 24 24 19 21,
 pL 25 3 24,
 pA 5 23,
 pA 6 25]
@[go_sem] def r34_11 : List PO := [pN 2 false]
@[go_sem] def r34_12 : List PO := [pB 43 .add 3 21 1 3,
 pM 21 43]
def k34_2b : PC := (.seq (.reg r34_8) (.seq (.cond (.tmp 22) .skip (.pre ⟨[1], [.old 0], [], []⟩ (.exit 2))) (.seq (.block 3 (.seq (.reg r34_9) (.seq (.pre ⟨[1, 5, 6, 19, 20, 21], [.old 0], [], []⟩ k34_4) (.cond (.tmp 42) (.seq (.reg r34_11) (.pre ⟨[2], [], [], []⟩ .ret)) .skip)))) (.post (.reg r34_12) ⟨[1, 19, 20, 21], [.old 0], [], []⟩))))
@[go_sem] def r34_13 : List PO := [pF 44 32 1 0,
 pL 45 3 44,
 ⟨(some 46), (.call { callee := (.value (.func 71)), args := #[(.tmp 45), (.const (.int .i64 0)), (.const (.int .i64 2))], argTypes := #[3, 3, 3] }), none⟩,
 pM 47 46,
 ⟨(some 48), (.fieldAddr 32 (.tmp 1) 1), (some (47, true))⟩,
 ⟨(some 49), (.load 24 (.tmp 48)), (some (47, true))⟩,
 ⟨(some 50), (.call { callee := (.builtin .len), args := #[(.tmp 49)], argTypes := #[24] }), (some (47, true))⟩,
 ⟨(some 51), (.binOp .leq 3 (.tmp 50) (.const (.int .i64 10)) 3), (some (47, true))⟩,
 ⟨(some 52), (.pick (.tmp 47) (.tmp 51) (.const (.bool false))), none⟩,
 pM 53 52,
 ⟨(some 54), (.fieldAddr 32 (.tmp 1) 2), (some (53, true))⟩,
 ⟨(some 55), (.load 3 (.tmp 54)), (some (53, true))⟩,
 ⟨(some 56), (.call { callee := (.value (.func 72)), args := #[(.tmp 55)], argTypes := #[3] }), (some (53, true))⟩,
 ⟨(some 57), (.pick (.tmp 53) (.tmp 56) (.const (.bool false))), none⟩,
 pM 58 57,
 ⟨(some 59), (.fieldAddr 32 (.tmp 1) 3), (some (58, true))⟩,
 ⟨(some 60), (.load 3 (.tmp 59)), (some (58, true))⟩,
 ⟨(some 61), (.call { callee := (.value (.func 71)), args := #[(.tmp 60), (.const (.int .i64 0)), (.const (.int .i64 1000000))], argTypes := #[3, 3, 3] }), (some (58, true))⟩,
 ⟨(some 62), (.pick (.tmp 58) (.tmp 61) (.const (.bool false))), none⟩,
 pM 63 62,
 ⟨(some 64), (.fieldAddr 32 (.tmp 1) 4), (some (63, true))⟩,
 ⟨(some 65), (.load 3 (.tmp 64)), (some (63, true))⟩,
 ⟨(some 66), (.call { callee := (.value (.func 71)), args := #[(.tmp 65), (.const (.int .i64 0)), (.const (.int .i64 1000000))], argTypes := #[3, 3, 3] }), (some (63, true))⟩,
 ⟨(some 67), (.pick (.tmp 63) (.tmp 66) (.const (.bool false))), none⟩,
 pM 68 67,
 ⟨(some 69), (.fieldAddr 32 (.tmp 1) 5), (some (68, true))⟩,
 ⟨(some 70), (.load 24 (.tmp 69)), (some (68, true))⟩,
 ⟨(some 71), (.call { callee := (.builtin .len), args := #[(.tmp 70)], argTypes := #[24] }), (some (68, true))⟩,
 ⟨(some 72), (.binOp .leq 3 (.tmp 71) (.const (.int .i64 6)) 3), (some (68, true))⟩,
 ⟨(some 73), (.pick (.tmp 68) (.tmp 72) (.const (.bool false))), none⟩,
 pA 2 73]
def k34_5 : PC := (.post (.reg r34_13) ⟨[2], [], [], []⟩)
@[go_sem] def r34_0 : List PO := [pX 1 32 0,
 pN 2 false]
@[go_sem] def r34_1 : List PO := [pF 7 32 1 1,
 pL 8 24 7,
 pE 9 8 24,
 ⟨(some 10), (.move (.const (.int .i64 0))), none⟩]
@[go_sem] def r34_7 : List PO := [pF 18 32 1 5,
 pL 19 24 18,
 pE 20 19 24,
 ⟨(some 21), (.move (.const (.int .i64 0))), none⟩]
def c34 : PC := (.seq (.reg r34_0) (.seq (.seq (.reg r34_1) (.block 0 (.pre ⟨[1, 8, 9, 10], [.old 0], [], []⟩ (.loop k34_1b)))) (.seq (.seq (.reg r34_7) (.block 2 (.pre ⟨[1, 19, 20, 21], [.old 0], [], []⟩ (.loop k34_2b)))) (.seq (.pre ⟨[1], [.old 0], [], []⟩ k34_5) .ret))))
def i34 : FnI := ⟨74, [(.tmp 2)], c34, 0, [[0, 1, 0, 0, 0, 1]], [[0]], false, false, 0, false⟩
@[go_sem] def r9_1 : List PO := [pF 3 34 1 0,
 pL 4 31 3,
 pC 5 33 4 31,
 pM 6 5,
 ⟨(some 7), (.fieldAddr 34 (.tmp 1) 1), (some (6, true))⟩,
 ⟨(some 8), (.load 32 (.tmp 7)), (some (6, true))⟩,
 ⟨(some 9), (.call { callee := (.value (.func 34)), args := #[(.tmp 8)], argTypes := #[32] }), (some (6, true))⟩,
 ⟨(some 10), (.pick (.tmp 6) (.tmp 9) (.const (.bool false))), none⟩,
 pA 2 10]
def k9_1 : PC := (.post (.reg r9_1) ⟨[2], [], [], []⟩)
@[go_sem] def r9_0 : List PO := [pX 1 34 0,
 pN 2 false]
def c9 : PC := (.seq (.reg r9_0) (.seq (.pre ⟨[1], [.old 0], [], []⟩ k9_1) .ret))
def i9 : FnI := ⟨11, [(.tmp 2)], c9, 0, [[0, 0, 0, 1, 0, 0, 0, 1]], [[0]], false, false, 0, false⟩
@[go_sem] def r89_0 : List PO := [pX 1 32 0,
 ⟨(some 2), (.alloc 32), none⟩]
@[go_sem] def r89_1 : List PO := [⟨(some 3), (.buildSlice 24 0 #[]), none⟩,
 pF 4 32 1 1,
 pL 5 24 4,
 ⟨(some 6), (.call { callee := (.builtin .append), args := #[(.tmp 3), (.tmp 5)], argTypes := #[24, 24] }), none⟩,
 pF 7 32 1 1,
 ⟨none, (.store 24 (.tmp 7) (.tmp 6)), none⟩]
@[go_sem] def r89_2 : List PO := [⟨(some 8), (.buildSlice 24 0 #[]), none⟩,
 pF 9 32 1 5,
 pL 10 24 9,
 ⟨(some 11), (.call { callee := (.builtin .append), args := #[(.tmp 8), (.tmp 10)], argTypes := #[24, 24] }), none⟩,
 pF 12 32 1 5,
 ⟨none, (.store 24 (.tmp 12) (.tmp 11)), none⟩]
@[go_sem] def r89_3 : List PO := [pL 13 32 1,
 ⟨none, (.store 32 (.tmp 2) (.tmp 13)), none⟩]
def c89 : PC := (.seq (.reg r89_0) (.seq (.reg r89_1) (.seq (.reg r89_2) (.seq (.reg r89_3) .ret))))
def i89 : FnI := ⟨14, [(.cell 2 32)], c89, 0, [[0, 1, 0, 0, 0, 1]], [[0, 1, 0, 0, 0, 1]], false, false, 0, false⟩
@[go_sem] def r90_2 : List PO := [pM 7 5,
 pM 8 0,
 pE 9 8 24,
 pO 10 .lss 3 7 9 3,
 pM 11 10,
 ⟨(some 12), (.move (.tmp 0)), (some (11, true))⟩,
 ⟨(some 13), (.move (.tmp 5)), (some (11, true))⟩,
 ⟨(some 14), (.indexAddr 24 (.tmp 12) (.tmp 13)), (some (11, true))⟩,
 ⟨(some 15), (.load 3 (.tmp 14)), (some (11, true))⟩,
 ⟨(some 16), (.move (.tmp 1)), (some (11, true))⟩,
 ⟨(some 17), (.binOp .lss 3 (.tmp 15) (.tmp 16) 3), (some (11, true))⟩,
 ⟨(some 18), (.pick (.tmp 11) (.tmp 17) (.const (.bool false))), none⟩]
def k90_3 : PC := (.post (.reg r90_2) ⟨[0, 1, 5, 18], [.old 1], [0], []⟩)
@[go_sem] def r90_3 : List PO := [pM 19 5,
 pB 20 .add 3 19 1 3,
 pA 5 20]
def k90_1b : PC := (.seq (.seq (.pre ⟨[0, 1, 5], [.old 1], [0], []⟩ k90_3) (.cond (.tmp 18) .skip (.pre ⟨[0, 1, 5], [.old 1], [0], []⟩ (.exit 0)))) (.block 1 (.post (.reg r90_3) ⟨[0, 1, 5], [.old 1], [0], []⟩)))
@[go_sem] def r90_4 : List PO := [pM 21 5,
 pM 22 0,
 pE 23 22 24,
 pO 24 .lss 3 21 23 3,
 pM 25 24,
 ⟨(some 26), (.move (.tmp 0)), (some (25, true))⟩,
 ⟨(some 27), (.move (.tmp 5)), (some (25, true))⟩,
 ⟨(some 28), (.indexAddr 24 (.tmp 26) (.tmp 27)), (some (25, true))⟩,
 ⟨(some 29), (.load 3 (.tmp 28)), (some (25, true))⟩,
 ⟨(some 30), (.move (.tmp 1)), (some (25, true))⟩,
 ⟨(some 31), (.binOp .eql 3 (.tmp 29) (.tmp 30) 3), (some (25, true))⟩,
 ⟨(some 32), (.pick (.tmp 25) (.tmp 31) (.const (.bool false))), none⟩]
def k90_4 : PC := (.post (.reg r90_4) ⟨[0, 1, 5, 32], [.old 1], [0], []⟩)
@[go_sem] def r90_0 : List PO := [⟨(some 4), (.assign (.const (.slice none 0 0))), none⟩]
@[go_sem] def r90_1 : List PO := [pK 5 0]
@[go_sem] def r90_5 : List PO := [pM 33 0,
 pA 4 33]
@[go_sem] def r90_6 : List PO := [⟨(some 6), (.assign (.const (.slice none 0 0))), none⟩]
@[go_sem] def r90_7 : List PO := [pM 34 6,
 pM 35 0,
 pM 36 5,
 ⟨(some 37), (.slice 24 (.tmp 35) none (some (.tmp 36)) none), none⟩,
 ⟨(some 38), (.call { callee := (.builtin .append), args := #[(.tmp 34), (.tmp 37)], argTypes := #[24, 24] }), none⟩,
 pA 6 38]
@[go_sem] def r90_8 : List PO := [pM 39 6,
 pM 40 1,
 ⟨(some 41), (.buildSlice 24 1 #[(0, (.tmp 40))]), none⟩,
 ⟨(some 42), (.call { callee := (.builtin .append), args := #[(.tmp 39), (.tmp 41)], argTypes := #[24, 24] }), none⟩,
 pA 6 42]
@[go_sem] def r90_9 : List PO := [pM 43 6,
 pM 44 0,
 pM 45 5,
 ⟨(some 46), (.slice 24 (.tmp 44) (some (.tmp 45)) none none), none⟩,
 ⟨(some 47), (.call { callee := (.builtin .append), args := #[(.tmp 43), (.tmp 46)], argTypes := #[24, 24] }), none⟩,
 pA 4 47]
def c90 : PC := (.seq (.reg r90_0) (.seq (.reg r90_1) (.seq (.block 0 (.pre ⟨[0, 1, 5], [.old 0], [0], []⟩ (.loop k90_1b))) (.seq (.seq (.pre ⟨[0, 1, 5], [.old 1], [0], []⟩ k90_4) (.cond (.tmp 32) (.seq (.reg r90_5) (.pre ⟨[4], [.old 1], [0], []⟩ .ret)) .skip)) (.seq (.reg r90_6) (.seq (.reg r90_7) (.seq (.reg r90_8) (.seq (.reg r90_9) (.pre ⟨[4], [.old 5], [0], []⟩ .ret)))))))))
def i90 : FnI := ⟨48, [(.tmp 4)], c90, 3, [[1], [0]], [[1]], false, true, 1, false⟩
@[go_sem] def r49_15 : List PO := [pM 53 6,
 pM 54 8,
 ⟨(some 55), (.buildSlice 24 1 #[(0, (.tmp 54))]), none⟩,
 ⟨(some 56), (.call { callee := (.builtin .append), args := #[(.tmp 53), (.tmp 55)], argTypes := #[24, 24] }), none⟩,
 pA 6 56]
def k49_7 : PC := (.cond (.tmp 52) (.post (.reg r49_15) ⟨[2, 4, 5, 6, 43, 44, 45], [.old 0, .old 1, .old 2, .old 3, .old 4, .old 5, .old 6, .old 9], [], []⟩) (.post .skip ⟨[2, 4, 5, 6, 43, 44, 45], [.old 0, .old 1, .old 2, .old 3, .old 4, .old 5, .old 6, .old 7], [], []⟩))
@[go_sem] def r49_12 : List PO := [pO 46 .lss 3 45 44 3]
@[go_sem] def r49_13 : List PO := [pI 47 24 43 45,
 pL 48 3 47,
 pA 8 48]
@[go_sem] def r49_14 : List PO := [pM 49 8,
 pF 50 53 2 1,
 pL 51 3 50,
 pO 52 .neq 3 49 51 3]
@[go_sem] def r49_16 : List PO := [pB 57 .add 3 45 1 3,
 pM 45 57]
def k49_5b : PC := (.seq (.reg r49_12) (.seq (.cond (.tmp 46) .skip (.pre ⟨[4, 5, 6], [.old 1, .old 2, .old 3, .old 4, .old 5, .old 6, .old 7], [], []⟩ (.exit 1))) (.seq (.block 2 (.seq (.reg r49_13) (.seq (.reg r49_14) (.pre ⟨[2, 4, 5, 6, 8, 43, 44, 45, 52], [.old 0, .old 1, .old 2, .old 3, .old 4, .old 5, .old 6, .old 7], [], []⟩ k49_7)))) (.post (.reg r49_16) ⟨[2, 4, 5, 6, 43, 44, 45], [.old 0, .old 1, .old 2, .old 3, .old 4, .old 5, .old 6, .old 7], [], []⟩))))
@[go_sem] def r49_19 : List PO := [pF 63 53 2 1,
 pL 64 3 63,
 ⟨(some 65), (.buildSlice 24 1 #[(0, (.tmp 64))]), none⟩,
 pF 66 34 3 1,
 pF 67 32 66 1,
 pL 68 24 67,
 ⟨(some 69), (.call { callee := (.builtin .append), args := #[(.tmp 65), (.tmp 68)], argTypes := #[24, 24] }), none⟩,
 pF 70 34 5 1,
 pF 71 32 70 1,
 ⟨none, (.store 24 (.tmp 71) (.tmp 69)), none⟩]
def k49_8 : PC := (.cond (.tmp 61) (.post (.reg r49_19) ⟨[4, 5], [.old 2, .old 3, .old 4, .old 5, .old 9, .old 7], [], []⟩) (.post .skip ⟨[4, 5], [.old 2, .old 3, .old 4, .old 5, .old 6, .old 7], [], []⟩))
@[go_sem] def r49_10 : List PO := [⟨(some 6), (.assign (.const (.slice none 0 0))), none⟩]
@[go_sem] def r49_11 : List PO := [pF 41 34 3 1,
 pF 42 32 41 5,
 pL 43 24 42,
 pE 44 43 24,
 ⟨(some 45), (.move (.const (.int .i64 0))), none⟩]
@[go_sem] def r49_17 : List PO := [pM 58 6,
 pF 59 34 5 1,
 pF 60 32 59 5,
 ⟨none, (.store 24 (.tmp 60) (.tmp 58)), none⟩]
@[go_sem] def r49_18 : List PO := [pB 62 .eql 3 16 5 3,
 pA 61 62]
def k49_4 : PC := (.cond (.tmp 39) (.seq (.reg r49_10) (.seq (.seq (.reg r49_11) (.block 1 (.pre ⟨[2, 4, 5, 6, 43, 44, 45], [.old 0, .old 2, .old 3, .old 4, .old 5, .old 6, .old 7, .nilT 6 0 1], [], []⟩ (.loop k49_5b)))) (.post (.reg r49_17) ⟨[4, 5], [.old 0, .old 1, .old 2, .old 3, .old 4, .old 6], [], []⟩))) (.seq (.reg r49_18) (.post (.pre ⟨[2, 3, 4, 5, 61], [.old 0, .old 1, .old 2, .old 3, .old 4, .old 5, .old 6, .old 7], [], []⟩ k49_8) ⟨[4, 5], [.old 0, .old 1, .old 2, .old 3, .old 4, .old 5], [], []⟩)))
@[go_sem] def r49_8 : List PO := [pF 31 34 5 1,
 pF 32 32 31 5,
 pL 33 24 32,
 pF 34 53 2 1,
 pL 35 3 34,
 pC2 36 90 33 35 24 3,
 pF 37 34 5 1,
 pF 38 32 37 5,
 ⟨none, (.store 24 (.tmp 38) (.tmp 36)), none⟩]
@[go_sem] def r49_9 : List PO := [pB 40 .eql 3 16 4 3,
 pA 39 40]
def k49_3 : PC := (.cond (.tmp 29) (.post (.reg r49_8) ⟨[4, 5], [.old 2, .old 3, .old 4, .old 5, .old 6, .old 8], [], []⟩) (.seq (.reg r49_9) (.post (.pre ⟨[2, 3, 4, 5, 16, 39], [.old 0, .old 1, .old 2, .old 3, .old 4, .old 5, .old 6, .old 7], [], []⟩ k49_4) ⟨[4, 5], [.old 0, .old 1, .old 2, .old 3, .old 4, .old 5], [], []⟩)))
@[go_sem] def r49_6 : List PO := [pF 25 53 2 1,
 pL 26 3 25,
 pF 27 34 5 1,
 pF 28 32 27 3,
 ⟨none, (.store 3 (.tmp 28) (.tmp 26)), none⟩]
@[go_sem] def r49_7 : List PO := [pB 30 .eql 3 16 3 3,
 pA 29 30]
def k49_2 : PC := (.cond (.tmp 23) (.post (.reg r49_6) ⟨[4, 5], [.old 2, .old 3, .old 4, .old 5, .old 6, .old 7], [], []⟩) (.seq (.reg r49_7) (.post (.pre ⟨[2, 3, 4, 5, 16, 29], [.old 0, .old 1, .old 2, .old 3, .old 4, .old 5, .old 6, .old 7], [], []⟩ k49_3) ⟨[4, 5], [.old 0, .old 1, .old 2, .old 3, .old 4, .old 5], [], []⟩)))
@[go_sem] def r49_4 : List PO := [pF 19 53 2 1,
 pL 20 3 19,
 pF 21 34 5 1,
 pF 22 32 21 4,
 ⟨none, (.store 3 (.tmp 22) (.tmp 20)), none⟩]
@[go_sem] def r49_5 : List PO := [pB 24 .eql 3 16 2 3,
 pA 23 24]
def k49_1 : PC := (.cond (.tmp 17) (.post (.reg r49_4) ⟨[4, 5], [.old 2, .old 3, .old 4, .old 5, .old 6, .old 7], [], []⟩) (.seq (.reg r49_5) (.post (.pre ⟨[2, 3, 4, 5, 16, 23], [.old 0, .old 1, .old 2, .old 3, .old 4, .old 5, .old 6, .old 7], [], []⟩ k49_2) ⟨[4, 5], [.old 0, .old 1, .old 2, .old 3, .old 4, .old 5], [], []⟩)))
@[go_sem] def r49_0 : List PO := [pX 2 53 0,
 pX 3 34 1,
 ⟨(some 4), (.alloc 34), none⟩]
@[go_sem] def r49_1 : List PO := [pF 9 34 3 0,
 pL 10 31 9,
 pF 11 34 3 1,
 pL 12 32 11,
 pC 13 89 12 32,
 ⟨(some 14), (.build 34 #[(0, (.tmp 10)), (1, (.tmp 13))]), none⟩,
 ⟨(some 5), (.alloc 34), none⟩,
 ⟨none, (.store 34 (.tmp 5) (.tmp 14)), none⟩]
@[go_sem] def x49_1 : FxI := ⟨[4, 6, 7], [none, none, none, none, none, none, some 0, none], 1, [[], [4], [4, 6], [4, 6, 7], [6]], [(0, 6)], [(1, 1, 1), (1, 2, 2), (1, 4, 4), (3, 4, 4), (4, 4, 2), (5, 2, 2), (6, 0, 4)]⟩
@[go_sem] def r49_2 : List PO := [pF 15 53 2 0,
 pL 16 3 15]
@[go_sem] def r49_3 : List PO := [pB 18 .eql 3 16 1 3,
 pA 17 18]
@[go_sem] def r49_20 : List PO := [pL 72 34 5,
 ⟨none, (.store 34 (.tmp 4) (.tmp 72)), none⟩]
def c49 : PC := (.seq (.reg r49_0) (.seq (.fx r49_1 x49_1) (.seq (.seq (.reg r49_2) (.block 0 (.seq (.reg r49_3) (.pre ⟨[2, 3, 4, 5, 16, 17], [.old 0, .old 1, .old 2, .nilB 2 3 1, .nilB 2 7 1, .old 3, .old 4, .old 5], [], []⟩ k49_1)))) (.seq (.reg r49_20) .ret))))
def i49 : FnI := ⟨73, [(.cell 4 34)], c49, 0, [[0, 0], [0, 0, 0, 1, 0, 0, 0, 1]], [[0, 0, 0, 1, 0, 0, 0, 1]], false, false, 0, false⟩
@[go_sem] def r18_1 : List PO := [pL 7 53 2,
 pC 8 48 7 53,
 ⟨(some 9), (.unOp .not 4 (.tmp 8)), none⟩,
 pM 10 9,
 ⟨(some 11), (.load 34 (.tmp 3)), (some (10, false))⟩,
 ⟨(some 12), (.call { callee := (.value (.func 9)), args := #[(.tmp 11)], argTypes := #[34] }), (some (10, false))⟩,
 ⟨(some 13), (.unOp .not 4 (.tmp 12)), (some (10, false))⟩,
 ⟨(some 14), (.pick (.tmp 10) (.const (.bool true)) (.tmp 13)), none⟩]
def k18_1 : PC := (.post (.reg r18_1) ⟨[2, 3, 4, 14], [.old 0, .old 1, .old 2, .old 3, .old 4], [], []⟩)
@[go_sem] def r18_0 : List PO := [pX 2 53 0,
 pX 3 34 1,
 ⟨(some 4), (.alloc 34), none⟩,
 pN 5 false]
@[go_sem] def r18_2 : List PO := [⟨(some 15), (.build 34 #[]), none⟩,
 ⟨none, (.store 34 (.tmp 4) (.tmp 15)), none⟩,
 pN 5 false]
@[go_sem] def r18_3 : List PO := [pL 16 53 2,
 pL 17 34 3,
 pC2 18 49 16 17 53 34,
 ⟨(some 6), (.alloc 34), none⟩,
 ⟨none, (.store 34 (.tmp 6) (.tmp 18)), none⟩]
@[go_sem] def r18_4 : List PO := [pL 19 34 6,
 pC 20 9 19 34,
 ⟨(some 21), (.unOp .not 4 (.tmp 20)), none⟩]
@[go_sem] def r18_5 : List PO := [⟨(some 22), (.build 34 #[]), none⟩,
 ⟨none, (.store 34 (.tmp 4) (.tmp 22)), none⟩,
 pN 5 false]
@[go_sem] def r18_6 : List PO := [pL 23 34 6,
 ⟨none, (.store 34 (.tmp 4) (.tmp 23)), none⟩,
 pN 5 true]
def c18 : PC := (.seq (.reg r18_0) (.seq (.seq (.pre ⟨[2, 3, 4], [.old 0, .old 1, .old 2, .nilB 2 3 1, .nilB 2 7 1], [], []⟩ k18_1) (.cond (.tmp 14) (.seq (.reg r18_2) .ret) .skip)) (.seq (.reg r18_3) (.seq (.seq (.reg r18_4) (.cond (.tmp 21) (.seq (.reg r18_5) .ret) .skip)) (.seq (.reg r18_6) .ret)))))
def i18 : FnI := ⟨24, [(.cell 4 34), (.tmp 5)], c18, 0, [[0, 0], [0, 0, 0, 1, 0, 0, 0, 1]], [[0, 0, 0, 1, 0, 0, 0, 1], [0]], false, false, 0, false⟩
@[go_sem] def r75_1 : List PO := [pM 7 0,
 pM 8 1,
 pO 9 .geq 3 7 8 3,
 pM 10 9,
 ⟨(some 11), (.move (.tmp 0)), (some (10, true))⟩,
 ⟨(some 12), (.move (.tmp 2)), (some (10, true))⟩,
 ⟨(some 13), (.binOp .leq 3 (.tmp 11) (.tmp 12) 3), (some (10, true))⟩,
 ⟨(some 14), (.pick (.tmp 10) (.tmp 13) (.const (.bool false))), none⟩,
 pA 6 14]
def k75_1 : PC := (.post (.reg r75_1) ⟨[6], [], [], []⟩)
@[go_sem] def r75_0 : List PO := [pN 6 false]
def c75 : PC := (.seq (.reg r75_0) (.seq (.pre ⟨[0, 1, 2], [], [], []⟩ k75_1) .ret))
def i75 : FnI := ⟨15, [(.tmp 6)], c75, 0, [[0], [0], [0]], [[0]], false, false, 0, false⟩
@[go_sem] def r79_0 : List PO := [pN 2 false]
@[go_sem] def r79_1 : List PO := [pM 3 0,
 ⟨(some 4), (.call { callee := (.value (.func 75)), args := #[(.tmp 3), (.const (.int .i64 0)), (.const (.int .i64 1000000))], argTypes := #[3, 3, 3] }), none⟩,
 pA 2 4]
def c79 : PC := (.seq (.reg r79_0) (.seq (.reg r79_1) .ret))
def i79 : FnI := ⟨5, [(.tmp 2)], c79, 0, [[0]], [[0]], false, false, 0, false⟩
@[go_sem] def r91_0 : List PO := [pN 2 false]
@[go_sem] def r91_1 : List PO := [pM 3 0,
 ⟨(some 4), (.call { callee := (.value (.func 75)), args := #[(.tmp 3), (.const (.int .i64 1)), (.const (.int .i64 65535))], argTypes := #[3, 3, 3] }), none⟩,
 pA 2 4]
def c91 : PC := (.seq (.reg r91_0) (.seq (.reg r91_1) .ret))
def i91 : FnI := ⟨5, [(.tmp 2)], c91, 0, [[0]], [[0]], false, false, 0, false⟩
@[go_sem] def r50_5 : List PO := [pB 9 .eql 3 4 4 3,
 pA 5 9]
def k50_3 : PC := (.cond (.tmp 5) (.post .skip ⟨[1, 4, 5], [.old 0], [], []⟩) (.post (.reg r50_5) ⟨[1, 4, 5], [.old 0], [], []⟩))
@[go_sem] def r50_4 : List PO := [pB 8 .eql 3 4 3 3,
 pA 5 8]
def k50_2 : PC := (.cond (.tmp 5) (.post .skip ⟨[1, 4, 5], [.old 0], [], []⟩) (.seq (.reg r50_4) (.post (.pre ⟨[1, 4, 5], [.old 0], [], []⟩ k50_3) ⟨[1, 4, 5], [.old 0], [], []⟩)))
@[go_sem] def r50_3 : List PO := [pB 7 .eql 3 4 2 3,
 pA 5 7]
def k50_1 : PC := (.cond (.tmp 5) (.post .skip ⟨[1, 4, 5], [.old 0], [], []⟩) (.seq (.reg r50_3) (.post (.pre ⟨[1, 4, 5], [.old 0], [], []⟩ k50_2) ⟨[1, 4, 5], [.old 0], [], []⟩)))
@[go_sem] def r50_0 : List PO := [pX 1 53 0,
 pN 2 false]
@[go_sem] def r50_1 : List PO := [pF 3 53 1 0,
 pL 4 3 3]
@[go_sem] def r50_2 : List PO := [pB 6 .eql 3 4 1 3,
 pA 5 6]
@[go_sem] def r50_6 : List PO := [pF 10 53 1 1,
 pL 11 3 10,
 pC 12 79 11 3,
 pA 2 12]
@[go_sem] def r50_7 : List PO := [pB 14 .eql 3 4 5 3,
 pA 13 14]
@[go_sem] def r50_8 : List PO := [pF 15 53 1 1,
 pL 16 3 15,
 pC 17 91 16 3,
 pA 2 17]
@[go_sem] def r50_9 : List PO := [pN 2 false]
def c50 : PC := (.seq (.reg r50_0) (.seq (.seq (.reg r50_1) (.block 0 (.seq (.seq (.reg r50_2) (.pre ⟨[1, 4, 5], [.old 0], [], []⟩ k50_1)) (.cond (.tmp 5) (.seq (.reg r50_6) .ret) (.seq (.reg r50_7) (.cond (.tmp 13) (.seq (.reg r50_8) .ret) .skip)))))) (.seq (.reg r50_9) .ret)))
def i50 : FnI := ⟨18, [(.tmp 2)], c50, 0, [[0, 0]], [[0]], false, false, 0, false⟩
@[go_sem] def r76_0 : List PO := [pN 2 false]
@[go_sem] def r76_1 : List PO := [pM 3 0,
 ⟨(some 4), (.call { callee := (.value (.func 75)), args := #[(.tmp 3), (.const (.int .i64 0)), (.const (.int .i64 4294967295))], argTypes := #[3, 3, 3] }), none⟩,
 pA 2 4]
def c76 : PC := (.seq (.reg r76_0) (.seq (.reg r76_1) .ret))
def i76 : FnI := ⟨5, [(.tmp 2)], c76, 0, [[0]], [[0]], false, false, 0, false⟩
@[go_sem] def r77_0 : List PO := [pK 2 0]
@[go_sem] def r77_1 : List PO := [pM 3 0,
 ⟨(some 4), (.binOp .sub 3 (.const (.int .i64 32)) (.tmp 3) 3), none⟩,
 ⟨(some 5), (.binOp .shl 3 (.const (.int .i64 1)) (.tmp 4) 3), none⟩,
 pA 2 5]
def c77 : PC := (.seq (.reg r77_0) (.seq (.reg r77_1) .ret))
def i77 : FnI := ⟨6, [(.tmp 2)], c77, 0, [[0]], [[0]], false, false, 0, false⟩
@[go_sem] def r37_1 : List PO := [pF 3 31 1 1,
 pL 4 3 3,
 ⟨(some 5), (.call { callee := (.value (.func 75)), args := #[(.tmp 4), (.const (.int .i64 0)), (.const (.int .i64 32))], argTypes := #[3, 3, 3] }), none⟩,
 pM 6 5,
 ⟨(some 7), (.fieldAddr 31 (.tmp 1) 0), (some (6, true))⟩,
 ⟨(some 8), (.load 3 (.tmp 7)), (some (6, true))⟩,
 ⟨(some 9), (.call { callee := (.value (.func 76)), args := #[(.tmp 8)], argTypes := #[3] }), (some (6, true))⟩,
 ⟨(some 10), (.pick (.tmp 6) (.tmp 9) (.const (.bool false))), none⟩,
 pM 11 10,
 ⟨(some 12), (.fieldAddr 31 (.tmp 1) 0), (some (11, true))⟩,
 ⟨(some 13), (.load 3 (.tmp 12)), (some (11, true))⟩,
 ⟨(some 14), (.fieldAddr 31 (.tmp 1) 1), (some (11, true))⟩,
 ⟨(some 15), (.load 3 (.tmp 14)), (some (11, true))⟩,
 ⟨(some 16), (.call { callee := (.value (.func 77)), args := #[(.tmp 15)], argTypes := #[3] }), (some (11, true))⟩,
 ⟨(some 17), (.binOp .rem 3 (.tmp 13) (.tmp 16) 3), (some (11, true))⟩,
 ⟨(some 18), (.binOp .eql 3 (.tmp 17) (.const (.int .i64 0)) 3), (some (11, true))⟩,
 ⟨(some 19), (.pick (.tmp 11) (.tmp 18) (.const (.bool false))), none⟩,
 pA 2 19]
def k37_1 : PC := (.post (.fz r37_1) ⟨[2], [], [], []⟩)
@[go_sem] def r37_0 : List PO := [pX 1 31 0,
 pN 2 false]
def c37 : PC := (.seq (.reg r37_0) (.seq (.pre ⟨[1], [.old 0], [], []⟩ k37_1) .ret))
def i37 : FnI := ⟨20, [(.tmp 2)], c37, 0, [[0, 0]], [[0]], false, false, 0, false⟩
@[go_sem] def r133_2 : List PO := [pO 9 .lss 3 8 7 3]
@[go_sem] def r133_3 : List PO := [pM 10 8,
 pA 5 10]
@[go_sem] def r133_4 : List PO := [pM 11 1,
 pM 12 0,
 pM 13 5,
 pI 14 24 12 13,
 pL 15 3 14,
 ⟨(some 16), (.call { callee := (.value (.tmp 11)), args := #[(.tmp 15)], argTypes := #[3] }), none⟩]
@[go_sem] def r133_5 : List PO := [pM 17 5,
 pA 4 17]
@[go_sem] def r133_6 : List PO := [pB 18 .add 3 8 1 3,
 pM 8 18]
def k133_1b : PC := (.seq (.reg r133_2) (.seq (.cond (.tmp 9) .skip (.pre ⟨[], [], [], []⟩ (.exit 0))) (.seq (.block 1 (.seq (.reg r133_3) (.seq (.reg r133_4) (.cond (.tmp 16) (.seq (.reg r133_5) (.pre ⟨[4], [], [], []⟩ .ret)) .skip)))) (.post (.reg r133_6) ⟨[0, 1, 7, 8], [], [], []⟩))))
@[go_sem] def r133_0 : List PO := [pK 4 0]
@[go_sem] def r133_1 : List PO := [pM 6 0,
 pE 7 6 24,
 ⟨(some 8), (.move (.const (.int .i64 0))), none⟩]
@[go_sem] def r133_7 : List PO := [pK 4 (-1)]
def c133 : PC := (.seq (.reg r133_0) (.seq (.seq (.reg r133_1) (.block 0 (.pre ⟨[0, 1, 7, 8], [], [], []⟩ (.loop k133_1b)))) (.seq (.reg r133_7) .ret)))
def i133 : FnI := ⟨19, [(.tmp 4)], c133, 0, [[1], [0]], [[0]], false, false, 0, false⟩
@[go_sem] def r120_0 : List PO := [pN 4 false]
@[go_sem] def r120_1 : List PO := [pM 5 0,
 pM 6 1,
 pC2 7 133 5 6 24 107,
 pB 8 .geq 3 7 0 3,
 pA 4 8]
def c120 : PC := (.seq (.reg r120_0) (.seq (.reg r120_1) .ret))
def i120 : FnI := ⟨9, [(.tmp 4)], c120, 0, [[1], [0]], [[0]], false, false, 0, false⟩
@[go_sem] def r121_0 : List PO := [pN 2 false]
@[go_sem] def r121_1 : List PO := [pM 3 0,
 pC 4 91 3 3,
 ⟨(some 5), (.unOp .not 4 (.tmp 4)), none⟩,
 pA 2 5]
def c121 : PC := (.seq (.reg r121_0) (.seq (.reg r121_1) .ret))
def i121 : FnI := ⟨6, [(.tmp 2)], c121, 0, [[0]], [[0]], false, false, 0, false⟩
@[go_sem] def r78_1 : List PO := [pM 3 0,
 pE 4 3 24,
 pB 5 .leq 3 4 10 3,
 pM 6 5,
 ⟨(some 7), (.move (.tmp 0)), (some (6, true))⟩,
 ⟨(some 8), (.call { callee := (.value (.func 120)), args := #[(.tmp 7), (.func 121)], argTypes := #[24, 107] }), (some (6, true))⟩,
 ⟨(some 9), (.unOp .not 4 (.tmp 8)), (some (6, true))⟩,
 ⟨(some 10), (.pick (.tmp 6) (.tmp 9) (.const (.bool false))), none⟩,
 pA 2 10]
def k78_1 : PC := (.post (.reg r78_1) ⟨[2], [], [], []⟩)
@[go_sem] def r78_0 : List PO := [pN 2 false]
def c78 : PC := (.seq (.reg r78_0) (.seq (.pre ⟨[0], [], [], []⟩ k78_1) .ret))
def i78 : FnI := ⟨11, [(.tmp 2)], c78, 0, [[1]], [[0]], false, false, 0, false⟩
@[go_sem] def r80_4 : List PO := [pM 12 4,
 pC 13 79 12 3,
 ⟨(some 14), (.unOp .not 4 (.tmp 13)), none⟩,
 pM 15 14,
 ⟨(some 16), (.move (.tmp 3)), (some (15, false))⟩,
 ⟨(some 17), (.binOp .gtr 3 (.tmp 16) (.const (.int .i64 0)) 3), (some (15, false))⟩,
 ⟨(some 18), (.move (.tmp 17)), (some (15, false))⟩,
 ⟨(some 19), (.move (.tmp 4)), (some (18, true))⟩,
 ⟨(some 20), (.move (.tmp 0)), (some (18, true))⟩,
 ⟨(some 21), (.move (.tmp 3)), (some (18, true))⟩,
 ⟨(some 22), (.binOp .sub 3 (.tmp 21) (.const (.int .i64 1)) 3), (some (18, true))⟩,
 ⟨(some 23), (.indexAddr 24 (.tmp 20) (.tmp 22)), (some (18, true))⟩,
 ⟨(some 24), (.load 3 (.tmp 23)), (some (18, true))⟩,
 ⟨(some 25), (.binOp .leq 3 (.tmp 19) (.tmp 24) 3), (some (18, true))⟩,
 ⟨(some 26), (.pick (.tmp 18) (.tmp 25) (.const (.bool false))), (some (15, false))⟩,
 ⟨(some 27), (.pick (.tmp 15) (.const (.bool true)) (.tmp 26)), none⟩]
def k80_3 : PC := (.post (.reg r80_4) ⟨[0, 5, 6, 7, 27], [], [], []⟩)
@[go_sem] def r80_2 : List PO := [pO 8 .lss 3 7 6 3]
@[go_sem] def r80_3 : List PO := [pM 9 7,
 pI 10 24 5 7,
 pL 11 3 10,
 pA 3 9,
 pA 4 11]
@[go_sem] def r80_5 : List PO := [pN 2 false]
@[go_sem] def r80_6 : List PO := [pB 28 .add 3 7 1 3,
 pM 7 28]
def k80_1b : PC := (.seq (.reg r80_2) (.seq (.cond (.tmp 8) .skip (.pre ⟨[0], [], [], []⟩ (.exit 0))) (.seq (.block 1 (.seq (.reg r80_3) (.seq (.pre ⟨[0, 3, 4, 5, 6, 7], [], [], []⟩ k80_3) (.cond (.tmp 27) (.seq (.reg r80_5) (.pre ⟨[2], [], [], []⟩ .ret)) .skip)))) (.post (.reg r80_6) ⟨[0, 5, 6, 7], [], [], []⟩))))
@[go_sem] def r80_0 : List PO := [pN 2 false]
@[go_sem] def r80_1 : List PO := [pM 5 0,
 pE 6 5 24,
 ⟨(some 7), (.move (.const (.int .i64 0))), none⟩]
@[go_sem] def r80_7 : List PO := [pM 29 0,
 pE 30 29 24,
 pB 31 .leq 3 30 6 3,
 pA 2 31]
def c80 : PC := (.seq (.reg r80_0) (.seq (.seq (.reg r80_1) (.block 0 (.pre ⟨[0, 5, 6, 7], [], [], []⟩ (.loop k80_1b)))) (.seq (.reg r80_7) .ret)))
def i80 : FnI := ⟨32, [(.tmp 2)], c80, 0, [[1]], [[0]], false, false, 0, false⟩
@[go_sem] def r38_1 : List PO := [pF 3 32 1 0,
 pL 4 3 3,
 ⟨(some 5), (.call { callee := (.value (.func 75)), args := #[(.tmp 4), (.const (.int .i64 0)), (.const (.int .i64 2))], argTypes := #[3, 3, 3] }), none⟩,
 pM 6 5,
 ⟨(some 7), (.fieldAddr 32 (.tmp 1) 1), (some (6, true))⟩,
 ⟨(some 8), (.load 24 (.tmp 7)), (some (6, true))⟩,
 ⟨(some 9), (.call { callee := (.value (.func 78)), args := #[(.tmp 8)], argTypes := #[24] }), (some (6, true))⟩,
 ⟨(some 10), (.pick (.tmp 6) (.tmp 9) (.const (.bool false))), none⟩,
 pM 11 10,
 ⟨(some 12), (.fieldAddr 32 (.tmp 1) 2), (some (11, true))⟩,
 ⟨(some 13), (.load 3 (.tmp 12)), (some (11, true))⟩,
 ⟨(some 14), (.call { callee := (.value (.func 76)), args := #[(.tmp 13)], argTypes := #[3] }), (some (11, true))⟩,
 ⟨(some 15), (.pick (.tmp 11) (.tmp 14) (.const (.bool false))), none⟩,
 pM 16 15,
 ⟨(some 17), (.fieldAddr 32 (.tmp 1) 3), (some (16, true))⟩,
 ⟨(some 18), (.load 3 (.tmp 17)), (some (16, true))⟩,
 ⟨(some 19), (.call { callee := (.value (.func 79)), args := #[(.tmp 18)], argTypes := #[3] }), (some (16, true))⟩,
 ⟨(some 20), (.pick (.tmp 16) (.tmp 19) (.const (.bool false))), none⟩,
 pM 21 20,
 ⟨(some 22), (.fieldAddr 32 (.tmp 1) 4), (some (21, true))⟩,
 ⟨(some 23), (.load 3 (.tmp 22)), (some (21, true))⟩,
 ⟨(some 24), (.call { callee := (.value (.func 79)), args := #[(.tmp 23)], argTypes := #[3] }), (some (21, true))⟩,
 ⟨(some 25), (.pick (.tmp 21) (.tmp 24) (.const (.bool false))), none⟩,
 pM 26 25,
 ⟨(some 27), (.fieldAddr 32 (.tmp 1) 5), (some (26, true))⟩,
 ⟨(some 28), (.load 24 (.tmp 27)), (some (26, true))⟩,
 ⟨(some 29), (.call { callee := (.value (.func 80)), args := #[(.tmp 28)], argTypes := #[24] }), (some (26, true))⟩,
 ⟨(some 30), (.pick (.tmp 26) (.tmp 29) (.const (.bool false))), none⟩,
 pA 2 30]
def k38_1 : PC := (.post (.reg r38_1) ⟨[2], [], [], []⟩)
@[go_sem] def r38_0 : List PO := [pX 1 32 0,
 pN 2 false]
def c38 : PC := (.seq (.reg r38_0) (.seq (.pre ⟨[1], [.old 0], [], []⟩ k38_1) .ret))
def i38 : FnI := ⟨31, [(.tmp 2)], c38, 0, [[0, 1, 0, 0, 0, 1]], [[0]], false, false, 0, false⟩
@[go_sem] def r11_1 : List PO := [pF 3 34 1 0,
 pL 4 31 3,
 pC 5 37 4 31,
 pM 6 5,
 ⟨(some 7), (.fieldAddr 34 (.tmp 1) 1), (some (6, true))⟩,
 ⟨(some 8), (.load 32 (.tmp 7)), (some (6, true))⟩,
 ⟨(some 9), (.call { callee := (.value (.func 38)), args := #[(.tmp 8)], argTypes := #[32] }), (some (6, true))⟩,
 ⟨(some 10), (.pick (.tmp 6) (.tmp 9) (.const (.bool false))), none⟩,
 pA 2 10]
def k11_1 : PC := (.post (.reg r11_1) ⟨[2], [], [], []⟩)
@[go_sem] def r11_0 : List PO := [pX 1 34 0,
 pN 2 false]
def c11 : PC := (.seq (.reg r11_0) (.seq (.pre ⟨[1], [.old 0], [], []⟩ k11_1) .ret))
def i11 : FnI := ⟨11, [(.tmp 2)], c11, 0, [[0, 0, 0, 1, 0, 0, 0, 1]], [[0]], false, false, 0, false⟩
@[go_sem] def r146_0 : List PO := [⟨(some 2), (.assign (.const (.slice none 0 0))), none⟩]
def r146_1 : List PO := [pM 3 0,
 ⟨(some 4), (.binOp .eql 24 (.tmp 3) (.const (.slice none 0 0)) 24), none⟩]
@[go_sem] def r146_2 : List PO := [⟨(some 2), (.assign (.const (.slice none 0 0))), none⟩]
@[go_sem] def r146_3 : List PO := [⟨(some 5), (.buildSlice 24 0 #[]), none⟩,
 pM 6 0,
 ⟨(some 7), (.call { callee := (.builtin .append), args := #[(.tmp 5), (.tmp 6)], argTypes := #[24, 24] }), none⟩,
 pA 2 7]
def c146 : PC := (.seq (.reg r146_0) (.amb [pM 3 0, ⟨(some 4), (.binOp .eql 24 (.tmp 3) (.const (.slice none 0 0)) 24), none⟩] (.tmp 4) (.seq (.seq (.reg r146_2) (.pre ⟨[2], [.nilT 2 0 1], [], []⟩ .ret)) .bad) (.seq .skip (.seq (.reg r146_3) (.pre ⟨[2], [.old 1], [], []⟩ .ret)))))
def i146 : FnI := ⟨8, [(.tmp 2)], c146, 0, [[1]], [[1]], false, false, 0, false⟩
@[go_sem] def r128_0 : List PO := [pX 1 32 0,
 ⟨(some 2), (.alloc 32), none⟩]
@[go_sem] def r128_1 : List PO := [pF 3 32 1 1,
 pL 4 24 3,
 pC 5 146 4 24,
 pF 6 32 1 5,
 pL 7 24 6,
 pC 8 146 7 24,
 pF 9 32 1 1,
 ⟨none, (.store 24 (.tmp 9) (.tmp 5)), none⟩,
 pF 10 32 1 5,
 ⟨none, (.store 24 (.tmp 10) (.tmp 8)), none⟩]
@[go_sem] def x128_1 : FxI := ⟨[2, 5, 7, 9], [none, none, none, none, none, none, none, none, none, none], 0, [[], [2], [2, 5], [2, 5, 7], [2, 5, 7, 9]], [], [(4, 0, 0)]⟩
@[go_sem] def r128_2 : List PO := [pL 11 32 1,
 ⟨none, (.store 32 (.tmp 2) (.tmp 11)), none⟩]
def c128 : PC := (.seq (.reg r128_0) (.seq (.fx r128_1 x128_1) (.seq (.reg r128_2) .ret)))
def i128 : FnI := ⟨12, [(.cell 2 32)], c128, 0, [[0, 1, 0, 0, 0, 1]], [[0, 1, 0, 0, 0, 1]], false, false, 0, false⟩
@[go_sem] def r92_0 : List PO := [pX 1 34 0,
 ⟨(some 2), (.alloc 34), none⟩]
@[go_sem] def r92_1 : List PO := [pF 3 34 1 0,
 pL 4 31 3,
 pF 5 34 1 1,
 pL 6 32 5,
 pC 7 128 6 32,
 ⟨(some 8), (.build 34 #[(0, (.tmp 4)), (1, (.tmp 7))]), none⟩,
 ⟨none, (.store 34 (.tmp 2) (.tmp 8)), none⟩]
@[go_sem] def x92_1 : FxI := ⟨[4, 6], [none, none, none, none, none, none, none], 0, [[], [4], [4, 6]], [], [(1, 1, 1)]⟩
def c92 : PC := (.seq (.reg r92_0) (.seq (.fx r92_1 x92_1) .ret))
def i92 : FnI := ⟨9, [(.cell 2 34)], c92, 0, [[0, 0, 0, 1, 0, 0, 0, 1]], [[0, 0, 0, 1, 0, 0, 0, 1]], false, false, 0, false⟩
@[go_sem] def r147_0 : List PO := [pN 2 false]
@[go_sem] def r147_1 : List PO := [pM 3 0,
 pM 4 0,
 pO 5 .neq 3 3 4 3,
 pA 2 5]
def c147 : PC := (.seq (.reg r147_0) (.seq (.reg r147_1) .ret))
def i147 : FnI := ⟨6, [(.tmp 2)], c147, 0, [[0]], [[0]], false, false, 0, false⟩
@[go_sem] def r129_1 : List PO := [pM 5 0,
 pC 6 147 5 3,
 pM 7 6,
 ⟨(some 8), (.move (.tmp 1)), (some (7, true))⟩,
 ⟨(some 9), (.call { callee := (.value (.func 147)), args := #[(.tmp 8)], argTypes := #[3] }), (some (7, true))⟩,
 ⟨(some 10), (.unOp .not 4 (.tmp 9)), (some (7, true))⟩,
 ⟨(some 11), (.pick (.tmp 7) (.tmp 10) (.const (.bool false))), none⟩,
 pM 12 11,
 ⟨(some 13), (.move (.tmp 0)), (some (12, false))⟩,
 ⟨(some 14), (.move (.tmp 1)), (some (12, false))⟩,
 ⟨(some 15), (.binOp .lss 3 (.tmp 13) (.tmp 14) 3), (some (12, false))⟩,
 ⟨(some 16), (.pick (.tmp 12) (.const (.bool true)) (.tmp 15)), none⟩,
 pA 4 16]
def k129_1 : PC := (.post (.reg r129_1) ⟨[4], [], [], []⟩)
@[go_sem] def r129_0 : List PO := [pN 4 false]
def c129 : PC := (.seq (.reg r129_0) (.seq (.pre ⟨[0, 1], [], [], []⟩ k129_1) .ret))
def i129 : FnI := ⟨17, [(.tmp 4)], c129, 0, [[0], [0]], [[0]], false, false, 0, false⟩
@[go_sem] def r130_0 : List PO := [pN 2 false]
@[go_sem] def r130_1 : List PO := [pM 3 0,
 pM 4 0,
 pO 5 .neq 3 3 4 3,
 pA 2 5]
def c130 : PC := (.seq (.reg r130_0) (.seq (.reg r130_1) .ret))
def i130 : FnI := ⟨6, [(.tmp 2)], c130, 0, [[0]], [[0]], false, false, 0, false⟩
@[go_sem] def r93_6 : List PO := [pM 28 9,
 pB 29 .add 3 28 1 3,
 pA 7 29]
@[go_sem] def r93_7 : List PO := [pM 30 9,
 pA 8 30]
def k93_3 : PC := (.cond (.tmp 27) (.post (.reg r93_6) ⟨[0, 1, 6, 7, 8], [], [], []⟩) (.post (.reg r93_7) ⟨[0, 1, 6, 7, 8], [], [], []⟩))
@[go_sem] def r93_3 : List PO := [pM 13 7,
 pM 14 8,
 pO 15 .lss 3 13 14 3]
@[go_sem] def r93_4 : List PO := [pM 16 7,
 pM 17 8,
 pO 18 .add 3 16 17 3,
 ⟨(some 19), (.convert 3 145 (.tmp 18)), none⟩,
 ⟨(some 20), (.binOp .shr 145 (.tmp 19) (.const (.int .u64 1)) 145), none⟩,
 ⟨(some 21), (.convert 145 3 (.tmp 20)), none⟩,
 pA 9 21]
@[go_sem] def r93_5 : List PO := [pM 22 0,
 pM 23 9,
 pI 24 24 22 23,
 pL 25 3 24,
 pM 26 1,
 pC2 27 129 25 26 3 3]
def k93_1b : PC := (.seq (.seq (.reg r93_3) (.cond (.tmp 15) .skip (.pre ⟨[0, 1, 6, 7], [], [], []⟩ (.exit 0)))) (.block 1 (.seq (.reg r93_4) (.seq (.reg r93_5) (.post (.pre ⟨[0, 1, 6, 7, 8, 9, 27], [], [], []⟩ k93_3) ⟨[0, 1, 6, 7, 8], [], [], []⟩)))))
@[go_sem] def r93_8 : List PO := [pM 31 7,
 pM 32 7,
 pM 33 6,
 pO 34 .lss 3 32 33 3,
 pM 35 34,
 ⟨(some 36), (.move (.tmp 0)), (some (35, true))⟩,
 ⟨(some 37), (.move (.tmp 7)), (some (35, true))⟩,
 ⟨(some 38), (.indexAddr 24 (.tmp 36) (.tmp 37)), (some (35, true))⟩,
 ⟨(some 39), (.load 3 (.tmp 38)), (some (35, true))⟩,
 ⟨(some 40), (.move (.tmp 1)), (some (35, true))⟩,
 ⟨(some 41), (.binOp .eql 3 (.tmp 39) (.tmp 40) 3), (some (35, true))⟩,
 ⟨(some 42), (.move (.tmp 41)), (some (35, true))⟩,
 ⟨(some 43), (.move (.tmp 0)), (some (42, false))⟩,
 ⟨(some 44), (.move (.tmp 7)), (some (42, false))⟩,
 ⟨(some 45), (.indexAddr 24 (.tmp 43) (.tmp 44)), (some (42, false))⟩,
 ⟨(some 46), (.load 3 (.tmp 45)), (some (42, false))⟩,
 ⟨(some 47), (.call { callee := (.value (.func 130)), args := #[(.tmp 46)], argTypes := #[3] }), (some (42, false))⟩,
 ⟨(some 48), (.move (.tmp 47)), (some (42, false))⟩,
 ⟨(some 49), (.move (.tmp 1)), (some (48, true))⟩,
 ⟨(some 50), (.call { callee := (.value (.func 130)), args := #[(.tmp 49)], argTypes := #[3] }), (some (48, true))⟩,
 ⟨(some 51), (.pick (.tmp 48) (.tmp 50) (.const (.bool false))), (some (42, false))⟩,
 ⟨(some 52), (.pick (.tmp 42) (.const (.bool true)) (.tmp 51)), (some (35, true))⟩,
 ⟨(some 53), (.pick (.tmp 35) (.tmp 52) (.const (.bool false))), none⟩,
 pA 4 31,
 pA 5 53]
def k93_4 : PC := (.post (.reg r93_8) ⟨[4, 5], [], [], []⟩)
@[go_sem] def r93_0 : List PO := [pK 4 0,
 pN 5 false]
@[go_sem] def r93_1 : List PO := [pM 10 0,
 pE 11 10 24,
 pA 6 11]
@[go_sem] def r93_2 : List PO := [pM 12 6,
 pK 7 0,
 pA 8 12]
def c93 : PC := (.seq (.reg r93_0) (.seq (.reg r93_1) (.seq (.reg r93_2) (.seq (.block 0 (.pre ⟨[0, 1, 6, 7, 8], [], [], []⟩ (.loop k93_1b))) (.seq (.pre ⟨[0, 1, 6, 7], [], [], []⟩ k93_4) .ret)))))
def i93 : FnI := ⟨54, [(.tmp 4), (.tmp 5)], c93, 0, [[1], [0]], [[0], [0]], false, false, 0, false⟩
def i94 : FnI := ⟨95, [(.tmp 6)], .bad, 4, [[1], [0], [1]], [[1]], false, false, 24, false⟩
def ren94 : Go.Shelf.Ren := insRen 94 131 132 0 3 4 24
theorem insb94 : InsB Try.prog ren94 "slices.Insert[[]int,int]" "slices.Insert" #[24, 3] := ⟨by kernel_rfl, by kernel_rfl, ⟨Try.f131, by kernel_rfl, by kernel_rfl, by kernel_rfl, by kernel_rfl, by kernel_rfl⟩, by kernel_rfl, by kernel_rfl, by kernel_rfl⟩
theorem ins94 : InsOk Try.prog 94 24 := insOk_of insb94
@[go_sem] def r95_9 : List PO := [pM 30 0,
 pM 31 5,
 pM 32 7,
 pI 33 24 30 31,
 ⟨none, (.store 3 (.tmp 33) (.tmp 32)), none⟩]
@[go_sem] def r95_10 : List PO := [pM 34 5,
 pB 35 .add 3 34 1 3,
 pA 5 35]
def k95_3 : PC := (.cond (.tmp 29) (.seq (.reg r95_9) (.post (.reg r95_10) ⟨[0, 1, 5, 6], [.old 1], [0], []⟩)) (.post .skip ⟨[0, 1, 5, 6], [.old 1], [0], []⟩))
@[go_sem] def r95_5 : List PO := [pM 16 6,
 pM 17 0,
 pE 18 17 24,
 pO 19 .lss 3 16 18 3]
@[go_sem] def r95_7 : List PO := [pM 22 0,
 pM 23 6,
 pI 24 24 22 23,
 pL 25 3 24,
 pA 7 25]
@[go_sem] def r95_8 : List PO := [pM 26 1,
 pM 27 7,
 ⟨(some 28), (.call { callee := (.value (.tmp 26)), args := #[(.tmp 27)], argTypes := #[3] }), none⟩,
 ⟨(some 29), (.unOp .not 4 (.tmp 28)), none⟩]
@[go_sem] def r95_6 : List PO := [pM 20 6,
 pB 21 .add 3 20 1 3,
 pA 6 21]
def k95_1b : PC := (.seq (.seq (.reg r95_5) (.cond (.tmp 19) .skip (.pre ⟨[0, 5], [.old 1], [0], []⟩ (.exit 0)))) (.seq (.block 1 (.seq (.reg r95_7) (.seq (.reg r95_8) (.pre ⟨[0, 1, 5, 6, 7, 29], [.old 1], [0], []⟩ k95_3)))) (.post (.reg r95_6) ⟨[0, 1, 5, 6], [.old 1], [0], []⟩)))
@[go_sem] def r95_0 : List PO := [⟨(some 4), (.assign (.const (.slice none 0 0))), none⟩]
@[go_sem] def r95_1 : List PO := [pM 8 0,
 pM 9 1,
 pC2 10 133 8 9 24 107,
 pA 5 10]
@[go_sem] def r95_2 : List PO := [pM 11 5,
 pB 12 .eql 3 11 (-1) 3]
@[go_sem] def r95_3 : List PO := [pM 13 0,
 pA 4 13]
@[go_sem] def r95_4 : List PO := [pM 14 5,
 pB 15 .add 3 14 1 3,
 pA 6 15]
@[go_sem] def r95_11 : List PO := [pM 36 0,
 pM 37 5,
 ⟨(some 38), (.slice 24 (.tmp 36) (some (.tmp 37)) none none), none⟩,
 ⟨none, (.call { callee := (.builtin .clear), args := #[(.tmp 38)], argTypes := #[24] }), none⟩]
@[go_sem] def r95_12 : List PO := [pM 39 0,
 pM 40 5,
 ⟨(some 41), (.slice 24 (.tmp 39) none (some (.tmp 40)) none), none⟩,
 pA 4 41]
def c95 : PC := (.seq (.reg r95_0) (.seq (.reg r95_1) (.seq (.seq (.reg r95_2) (.cond (.tmp 12) (.seq (.reg r95_3) (.pre ⟨[4], [.old 0], [0], []⟩ .ret)) .skip)) (.seq (.seq (.reg r95_4) (.block 0 (.pre ⟨[0, 1, 5, 6], [.old 0], [0], []⟩ (.loop k95_1b)))) (.seq (.reg r95_11) (.seq (.reg r95_12) (.pre ⟨[4], [.old 1], [0], []⟩ .ret)))))))
def i95 : FnI := ⟨42, [(.tmp 4)], c95, 3, [[1], [0]], [[1]], false, true, 1, false⟩
@[go_sem] def r96_0 : List PO := [pN 3 false]
@[go_sem] def r96_1 : List PO := [pM 4 0,
 pF 5 53 1 1,
 pL 6 3 5,
 pO 7 .eql 3 4 6 3,
 pA 3 7]
def c96 : PC := (.seq (.reg r96_0) (.seq (.reg r96_1) .ret))
def i96 : FnI := ⟨8, [(.tmp 3)], c96, 0, [[0], [0]], [[0]], false, false, 0, false⟩
@[go_sem] def r51_10 : List PO := [pF 38 34 6 1,
 pF 39 32 38 5,
 pL 40 24 39,
 pM 41 7,
 pF 42 53 2 1,
 pL 43 3 42,
 ⟨(some 44), (.buildSlice 24 1 #[(0, (.tmp 43))]), none⟩,
 pC3 45 94 40 41 44 24 3 24,
 pF 46 34 6 1,
 pF 47 32 46 5,
 ⟨none, (.store 24 (.tmp 47) (.tmp 45)), none⟩]
def k51_4 : PC := (.cond (.tmp 37) (.post (.reg r51_10) ⟨[4, 6], [.old 1, .old 2, .old 3, .old 4, .old 5, .old 8], [], []⟩) (.post .skip ⟨[4, 6], [.old 1, .old 2, .old 3, .old 4, .old 5, .old 6], [], []⟩))
@[go_sem] def r51_14 : List PO := [pF 59 34 6 1,
 pF 60 32 59 1,
 pL 61 24 60,
 pF 62 53 2 1,
 pL 63 3 62,
 ⟨(some 64), (.buildSlice 24 1 #[(0, (.tmp 63))]), none⟩,
 ⟨(some 65), (.call { callee := (.value (.func 94)), args := #[(.tmp 61), (.const (.int .i64 0)), (.tmp 64)], argTypes := #[24, 3, 24] }), none⟩,
 pF 66 34 6 1,
 pF 67 32 66 1,
 ⟨none, (.store 24 (.tmp 67) (.tmp 65)), none⟩]
def k51_6 : PC := (.cond (.tmp 57) (.post (.reg r51_14) ⟨[4, 6], [.old 1, .old 2, .old 3, .old 4, .old 8, .old 6], [], []⟩) (.post .skip ⟨[4, 6], [.old 1, .old 2, .old 3, .old 4, .old 5, .old 6], [], []⟩))
@[go_sem] def r51_12 : List PO := [pF 50 34 6 1,
 pF 51 32 50 5,
 pL 52 24 51,
 ⟨(some 53), (.makeFunc (.func 96) #[] #[(.tmp 2)]), none⟩,
 pC2 54 95 52 53 24 107,
 pF 55 34 6 1,
 pF 56 32 55 5,
 ⟨none, (.store 24 (.tmp 56) (.tmp 54)), none⟩]
@[go_sem] def r51_13 : List PO := [pB 58 .eql 3 12 5 3,
 pA 57 58]
def k51_5 : PC := (.cond (.tmp 48) (.post (.reg r51_12) ⟨[4, 6], [.old 1, .old 2, .old 3, .old 4, .old 5, .old 7], [], []⟩) (.seq (.reg r51_13) (.post (.pre ⟨[2, 4, 6, 57], [.old 0, .old 1, .old 2, .old 3, .old 4, .old 5, .old 6], [], []⟩ k51_6) ⟨[4, 6], [.old 0, .old 1, .old 2, .old 3, .old 4, .old 5], [], []⟩)))
@[go_sem] def r51_8 : List PO := [pF 28 34 6 1,
 pF 29 32 28 5,
 pL 30 24 29,
 pF 31 53 2 1,
 pL 32 3 31,
 pC2 33 93 30 32 24 3,
 pM 27 33,
 ⟨(some 34), (.extract (.tmp 27) 0), none⟩,
 ⟨(some 35), (.extract (.tmp 27) 1), none⟩,
 pA 7 34,
 pA 8 35]
@[go_sem] def r51_9 : List PO := [pM 36 8,
 ⟨(some 37), (.unOp .not 4 (.tmp 36)), none⟩]
@[go_sem] def r51_11 : List PO := [pB 49 .eql 3 12 4 3,
 pA 48 49]
def k51_3 : PC := (.cond (.tmp 25) (.seq (.reg r51_8) (.seq (.reg r51_9) (.post (.pre ⟨[2, 4, 6, 7, 37], [.old 0, .old 1, .old 2, .old 3, .old 4, .old 5, .old 6], [], []⟩ k51_4) ⟨[4, 6], [.old 0, .old 1, .old 2, .old 3, .old 4, .old 5], [], []⟩))) (.seq (.reg r51_11) (.post (.pre ⟨[2, 4, 6, 12, 48], [.old 0, .old 1, .old 2, .old 3, .old 4, .old 5, .old 6], [], []⟩ k51_5) ⟨[4, 6], [.old 0, .old 1, .old 2, .old 3, .old 4, .old 5], [], []⟩)))
@[go_sem] def r51_6 : List PO := [pF 21 53 2 1,
 pL 22 3 21,
 pF 23 34 6 1,
 pF 24 32 23 3,
 ⟨none, (.store 3 (.tmp 24) (.tmp 22)), none⟩]
@[go_sem] def r51_7 : List PO := [pB 26 .eql 3 12 3 3,
 pA 25 26]
def k51_2 : PC := (.cond (.tmp 19) (.post (.reg r51_6) ⟨[4, 6], [.old 1, .old 2, .old 3, .old 4, .old 5, .old 6], [], []⟩) (.seq (.reg r51_7) (.post (.pre ⟨[2, 4, 6, 12, 25], [.old 0, .old 1, .old 2, .old 3, .old 4, .old 5, .old 6], [], []⟩ k51_3) ⟨[4, 6], [.old 0, .old 1, .old 2, .old 3, .old 4, .old 5], [], []⟩)))
@[go_sem] def r51_4 : List PO := [pF 15 53 2 1,
 pL 16 3 15,
 pF 17 34 6 1,
 pF 18 32 17 4,
 ⟨none, (.store 3 (.tmp 18) (.tmp 16)), none⟩]
@[go_sem] def r51_5 : List PO := [pB 20 .eql 3 12 2 3,
 pA 19 20]
def k51_1 : PC := (.cond (.tmp 13) (.post (.reg r51_4) ⟨[4, 6], [.old 1, .old 2, .old 3, .old 4, .old 5, .old 6], [], []⟩) (.seq (.reg r51_5) (.post (.pre ⟨[2, 4, 6, 12, 19], [.old 0, .old 1, .old 2, .old 3, .old 4, .old 5, .old 6], [], []⟩ k51_2) ⟨[4, 6], [.old 0, .old 1, .old 2, .old 3, .old 4, .old 5], [], []⟩)))
@[go_sem] def r51_0 : List PO := [pX 2 53 0,
 pX 3 34 1,
 ⟨(some 4), (.alloc 34), none⟩,
 pN 5 false]
@[go_sem] def r51_1 : List PO := [pL 9 34 3,
 pC 10 92 9 34,
 ⟨(some 6), (.alloc 34), none⟩,
 ⟨none, (.store 34 (.tmp 6) (.tmp 10)), none⟩]
@[go_sem] def r51_2 : List PO := [pF 11 53 2 0,
 pL 12 3 11]
@[go_sem] def r51_3 : List PO := [pB 14 .eql 3 12 1 3,
 pA 13 14]
@[go_sem] def r51_15 : List PO := [pL 68 34 6,
 pL 69 34 6,
 pC 70 11 69 34,
 ⟨none, (.store 34 (.tmp 4) (.tmp 68)), none⟩,
 pA 5 70]
@[go_sem] def x51_15 : FxI := ⟨[2, 3], [none, none, none, none, none], 0, [[], [2], [2, 3]], [], [(0, 1, 1)]⟩
def c51 : PC := (.seq (.reg r51_0) (.seq (.reg r51_1) (.seq (.seq (.reg r51_2) (.block 0 (.seq (.reg r51_3) (.pre ⟨[2, 4, 6, 12, 13], [.old 0, .old 2, .nilB 2 3 1, .nilB 2 7 1, .old 5, .old 3, .old 4], [], []⟩ k51_1)))) (.seq (.fx r51_15 x51_15) .ret))))
def i51 : FnI := ⟨71, [(.cell 4 34), (.tmp 5)], c51, 0, [[0, 0], [0, 0, 0, 1, 0, 0, 0, 1]], [[0, 0, 0, 1, 0, 0, 0, 1], [0]], false, false, 0, false⟩
@[go_sem] def r20_1 : List PO := [pL 8 53 2,
 pC 9 50 8 53,
 ⟨(some 10), (.unOp .not 4 (.tmp 9)), none⟩,
 pM 11 10,
 ⟨(some 12), (.load 34 (.tmp 3)), (some (11, false))⟩,
 ⟨(some 13), (.call { callee := (.value (.func 11)), args := #[(.tmp 12)], argTypes := #[34] }), (some (11, false))⟩,
 ⟨(some 14), (.unOp .not 4 (.tmp 13)), (some (11, false))⟩,
 ⟨(some 15), (.pick (.tmp 11) (.const (.bool true)) (.tmp 14)), none⟩]
def k20_1 : PC := (.post (.reg r20_1) ⟨[2, 3, 4, 15], [.old 0, .old 1, .old 2, .old 3, .old 4], [], []⟩)
@[go_sem] def r20_0 : List PO := [pX 2 53 0,
 pX 3 34 1,
 ⟨(some 4), (.alloc 34), none⟩,
 pN 5 false]
@[go_sem] def r20_2 : List PO := [⟨(some 16), (.build 34 #[]), none⟩,
 ⟨none, (.store 34 (.tmp 4) (.tmp 16)), none⟩,
 pN 5 false]
@[go_sem] def r20_3 : List PO := [pL 18 53 2,
 pL 19 34 3,
 pC2 20 51 18 19 53 34,
 pM 17 20,
 ⟨(some 21), (.extract (.tmp 17) 0), none⟩,
 ⟨(some 22), (.extract (.tmp 17) 1), none⟩,
 ⟨(some 6), (.alloc 34), none⟩,
 ⟨none, (.store 34 (.tmp 6) (.tmp 21)), none⟩,
 pA 7 22]
@[go_sem] def r20_4 : List PO := [pM 23 7,
 ⟨(some 24), (.unOp .not 4 (.tmp 23)), none⟩]
@[go_sem] def r20_5 : List PO := [⟨(some 25), (.build 34 #[]), none⟩,
 ⟨none, (.store 34 (.tmp 4) (.tmp 25)), none⟩,
 pN 5 false]
@[go_sem] def r20_6 : List PO := [pL 26 34 6,
 ⟨none, (.store 34 (.tmp 4) (.tmp 26)), none⟩,
 pN 5 true]
def c20 : PC := (.seq (.reg r20_0) (.seq (.seq (.pre ⟨[2, 3, 4], [.old 0, .old 1, .old 2, .nilB 2 3 1, .nilB 2 7 1], [], []⟩ k20_1) (.cond (.tmp 15) (.seq (.reg r20_2) .ret) .skip)) (.seq (.reg r20_3) (.seq (.seq (.reg r20_4) (.cond (.tmp 24) (.seq (.reg r20_5) .ret) .skip)) (.seq (.reg r20_6) .ret)))))
def i20 : FnI := ⟨27, [(.cell 4 34), (.tmp 5)], c20, 0, [[0, 0], [0, 0, 0, 1, 0, 0, 0, 1]], [[0, 0, 0, 1, 0, 0, 0, 1], [0]], false, false, 0, false⟩
@[go_sem] def r39_0 : List PO := [pX 2 31 0,
 pX 3 31 1,
 pN 4 false]
@[go_sem] def r39_1 : List PO := [pF 5 31 2 0,
 pL 6 3 5,
 pF 7 31 3 0,
 pL 8 3 7,
 pO 9 .neq 3 6 8 3]
@[go_sem] def r39_2 : List PO := [pN 4 false]
@[go_sem] def r39_3 : List PO := [pF 10 31 2 1,
 pL 11 3 10,
 pF 12 31 3 1,
 pL 13 3 12,
 pO 14 .neq 3 11 13 3]
@[go_sem] def r39_4 : List PO := [pN 4 false]
@[go_sem] def r39_5 : List PO := [pN 4 true]
def c39 : PC := (.seq (.reg r39_0) (.seq (.seq (.reg r39_1) (.cond (.tmp 9) (.seq (.reg r39_2) .ret) .skip)) (.seq (.seq (.reg r39_3) (.cond (.tmp 14) (.seq (.reg r39_4) .ret) .skip)) (.seq (.reg r39_5) .ret))))
def i39 : FnI := ⟨15, [(.tmp 4)], c39, 0, [[0, 0], [0, 0]], [[0]], false, false, 0, false⟩
@[go_sem] def r81_4 : List PO := [pM 11 5,
 pM 12 0,
 pE 13 12 24,
 pO 14 .lss 3 11 13 3]
@[go_sem] def r81_6 : List PO := [pM 17 0,
 pM 18 5,
 pI 19 24 17 18,
 pL 20 3 19,
 pM 21 1,
 pM 22 5,
 pI 23 24 21 22,
 pL 24 3 23,
 pO 25 .neq 3 20 24 3]
@[go_sem] def r81_7 : List PO := [pN 4 false]
@[go_sem] def r81_5 : List PO := [pM 15 5,
 pB 16 .add 3 15 1 3,
 pA 5 16]
def k81_1b : PC := (.seq (.seq (.reg r81_4) (.cond (.tmp 14) .skip (.pre ⟨[], [], [], []⟩ (.exit 0)))) (.seq (.block 1 (.seq (.fz r81_6) (.cond (.tmp 25) (.seq (.reg r81_7) (.pre ⟨[4], [], [], []⟩ .ret)) .skip))) (.post (.reg r81_5) ⟨[0, 1, 5], [], [], []⟩)))
@[go_sem] def r81_0 : List PO := [pN 4 false]
@[go_sem] def r81_1 : List PO := [pM 6 0,
 pE 7 6 24,
 pM 8 1,
 pE 9 8 24,
 pO 10 .neq 3 7 9 3]
@[go_sem] def r81_2 : List PO := [pN 4 false]
@[go_sem] def r81_3 : List PO := [pK 5 0]
@[go_sem] def r81_8 : List PO := [pN 4 true]
def c81 : PC := (.seq (.reg r81_0) (.seq (.seq (.reg r81_1) (.cond (.tmp 10) (.seq (.reg r81_2) .ret) .skip)) (.seq (.seq (.reg r81_3) (.block 0 (.pre ⟨[0, 1, 5], [], [], []⟩ (.loop k81_1b)))) (.seq (.reg r81_8) .ret))))
def i81 : FnI := ⟨26, [(.tmp 4)], c81, 0, [[1], [1]], [[0]], false, false, 0, false⟩
@[go_sem] def r40_0 : List PO := [pX 2 32 0,
 pX 3 32 1,
 pN 4 false]
@[go_sem] def r40_1 : List PO := [pF 5 32 2 0,
 pL 6 3 5,
 pF 7 32 3 0,
 pL 8 3 7,
 pO 9 .neq 3 6 8 3]
@[go_sem] def r40_2 : List PO := [pN 4 false]
@[go_sem] def r40_3 : List PO := [pF 10 32 2 1,
 pL 11 24 10,
 pF 12 32 3 1,
 pL 13 24 12,
 pC2 14 81 11 13 24 24,
 ⟨(some 15), (.unOp .not 4 (.tmp 14)), none⟩]
@[go_sem] def r40_4 : List PO := [pN 4 false]
@[go_sem] def r40_5 : List PO := [pF 16 32 2 2,
 pL 17 3 16,
 pF 18 32 3 2,
 pL 19 3 18,
 pO 20 .neq 3 17 19 3]
@[go_sem] def r40_6 : List PO := [pN 4 false]
@[go_sem] def r40_7 : List PO := [pF 21 32 2 3,
 pL 22 3 21,
 pF 23 32 3 3,
 pL 24 3 23,
 pO 25 .neq 3 22 24 3]
@[go_sem] def r40_8 : List PO := [pN 4 false]
@[go_sem] def r40_9 : List PO := [pF 26 32 2 4,
 pL 27 3 26,
 pF 28 32 3 4,
 pL 29 3 28,
 pO 30 .neq 3 27 29 3]
@[go_sem] def r40_10 : List PO := [pN 4 false]
@[go_sem] def r40_11 : List PO := [pF 31 32 2 5,
 pL 32 24 31,
 pF 33 32 3 5,
 pL 34 24 33,
 pC2 35 81 32 34 24 24,
 ⟨(some 36), (.unOp .not 4 (.tmp 35)), none⟩]
@[go_sem] def r40_12 : List PO := [pN 4 false]
@[go_sem] def r40_13 : List PO := [pN 4 true]
def c40 : PC := (.seq (.reg r40_0) (.seq (.seq (.reg r40_1) (.cond (.tmp 9) (.seq (.reg r40_2) .ret) .skip)) (.seq (.seq (.reg r40_3) (.cond (.tmp 15) (.seq (.reg r40_4) .ret) .skip)) (.seq (.seq (.reg r40_5) (.cond (.tmp 20) (.seq (.reg r40_6) .ret) .skip)) (.seq (.seq (.reg r40_7) (.cond (.tmp 25) (.seq (.reg r40_8) .ret) .skip)) (.seq (.seq (.reg r40_9) (.cond (.tmp 30) (.seq (.reg r40_10) .ret) .skip)) (.seq (.seq (.reg r40_11) (.cond (.tmp 36) (.seq (.reg r40_12) .ret) .skip)) (.seq (.reg r40_13) .ret))))))))
def i40 : FnI := ⟨37, [(.tmp 4)], c40, 0, [[0, 1, 0, 0, 0, 1], [0, 1, 0, 0, 0, 1]], [[0]], false, false, 0, false⟩
@[go_sem] def r12_0 : List PO := [pX 2 34 0,
 pX 3 34 1,
 pN 4 false]
@[go_sem] def r12_1 : List PO := [pF 5 34 2 0,
 pL 6 31 5,
 pF 7 34 3 0,
 pL 8 31 7,
 pC2 9 39 6 8 31 31,
 ⟨(some 10), (.unOp .not 4 (.tmp 9)), none⟩]
@[go_sem] def r12_2 : List PO := [pN 4 false]
@[go_sem] def r12_3 : List PO := [pF 11 34 2 1,
 pL 12 32 11,
 pF 13 34 3 1,
 pL 14 32 13,
 pC2 15 40 12 14 32 32,
 ⟨(some 16), (.unOp .not 4 (.tmp 15)), none⟩]
@[go_sem] def r12_4 : List PO := [pN 4 false]
@[go_sem] def r12_5 : List PO := [pN 4 true]
def c12 : PC := (.seq (.reg r12_0) (.seq (.seq (.reg r12_1) (.cond (.tmp 10) (.seq (.reg r12_2) .ret) .skip)) (.seq (.seq (.reg r12_3) (.cond (.tmp 16) (.seq (.reg r12_4) .ret) .skip)) (.seq (.reg r12_5) .ret))))
def i12 : FnI := ⟨17, [(.tmp 4)], c12, 0, [[0, 0, 0, 1, 0, 0, 0, 1], [0, 0, 0, 1, 0, 0, 0, 1]], [[0]], false, false, 0, false⟩
@[go_sem] def r97_2 : List PO := [pM 6 5,
 pM 7 0,
 pE 8 7 24,
 pO 9 .lss 3 6 8 3]
@[go_sem] def r97_4 : List PO := [pM 12 0,
 pM 13 5,
 pM 14 1,
 pI 15 24 12 13,
 ⟨none, (.store 3 (.tmp 15) (.tmp 14)), none⟩]
@[go_sem] def r97_5 : List PO := [pM 16 1,
 pB 17 .add 3 16 1 3,
 pA 1 17]
@[go_sem] def r97_3 : List PO := [pM 10 5,
 pB 11 .add 3 10 1 3,
 pA 5 11]
def k97_1b : PC := (.seq (.seq (.reg r97_2) (.cond (.tmp 9) .skip (.pre ⟨[1], [], [], []⟩ (.exit 0)))) (.seq (.block 1 (.seq (.reg r97_4) (.reg r97_5))) (.post (.reg r97_3) ⟨[0, 1, 5], [], [], []⟩)))
@[go_sem] def r97_0 : List PO := [pK 4 0]
@[go_sem] def r97_1 : List PO := [pK 5 0]
@[go_sem] def r97_6 : List PO := [pM 18 1,
 pA 4 18]
def c97 : PC := (.seq (.reg r97_0) (.seq (.seq (.reg r97_1) (.block 0 (.pre ⟨[0, 1, 5], [], [], []⟩ (.loop k97_1b)))) (.seq (.reg r97_6) (.pre ⟨[4], [], [], []⟩ .ret))))
def i97 : FnI := ⟨19, [(.tmp 4)], c97, 3, [[1], [0]], [[0]], false, true, 1, false⟩
@[go_sem] def r52_0 : List PO := [pX 2 32 0,
 pK 4 0]
@[go_sem] def r52_1 : List PO := [pF 5 32 2 1,
 pL 6 24 5,
 pM 7 1,
 pC2 8 97 6 7 24 3,
 pA 1 8]
@[go_sem] def r52_2 : List PO := [pF 9 32 2 5,
 pL 10 24 9,
 pM 11 1,
 pC2 12 97 10 11 24 3,
 pA 1 12]
@[go_sem] def r52_3 : List PO := [pM 13 1,
 pA 4 13]
def c52 : PC := (.seq (.reg r52_0) (.seq (.reg r52_1) (.seq (.reg r52_2) (.seq (.reg r52_3) (.pre ⟨[4], [], [], []⟩ .ret)))))
def i52 : FnI := ⟨14, [(.tmp 4)], c52, 3, [[0, 1, 0, 0, 0, 1], [0]], [[0]], false, true, 2, false⟩
@[go_sem] def r21_0 : List PO := [pX 2 34 0,
 pK 4 0]
@[go_sem] def r21_1 : List PO := [pF 5 34 2 1,
 pL 6 32 5,
 pM 7 1,
 pC2 8 52 6 7 32 3,
 pA 1 8]
@[go_sem] def r21_2 : List PO := [pM 9 1,
 pA 4 9]
def c21 : PC := (.seq (.reg r21_0) (.seq (.reg r21_1) (.seq (.reg r21_2) (.pre ⟨[4], [], [], []⟩ .ret))))
def i21 : FnI := ⟨10, [(.tmp 4)], c21, 3, [[0, 0, 0, 1, 0, 0, 0, 1], [0]], [[0]], false, true, 2, false⟩
@[go_sem] def r98_2 : List PO := [pM 6 5,
 pM 7 0,
 pE 8 7 24,
 pO 9 .lss 3 6 8 3]
@[go_sem] def r98_4 : List PO := [pM 12 0,
 pM 13 5,
 pI 14 24 12 13,
 pL 15 3 14,
 pM 16 1,
 pO 17 .neq 3 15 16 3]
@[go_sem] def r98_5 : List PO := [pK 4 (-1)]
@[go_sem] def r98_6 : List PO := [pM 18 1,
 pB 19 .add 3 18 1 3,
 pA 1 19]
@[go_sem] def r98_3 : List PO := [pM 10 5,
 pB 11 .add 3 10 1 3,
 pA 5 11]
def k98_1b : PC := (.seq (.seq (.reg r98_2) (.cond (.tmp 9) .skip (.pre ⟨[1], [], [], []⟩ (.exit 0)))) (.seq (.block 1 (.seq (.seq (.reg r98_4) (.cond (.tmp 17) (.seq (.reg r98_5) (.pre ⟨[4], [], [], []⟩ .ret)) .skip)) (.reg r98_6))) (.post (.reg r98_3) ⟨[0, 1, 5], [], [], []⟩)))
@[go_sem] def r98_0 : List PO := [pK 4 0]
@[go_sem] def r98_1 : List PO := [pK 5 0]
@[go_sem] def r98_7 : List PO := [pM 20 1,
 pA 4 20]
def c98 : PC := (.seq (.reg r98_0) (.seq (.seq (.reg r98_1) (.block 0 (.pre ⟨[0, 1, 5], [], [], []⟩ (.loop k98_1b)))) (.seq (.reg r98_7) .ret)))
def i98 : FnI := ⟨21, [(.tmp 4)], c98, 0, [[1], [0]], [[0]], false, false, 0, false⟩
@[go_sem] def r53_0 : List PO := [pX 2 32 0,
 pK 4 0]
@[go_sem] def r53_1 : List PO := [pF 5 32 2 1,
 pL 6 24 5,
 pM 7 1,
 pC2 8 98 6 7 24 3,
 pA 1 8]
@[go_sem] def r53_2 : List PO := [pM 9 1,
 pB 10 .lss 3 9 0 3]
@[go_sem] def r53_3 : List PO := [pK 4 (-1)]
@[go_sem] def r53_4 : List PO := [pF 11 32 2 5,
 pL 12 24 11,
 pM 13 1,
 pC2 14 98 12 13 24 3,
 pA 1 14]
@[go_sem] def r53_5 : List PO := [pM 15 1,
 pB 16 .lss 3 15 0 3]
@[go_sem] def r53_6 : List PO := [pK 4 (-1)]
@[go_sem] def r53_7 : List PO := [pM 17 1,
 pA 4 17]
def c53 : PC := (.seq (.reg r53_0) (.seq (.reg r53_1) (.seq (.seq (.reg r53_2) (.cond (.tmp 10) (.seq (.reg r53_3) .ret) .skip)) (.seq (.reg r53_4) (.seq (.seq (.reg r53_5) (.cond (.tmp 16) (.seq (.reg r53_6) .ret) .skip)) (.seq (.reg r53_7) .ret))))))
def i53 : FnI := ⟨18, [(.tmp 4)], c53, 0, [[0, 1, 0, 0, 0, 1], [0]], [[0]], false, false, 0, false⟩
@[go_sem] def r22_0 : List PO := [pX 2 34 0,
 pK 4 0]
@[go_sem] def r22_1 : List PO := [pF 5 34 2 1,
 pL 6 32 5,
 pM 7 1,
 pC2 8 53 6 7 32 3,
 pA 1 8]
@[go_sem] def r22_2 : List PO := [pM 9 1,
 pB 10 .lss 3 9 0 3]
@[go_sem] def r22_3 : List PO := [pK 4 (-1)]
@[go_sem] def r22_4 : List PO := [pM 11 1,
 pA 4 11]
def c22 : PC := (.seq (.reg r22_0) (.seq (.reg r22_1) (.seq (.seq (.reg r22_2) (.cond (.tmp 10) (.seq (.reg r22_3) .ret) .skip)) (.seq (.reg r22_4) .ret))))
def i22 : FnI := ⟨12, [(.tmp 4)], c22, 0, [[0, 0, 0, 1, 0, 0, 0, 1], [0]], [[0]], false, false, 0, false⟩
@[go_sem] def r5_8 : List PO := [pL 38 34 9,
 pL 39 34 6,
 pC2 40 12 38 39 34 34,
 ⟨(some 41), (.unOp .not 4 (.tmp 40)), none⟩,
 pM 42 41,
 ⟨(some 43), (.move (.tmp 10)), (some (42, false))⟩,
 ⟨(some 44), (.move (.tmp 7)), (some (42, false))⟩,
 ⟨(some 45), (.binOp .neq 4 (.tmp 43) (.tmp 44) 4), (some (42, false))⟩,
 ⟨(some 46), (.pick (.tmp 42) (.const (.bool true)) (.tmp 45)), none⟩]
def k5_1 : PC := (.post (.reg r5_8) ⟨[2, 3, 6, 7, 8, 9, 10, 46], [.old 0, .old 1, .old 2, .old 3, .old 4, .old 5, .old 6, .old 7, .old 8, .old 9, .old 10], [], []⟩)
@[go_sem] def r5_14 : List PO := [pM 55 11,
 pB 56 .lss 3 55 0 3,
 pM 57 56,
 ⟨(some 58), (.load 34 (.tmp 9)), (some (57, false))⟩,
 ⟨(some 59), (.load 34 (.tmp 6)), (some (57, false))⟩,
 ⟨(some 60), (.call { callee := (.value (.func 12)), args := #[(.tmp 58), (.tmp 59)], argTypes := #[34, 34] }), (some (57, false))⟩,
 ⟨(some 61), (.unOp .not 4 (.tmp 60)), (some (57, false))⟩,
 ⟨(some 62), (.pick (.tmp 57) (.const (.bool true)) (.tmp 61)), none⟩,
 pM 63 62,
 ⟨(some 64), (.move (.tmp 10)), (some (63, false))⟩,
 ⟨(some 65), (.move (.tmp 7)), (some (63, false))⟩,
 ⟨(some 66), (.binOp .neq 4 (.tmp 64) (.tmp 65) 4), (some (63, false))⟩,
 ⟨(some 67), (.pick (.tmp 63) (.const (.bool true)) (.tmp 66)), none⟩]
def k5_2 : PC := (.post (.reg r5_14) ⟨[2, 3, 6, 7, 9, 67], [.old 0, .old 1, .old 2, .old 3, .old 4, .old 5, .old 6, .old 7], [], []⟩)
@[go_sem] def r5_25 : List PO := [pL 87 34 14,
 pL 88 34 6,
 pC2 89 12 87 88 34 34,
 ⟨(some 90), (.unOp .not 4 (.tmp 89)), none⟩,
 pM 91 90,
 ⟨(some 92), (.move (.tmp 15)), (some (91, false))⟩,
 ⟨(some 93), (.move (.tmp 7)), (some (91, false))⟩,
 ⟨(some 94), (.binOp .neq 4 (.tmp 92) (.tmp 93) 4), (some (91, false))⟩,
 ⟨(some 95), (.pick (.tmp 91) (.const (.bool true)) (.tmp 94)), none⟩]
def k5_3 : PC := (.post (.reg r5_25) ⟨[9, 12, 95], [.old 3, .old 4, .old 5], [], []⟩)
@[go_sem] def r5_0 : List PO := [pX 2 50 0,
 pX 3 28 1,
 pN 4 false]
@[go_sem] def r5_1 : List PO := [pK 5 1048576]
@[go_sem] def r5_2 : List PO := [pL 16 28 3,
 pM 17 5,
 pC2 18 8 16 17 28 3,
 pA 5 18]
@[go_sem] def r5_3 : List PO := [pM 19 5,
 pB 20 .lss 3 19 0 3]
@[go_sem] def r5_4 : List PO := [pN 4 true]
@[go_sem] def r5_5 : List PO := [pL 22 50 2,
 pC 23 19 22 50,
 pL 24 28 3,
 pC 25 10 24 28,
 pC2 26 18 23 25 53 34,
 pM 21 26,
 ⟨(some 27), (.extract (.tmp 21) 0), none⟩,
 ⟨(some 28), (.extract (.tmp 21) 1), none⟩,
 ⟨(some 6), (.alloc 34), none⟩,
 ⟨none, (.store 34 (.tmp 6) (.tmp 27)), none⟩,
 pA 7 28]
@[go_sem] def x5_5 : FxI := ⟨[1, 3, 4, 8, 9], [none, none, none, none, none, none, none, none, some 0, none, none], 1, [[], [1], [1, 3], [1, 3, 4], [1, 3, 4, 8], [1, 3, 4, 8, 9], [8], [1, 8], [1, 3, 8]], [(0, 8), (1, 8), (2, 8)], [(0, 6, 6), (1, 6, 7), (2, 0, 0), (2, 6, 6), (2, 7, 7), (3, 7, 8), (4, 8, 4), (8, 0, 6), (8, 1, 7), (8, 2, 8)]⟩
@[go_sem] def r5_6 : List PO := [pL 29 28 3,
 pC 30 10 29 28,
 ⟨(some 8), (.alloc 34), none⟩,
 ⟨none, (.store 34 (.tmp 8) (.tmp 30)), none⟩]
@[go_sem] def r5_7 : List PO := [pL 32 50 2,
 pC 33 19 32 50,
 pL 34 34 8,
 pC2 35 20 33 34 53 34,
 pM 31 35,
 ⟨(some 36), (.extract (.tmp 31) 0), none⟩,
 ⟨(some 37), (.extract (.tmp 31) 1), none⟩,
 ⟨(some 9), (.alloc 34), none⟩,
 ⟨none, (.store 34 (.tmp 9) (.tmp 36)), none⟩,
 pA 10 37]
@[go_sem] def x5_7 : FxI := ⟨[1, 3, 7, 8], [none, none, none, none, none, none, none, some 0, none, none], 1, [[], [1], [1, 3], [1, 3, 7], [1, 3, 7, 8], [7], [1, 7]], [(0, 7), (1, 7)], [(0, 5, 5), (1, 5, 6), (2, 0, 0), (2, 5, 5), (2, 6, 6), (3, 6, 3), (7, 0, 5), (7, 1, 6)]⟩
@[go_sem] def r5_9 : List PO := [pN 4 false]
@[go_sem] def r5_10 : List PO := [pL 47 34 8,
 pL 48 28 3,
 pC 49 10 48 28,
 pC2 50 12 47 49 34 34,
 ⟨(some 51), (.unOp .not 4 (.tmp 50)), none⟩]
@[go_sem] def r5_11 : List PO := [pN 4 false]
@[go_sem] def r5_12 : List PO := [pK 11 1]
@[go_sem] def r5_13 : List PO := [pL 52 34 8,
 pM 53 11,
 pC2 54 21 52 53 34 3,
 pA 11 54]
@[go_sem] def r5_15 : List PO := [pN 4 false]
@[go_sem] def r5_16 : List PO := [pK 12 1]
@[go_sem] def r5_17 : List PO := [pL 68 34 9,
 pM 69 12,
 pC2 70 21 68 69 34 3,
 pA 12 70]
@[go_sem] def r5_18 : List PO := [pK 13 1]
@[go_sem] def r5_19 : List PO := [pL 71 34 9,
 pM 72 13,
 pC2 73 22 71 72 34 3,
 pA 13 73]
@[go_sem] def r5_20 : List PO := [pM 74 13,
 pB 75 .lss 3 74 0 3]
@[go_sem] def r5_21 : List PO := [pN 4 false]
@[go_sem] def r5_22 : List PO := [pM 76 13,
 pM 77 12,
 pO 78 .neq 3 76 77 3]
@[go_sem] def r5_23 : List PO := [pN 4 false]
@[go_sem] def r5_24 : List PO := [pL 80 50 2,
 pC 81 19 80 50,
 pL 82 28 3,
 pC 83 10 82 28,
 pC2 84 20 81 83 53 34,
 pM 79 84,
 ⟨(some 85), (.extract (.tmp 79) 0), none⟩,
 ⟨(some 86), (.extract (.tmp 79) 1), none⟩,
 ⟨(some 14), (.alloc 34), none⟩,
 ⟨none, (.store 34 (.tmp 14) (.tmp 85)), none⟩,
 pA 15 86]
@[go_sem] def x5_24 : FxI := ⟨[1, 3, 4, 8, 9], [none, none, none, none, none, none, none, none, some 0, none, none], 1, [[], [1], [1, 3], [1, 3, 4], [1, 3, 4, 8], [1, 3, 4, 8, 9], [8], [1, 8], [1, 3, 8]], [(0, 8), (1, 8), (2, 8)], [(0, 6, 6), (1, 6, 7), (2, 0, 0), (2, 6, 6), (2, 7, 7), (3, 7, 8), (4, 8, 4), (8, 0, 6), (8, 1, 7), (8, 2, 8)]⟩
@[go_sem] def r5_26 : List PO := [pN 4 false]
@[go_sem] def r5_27 : List PO := [pK 13 1]
@[go_sem] def r5_28 : List PO := [pL 96 34 9,
 pM 97 13,
 pC2 98 22 96 97 34 3,
 pA 13 98]
@[go_sem] def r5_29 : List PO := [pM 99 13,
 pB 100 .lss 3 99 0 3]
@[go_sem] def r5_31 : List PO := [pM 101 13,
 pM 102 12,
 pO 103 .neq 3 101 102 3]
@[go_sem] def r5_33 : List PO := [pN 4 true]
def c5 : PC := (.seq (.reg r5_0) (.seq (.reg r5_1) (.seq (.reg r5_2) (.seq (.seq (.reg r5_3) (.cond (.tmp 20) (.seq (.reg r5_4) .ret) .skip)) (.seq (.fx r5_5 x5_5) (.seq (.reg r5_6) (.seq (.fx r5_7 x5_7) (.seq (.seq (.pre ⟨[2, 3, 6, 7, 8, 9, 10], [.old 0, .old 1, .old 2, .old 5, .old 6, .old 9, .old 7, .old 8, .old 10, .old 11, .old 12], [], []⟩ k5_1) (.cond (.tmp 46) (.seq (.reg r5_9) .ret) .skip)) (.seq (.seq (.fz r5_10) (.cond (.tmp 51) (.seq (.reg r5_11) .ret) .skip)) (.seq (.reg r5_12) (.seq (.reg r5_13) (.seq (.seq (.pre ⟨[2, 3, 6, 7, 9, 10, 11], [.old 0, .old 1, .old 2, .old 3, .old 4, .old 8, .old 9, .old 10], [], []⟩ k5_2) (.cond (.tmp 67) (.seq (.reg r5_15) .ret) .skip)) (.seq (.reg r5_16) (.seq (.reg r5_17) (.seq (.reg r5_18) (.seq (.reg r5_19) (.seq (.seq (.reg r5_20) (.cond (.tmp 75) (.seq (.reg r5_21) .ret) .skip)) (.seq (.seq (.reg r5_22) (.cond (.tmp 78) (.seq (.reg r5_23) .ret) .skip)) (.seq (.fx r5_24 x5_24) (.seq (.seq (.pre ⟨[6, 7, 9, 12, 14, 15], [.old 2, .old 3, .old 4, .old 5, .old 6, .old 7, .old 8, .old 11, .old 12], [], []⟩ k5_3) (.cond (.tmp 95) (.seq (.reg r5_26) .ret) .skip)) (.seq (.reg r5_27) (.seq (.reg r5_28) (.seq (.seq (.reg r5_29) (.cond (.tmp 100) .bad .skip)) (.seq (.seq (.reg r5_31) (.cond (.tmp 103) .bad .skip)) (.seq (.reg r5_33) .ret)))))))))))))))))))))))))
def i5 : FnI := ⟨104, [(.tmp 4)], c5, 0, [[0, 0], [0, 0, 0, 1, 0, 0, 0, 1]], [[0]], false, false, 0, false⟩
def tys : List (Nat × TyI) := [(3, ⟨1, 8, false, [.int .i64 0], [0], 0, [], .int .i64, false⟩),
 (4, ⟨1, 1, false, [.bool false], [0], 0, [], .bool, false⟩),
 (23, ⟨2, 16, true, [.int .i64 0, .int .i64 0], [0, 0], 0, [(0, 1, false), (1, 1, false)], .other, true⟩),
 (24, ⟨1, 24, false, [.nil], [1], 3, [], .other, false⟩),
 (26, ⟨6, 80, true, [.int .i64 0, .nil, .int .i64 0, .int .i64 0, .int .i64 0, .nil], [0, 1, 0, 0, 0, 1], 0, [(0, 1, false), (1, 1, false), (2, 1, false), (3, 1, false), (4, 1, false), (5, 1, false)], .other, false⟩),
 (28, ⟨8, 96, true, [.int .i64 0, .int .i64 0, .int .i64 0, .nil, .int .i64 0, .int .i64 0, .int .i64 0, .nil], [0, 0, 0, 1, 0, 0, 0, 1], 0, [(0, 2, true), (2, 6, true)], .other, false⟩),
 (31, ⟨2, 16, true, [.int .i64 0, .int .i64 0], [0, 0], 0, [(0, 1, false), (1, 1, false)], .other, true⟩),
 (32, ⟨6, 80, true, [.int .i64 0, .nil, .int .i64 0, .int .i64 0, .int .i64 0, .nil], [0, 1, 0, 0, 0, 1], 0, [(0, 1, false), (1, 1, false), (2, 1, false), (3, 1, false), (4, 1, false), (5, 1, false)], .other, false⟩),
 (34, ⟨8, 96, true, [.int .i64 0, .int .i64 0, .int .i64 0, .nil, .int .i64 0, .int .i64 0, .int .i64 0, .nil], [0, 0, 0, 1, 0, 0, 0, 1], 0, [(0, 2, true), (2, 6, true)], .other, false⟩),
 (50, ⟨2, 16, true, [.int .i64 0, .int .i64 0], [0, 0], 0, [(0, 1, false), (1, 1, false)], .other, true⟩),
 (53, ⟨2, 16, true, [.int .i64 0, .int .i64 0], [0, 0], 0, [(0, 1, false), (1, 1, false)], .other, true⟩),
 (145, ⟨1, 8, false, [.int .u64 0], [0], 0, [], .int .u64, false⟩)]
def fns : List (Nat × FnI) := [(5, i5), (8, i8), (9, i9), (10, i10), (11, i11), (12, i12), (18, i18), (19, i19), (20, i20), (21, i21), (22, i22), (32, i32), (33, i33), (34, i34), (35, i35), (36, i36), (37, i37), (38, i38), (39, i39), (40, i40), (48, i48), (49, i49), (50, i50), (51, i51), (52, i52), (53, i53), (70, i70), (71, i71), (72, i72), (73, i73), (74, i74), (75, i75), (76, i76), (77, i77), (78, i78), (79, i79), (80, i80), (81, i81), (89, i89), (90, i90), (91, i91), (92, i92), (93, i93), (94, i94), (95, i95), (96, i96), (97, i97), (98, i98), (120, i120), (121, i121), (128, i128), (129, i129), (130, i130), (133, i133), (146, i146), (147, i147)]
def T : Tab := mkTab tys fns
theorem soft0 : T.soft = false := rfl
theorem ty3 : T.ty 3 = some ⟨1, 8, false, [.int .i64 0], [0], 0, [], .int .i64, false⟩ := rfl
theorem base3 : T.baseOf 3 = Bs.int .i64 := rfl
theorem ty4 : T.ty 4 = some ⟨1, 1, false, [.bool false], [0], 0, [], .bool, false⟩ := rfl
theorem base4 : T.baseOf 4 = Bs.bool := rfl
theorem ty23 : T.ty 23 = some ⟨2, 16, true, [.int .i64 0, .int .i64 0], [0, 0], 0, [(0, 1, false), (1, 1, false)], .other, true⟩ := rfl
theorem base23 : T.baseOf 23 = Bs.other := rfl
theorem ty24 : T.ty 24 = some ⟨1, 24, false, [.nil], [1], 3, [], .other, false⟩ := rfl
theorem base24 : T.baseOf 24 = Bs.other := rfl
theorem elem24 : T.elemOf 24 = some ⟨1, 8, false, [.int .i64 0], [0], 0, [], .int .i64, false⟩ := rfl
theorem ty26 : T.ty 26 = some ⟨6, 80, true, [.int .i64 0, .nil, .int .i64 0, .int .i64 0, .int .i64 0, .nil], [0, 1, 0, 0, 0, 1], 0, [(0, 1, false), (1, 1, false), (2, 1, false), (3, 1, false), (4, 1, false), (5, 1, false)], .other, false⟩ := rfl
theorem base26 : T.baseOf 26 = Bs.other := rfl
theorem ty28 : T.ty 28 = some ⟨8, 96, true, [.int .i64 0, .int .i64 0, .int .i64 0, .nil, .int .i64 0, .int .i64 0, .int .i64 0, .nil], [0, 0, 0, 1, 0, 0, 0, 1], 0, [(0, 2, true), (2, 6, true)], .other, false⟩ := rfl
theorem base28 : T.baseOf 28 = Bs.other := rfl
theorem ty31 : T.ty 31 = some ⟨2, 16, true, [.int .i64 0, .int .i64 0], [0, 0], 0, [(0, 1, false), (1, 1, false)], .other, true⟩ := rfl
theorem base31 : T.baseOf 31 = Bs.other := rfl
theorem ty32 : T.ty 32 = some ⟨6, 80, true, [.int .i64 0, .nil, .int .i64 0, .int .i64 0, .int .i64 0, .nil], [0, 1, 0, 0, 0, 1], 0, [(0, 1, false), (1, 1, false), (2, 1, false), (3, 1, false), (4, 1, false), (5, 1, false)], .other, false⟩ := rfl
theorem base32 : T.baseOf 32 = Bs.other := rfl
theorem ty34 : T.ty 34 = some ⟨8, 96, true, [.int .i64 0, .int .i64 0, .int .i64 0, .nil, .int .i64 0, .int .i64 0, .int .i64 0, .nil], [0, 0, 0, 1, 0, 0, 0, 1], 0, [(0, 2, true), (2, 6, true)], .other, false⟩ := rfl
theorem base34 : T.baseOf 34 = Bs.other := rfl
theorem ty50 : T.ty 50 = some ⟨2, 16, true, [.int .i64 0, .int .i64 0], [0, 0], 0, [(0, 1, false), (1, 1, false)], .other, true⟩ := rfl
theorem base50 : T.baseOf 50 = Bs.other := rfl
theorem ty53 : T.ty 53 = some ⟨2, 16, true, [.int .i64 0, .int .i64 0], [0, 0], 0, [(0, 1, false), (1, 1, false)], .other, true⟩ := rfl
theorem base53 : T.baseOf 53 = Bs.other := rfl
theorem ty145 : T.ty 145 = some ⟨1, 8, false, [.int .u64 0], [0], 0, [], .int .u64, false⟩ := rfl
theorem base145 : T.baseOf 145 = Bs.int .u64 := rfl
attribute [go_sem] soft0 ty3 base3 ty4 base4 ty23 base23 ty24 base24 elem24 ty26 base26 ty28 base28 ty31 base31 ty32 base32 ty34 base34 ty50 base50 ty53 base53 ty145 base145
theorem ok5 : FnOk Try.prog (5, i5) := ⟨Try.f5, _, Try.func5, rfl, by kernel_rfl, rfl, rfl, by kernel_rfl⟩
theorem ok8 : FnOk Try.prog (8, i8) := ⟨Try.f8, _, Try.func8, rfl, by kernel_rfl, rfl, rfl, by kernel_rfl⟩
theorem ok9 : FnOk Try.prog (9, i9) := ⟨Try.f9, _, Try.func9, rfl, by kernel_rfl, rfl, rfl, by kernel_rfl⟩
theorem ok10 : FnOk Try.prog (10, i10) := ⟨Try.f10, _, Try.func10, rfl, by kernel_rfl, rfl, rfl, by kernel_rfl⟩
theorem ok11 : FnOk Try.prog (11, i11) := ⟨Try.f11, _, Try.func11, rfl, by kernel_rfl, rfl, rfl, by kernel_rfl⟩
theorem ok12 : FnOk Try.prog (12, i12) := ⟨Try.f12, _, Try.func12, rfl, by kernel_rfl, rfl, rfl, by kernel_rfl⟩
theorem ok18 : FnOk Try.prog (18, i18) := ⟨Try.f18, _, Try.func18, rfl, by kernel_rfl, rfl, rfl, by kernel_rfl⟩
theorem ok19 : FnOk Try.prog (19, i19) := ⟨Try.f19, _, Try.func19, rfl, by kernel_rfl, rfl, rfl, by kernel_rfl⟩
theorem ok20 : FnOk Try.prog (20, i20) := ⟨Try.f20, _, Try.func20, rfl, by kernel_rfl, rfl, rfl, by kernel_rfl⟩
theorem ok21 : FnOk Try.prog (21, i21) := ⟨Try.f21, _, Try.func21, rfl, by kernel_rfl, rfl, rfl, by kernel_rfl⟩
theorem ok22 : FnOk Try.prog (22, i22) := ⟨Try.f22, _, Try.func22, rfl, by kernel_rfl, rfl, rfl, by kernel_rfl⟩
theorem ok32 : FnOk Try.prog (32, i32) := ⟨Try.f32, _, Try.func32, rfl, by kernel_rfl, rfl, rfl, by kernel_rfl⟩
theorem ok33 : FnOk Try.prog (33, i33) := ⟨Try.f33, _, Try.func33, rfl, by kernel_rfl, rfl, rfl, by kernel_rfl⟩
theorem ok34 : FnOk Try.prog (34, i34) := ⟨Try.f34, _, Try.func34, rfl, by kernel_rfl, rfl, rfl, by kernel_rfl⟩
theorem ok35 : FnOk Try.prog (35, i35) := ⟨Try.f35, _, Try.func35, rfl, by kernel_rfl, rfl, rfl, by kernel_rfl⟩
theorem ok36 : FnOk Try.prog (36, i36) := ⟨Try.f36, _, Try.func36, rfl, by kernel_rfl, rfl, rfl, by kernel_rfl⟩
theorem ok37 : FnOk Try.prog (37, i37) := ⟨Try.f37, _, Try.func37, rfl, by kernel_rfl, rfl, rfl, by kernel_rfl⟩
theorem ok38 : FnOk Try.prog (38, i38) := ⟨Try.f38, _, Try.func38, rfl, by kernel_rfl, rfl, rfl, by kernel_rfl⟩
theorem ok39 : FnOk Try.prog (39, i39) := ⟨Try.f39, _, Try.func39, rfl, by kernel_rfl, rfl, rfl, by kernel_rfl⟩
theorem ok40 : FnOk Try.prog (40, i40) := ⟨Try.f40, _, Try.func40, rfl, by kernel_rfl, rfl, rfl, by kernel_rfl⟩
theorem ok48 : FnOk Try.prog (48, i48) := ⟨Try.f48, _, Try.func48, rfl, by kernel_rfl, rfl, rfl, by kernel_rfl⟩
theorem ok49 : FnOk Try.prog (49, i49) := ⟨Try.f49, _, Try.func49, rfl, by kernel_rfl, rfl, rfl, by kernel_rfl⟩
theorem ok50 : FnOk Try.prog (50, i50) := ⟨Try.f50, _, Try.func50, rfl, by kernel_rfl, rfl, rfl, by kernel_rfl⟩
theorem ok51 : FnOk Try.prog (51, i51) := ⟨Try.f51, _, Try.func51, rfl, by kernel_rfl, rfl, rfl, by kernel_rfl⟩
theorem ok52 : FnOk Try.prog (52, i52) := ⟨Try.f52, _, Try.func52, rfl, by kernel_rfl, rfl, rfl, by kernel_rfl⟩
theorem ok53 : FnOk Try.prog (53, i53) := ⟨Try.f53, _, Try.func53, rfl, by kernel_rfl, rfl, rfl, by kernel_rfl⟩
theorem ok70 : FnOk Try.prog (70, i70) := ⟨Try.f70, _, Try.func70, rfl, by kernel_rfl, rfl, rfl, by kernel_rfl⟩
theorem ok71 : FnOk Try.prog (71, i71) := ⟨Try.f71, _, Try.func71, rfl, by kernel_rfl, rfl, rfl, by kernel_rfl⟩
theorem ok72 : FnOk Try.prog (72, i72) := ⟨Try.f72, _, Try.func72, rfl, by kernel_rfl, rfl, rfl, by kernel_rfl⟩
theorem ok73 : FnOk Try.prog (73, i73) := ⟨Try.f73, _, Try.func73, rfl, by kernel_rfl, rfl, rfl, by kernel_rfl⟩
theorem ok74 : FnOk Try.prog (74, i74) := ⟨Try.f74, _, Try.func74, rfl, by kernel_rfl, rfl, rfl, by kernel_rfl⟩
theorem ok75 : FnOk Try.prog (75, i75) := ⟨Try.f75, _, Try.func75, rfl, by kernel_rfl, rfl, rfl, by kernel_rfl⟩
theorem ok76 : FnOk Try.prog (76, i76) := ⟨Try.f76, _, Try.func76, rfl, by kernel_rfl, rfl, rfl, by kernel_rfl⟩
theorem ok77 : FnOk Try.prog (77, i77) := ⟨Try.f77, _, Try.func77, rfl, by kernel_rfl, rfl, rfl, by kernel_rfl⟩
theorem ok78 : FnOk Try.prog (78, i78) := ⟨Try.f78, _, Try.func78, rfl, by kernel_rfl, rfl, rfl, by kernel_rfl⟩
theorem ok79 : FnOk Try.prog (79, i79) := ⟨Try.f79, _, Try.func79, rfl, by kernel_rfl, rfl, rfl, by kernel_rfl⟩
theorem ok80 : FnOk Try.prog (80, i80) := ⟨Try.f80, _, Try.func80, rfl, by kernel_rfl, rfl, rfl, by kernel_rfl⟩
theorem ok81 : FnOk Try.prog (81, i81) := ⟨Try.f81, _, Try.func81, rfl, by kernel_rfl, rfl, rfl, by kernel_rfl⟩
theorem ok89 : FnOk Try.prog (89, i89) := ⟨Try.f89, _, Try.func89, rfl, by kernel_rfl, rfl, rfl, by kernel_rfl⟩
theorem ok90 : FnOk Try.prog (90, i90) := ⟨Try.f90, _, Try.func90, rfl, by kernel_rfl, rfl, rfl, by kernel_rfl⟩
theorem ok91 : FnOk Try.prog (91, i91) := ⟨Try.f91, _, Try.func91, rfl, by kernel_rfl, rfl, rfl, by kernel_rfl⟩
theorem ok92 : FnOk Try.prog (92, i92) := ⟨Try.f92, _, Try.func92, rfl, by kernel_rfl, rfl, rfl, by kernel_rfl⟩
theorem ok93 : FnOk Try.prog (93, i93) := ⟨Try.f93, _, Try.func93, rfl, by kernel_rfl, rfl, rfl, by kernel_rfl⟩
theorem ok94 : FnOk Try.prog (94, i94) := ⟨Try.f94, _, Try.func94, rfl, by kernel_rfl, rfl, rfl, by kernel_rfl⟩
theorem ok95 : FnOk Try.prog (95, i95) := ⟨Try.f95, _, Try.func95, rfl, by kernel_rfl, rfl, rfl, by kernel_rfl⟩
theorem ok96 : FnOk Try.prog (96, i96) := ⟨Try.f96, _, Try.func96, rfl, by kernel_rfl, rfl, rfl, by kernel_rfl⟩
theorem ok97 : FnOk Try.prog (97, i97) := ⟨Try.f97, _, Try.func97, rfl, by kernel_rfl, rfl, rfl, by kernel_rfl⟩
theorem ok98 : FnOk Try.prog (98, i98) := ⟨Try.f98, _, Try.func98, rfl, by kernel_rfl, rfl, rfl, by kernel_rfl⟩
theorem ok120 : FnOk Try.prog (120, i120) := ⟨Try.f120, _, Try.func120, rfl, by kernel_rfl, rfl, rfl, by kernel_rfl⟩
theorem ok121 : FnOk Try.prog (121, i121) := ⟨Try.f121, _, Try.func121, rfl, by kernel_rfl, rfl, rfl, by kernel_rfl⟩
theorem ok128 : FnOk Try.prog (128, i128) := ⟨Try.f128, _, Try.func128, rfl, by kernel_rfl, rfl, rfl, by kernel_rfl⟩
theorem ok129 : FnOk Try.prog (129, i129) := ⟨Try.f129, _, Try.func129, rfl, by kernel_rfl, rfl, rfl, by kernel_rfl⟩
theorem ok130 : FnOk Try.prog (130, i130) := ⟨Try.f130, _, Try.func130, rfl, by kernel_rfl, rfl, rfl, by kernel_rfl⟩
theorem ok133 : FnOk Try.prog (133, i133) := ⟨Try.f133, _, Try.func133, rfl, by kernel_rfl, rfl, rfl, by kernel_rfl⟩
theorem ok146 : FnOk Try.prog (146, i146) := ⟨Try.f146, _, Try.func146, rfl, by kernel_rfl, rfl, rfl, by kernel_rfl⟩
theorem ok147 : FnOk Try.prog (147, i147) := ⟨Try.f147, _, Try.func147, rfl, by kernel_rfl, rfl, rfl, by kernel_rfl⟩
theorem insAll : ∀ q ∈ [(94, 24)], InsOk Try.prog q.1 q.2 := by
 intro q hq
 simp only [List.mem_cons, List.not_mem_nil, or_false] at hq
 rcases hq with rfl
 · exact ins94
theorem tab : TabOk Try.prog T := tabOkL_of [(94, 24)] (by kernel_rfl) (.cons ok5 (.cons ok8 (.cons ok9 (.cons ok10 (.cons ok11 (.cons ok12 (.cons ok18 (.cons ok19 (.cons ok20 (.cons ok21 (.cons ok22 (.cons ok32 (.cons ok33 (.cons ok34 (.cons ok35 (.cons ok36 (.cons ok37 (.cons ok38 (.cons ok39 (.cons ok40 (.cons ok48 (.cons ok49 (.cons ok50 (.cons ok51 (.cons ok52 (.cons ok53 (.cons ok70 (.cons ok71 (.cons ok72 (.cons ok73 (.cons ok74 (.cons ok75 (.cons ok76 (.cons ok77 (.cons ok78 (.cons ok79 (.cons ok80 (.cons ok81 (.cons ok89 (.cons ok90 (.cons ok91 (.cons ok92 (.cons ok93 (.cons ok94 (.cons ok95 (.cons ok96 (.cons ok97 (.cons ok98 (.cons ok120 (.cons ok121 (.cons ok128 (.cons ok129 (.cons ok130 (.cons ok133 (.cons ok146 (.cons ok147 (.nil))))))))))))))))))))))))))))))))))))))))))))))))))))))))) (by kernel_rfl) insAll
theorem fn5 : T.fn 5 = some i5 := rfl
theorem fn8 : T.fn 8 = some i8 := rfl
theorem fn9 : T.fn 9 = some i9 := rfl
theorem fn10 : T.fn 10 = some i10 := rfl
theorem fn11 : T.fn 11 = some i11 := rfl
theorem fn12 : T.fn 12 = some i12 := rfl
theorem fn18 : T.fn 18 = some i18 := rfl
theorem fn19 : T.fn 19 = some i19 := rfl
theorem fn20 : T.fn 20 = some i20 := rfl
theorem fn21 : T.fn 21 = some i21 := rfl
theorem fn22 : T.fn 22 = some i22 := rfl
theorem fn32 : T.fn 32 = some i32 := rfl
theorem fn33 : T.fn 33 = some i33 := rfl
theorem fn34 : T.fn 34 = some i34 := rfl
theorem fn35 : T.fn 35 = some i35 := rfl
theorem fn36 : T.fn 36 = some i36 := rfl
theorem fn37 : T.fn 37 = some i37 := rfl
theorem fn38 : T.fn 38 = some i38 := rfl
theorem fn39 : T.fn 39 = some i39 := rfl
theorem fn40 : T.fn 40 = some i40 := rfl
theorem fn48 : T.fn 48 = some i48 := rfl
theorem fn49 : T.fn 49 = some i49 := rfl
theorem fn50 : T.fn 50 = some i50 := rfl
theorem fn51 : T.fn 51 = some i51 := rfl
theorem fn52 : T.fn 52 = some i52 := rfl
theorem fn53 : T.fn 53 = some i53 := rfl
theorem fn70 : T.fn 70 = some i70 := rfl
theorem fn71 : T.fn 71 = some i71 := rfl
theorem fn72 : T.fn 72 = some i72 := rfl
theorem fn73 : T.fn 73 = some i73 := rfl
theorem fn74 : T.fn 74 = some i74 := rfl
theorem fn75 : T.fn 75 = some i75 := rfl
theorem fn76 : T.fn 76 = some i76 := rfl
theorem fn77 : T.fn 77 = some i77 := rfl
theorem fn78 : T.fn 78 = some i78 := rfl
theorem fn79 : T.fn 79 = some i79 := rfl
theorem fn80 : T.fn 80 = some i80 := rfl
theorem fn81 : T.fn 81 = some i81 := rfl
theorem fn89 : T.fn 89 = some i89 := rfl
theorem fn90 : T.fn 90 = some i90 := rfl
theorem fn91 : T.fn 91 = some i91 := rfl
theorem fn92 : T.fn 92 = some i92 := rfl
theorem fn93 : T.fn 93 = some i93 := rfl
theorem fn94 : T.fn 94 = some i94 := rfl
theorem fn95 : T.fn 95 = some i95 := rfl
theorem fn96 : T.fn 96 = some i96 := rfl
theorem fn97 : T.fn 97 = some i97 := rfl
theorem fn98 : T.fn 98 = some i98 := rfl
theorem fn120 : T.fn 120 = some i120 := rfl
theorem fn121 : T.fn 121 = some i121 := rfl
theorem fn128 : T.fn 128 = some i128 := rfl
theorem fn129 : T.fn 129 = some i129 := rfl
theorem fn130 : T.fn 130 = some i130 := rfl
theorem fn133 : T.fn 133 = some i133 := rfl
theorem fn146 : T.fn 146 = some i146 := rfl
theorem fn147 : T.fn 147 = some i147 := rfl
end Go.Pi.Ythidbgihjhkjaaa.ActOn
