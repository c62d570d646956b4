/- What functions of the program answer, and that the law answers true at every input; no condition -/
import Derived.Test.YtnogicfhdgpdjaaProg
import Derived.Test.YtnogicfhdgpdjaaPiD
set_option linter.all false
/- The program's tables for Pi: types and functions, as they stand in the loaded program, with hints. -/
namespace Go.Pi.Ytnogicfhdgpdjaa.MatchPath
open Go Go.Proofs Go.Pi
set_option maxRecDepth 100000

-- loop.example/g00344/laws.szReCellS
def r6_0 : List PO := [⟨(some 4), (.assign (.const (.int .i64 0))), none⟩]
attribute [go_sem] r6_0
def r6_1 : List PO := [⟨(some 5), (.move (.tmp 1)), none⟩,
  ⟨(some 6), (.move (.tmp 0)), none⟩,
  ⟨(some 7), (.call { callee := (.builtin .len), args := #[(.tmp 6)], argTypes := #[22] }), none⟩,
  ⟨(some 8), (.binOp .sub 3 (.tmp 5) (.tmp 7) 3), none⟩,
  ⟨(some 1), (.assign (.tmp 8)), none⟩]
attribute [go_sem] r6_1
def r6_2 : List PO := [⟨(some 9), (.move (.tmp 1)), none⟩,
  ⟨(some 10), (.binOp .lss 3 (.tmp 9) (.const (.int .i64 0)) 3), none⟩]
attribute [go_sem] r6_2
def r6_3 : List PO := [⟨(some 4), (.assign (.const (.int .i64 (-1)))), none⟩]
attribute [go_sem] r6_3
def r6_4 : List PO := [⟨(some 11), (.move (.tmp 1)), none⟩,
  ⟨(some 4), (.assign (.tmp 11)), none⟩]
attribute [go_sem] r6_4
def c6 : PC := (.seq (.reg r6_0) (.seq (.reg r6_1) (.seq (.seq (.reg r6_2) (.cond (.tmp 10) (.seq (.reg r6_3) .ret) .skip)) (.seq (.reg r6_4) .ret))))
def i6 : FnI := ⟨12, [(.tmp 4)], c6, 0, [[2], [0]], [[0]], false, false, 0, false⟩
-- loop.example/g00344/laws.toReCell
def r32_0 : List PO := [⟨(some 1), (.box 65 (.tmp 0)), none⟩,
  ⟨(some 2), (.alloc 63), none⟩]
attribute [go_sem] r32_0
def r32_1 : List PO := [⟨(some 3), (.alloc 63), none⟩]
attribute [go_sem] r32_1
def r32_2 : List PO := [⟨(some 4), (.fieldAddr 65 (.tmp 1) 0), none⟩,
  ⟨(some 5), (.load 3 (.tmp 4)), none⟩,
  ⟨(some 6), (.fieldAddr 63 (.tmp 3) 0), none⟩,
  ⟨none, (.store 3 (.tmp 6) (.tmp 5)), none⟩]
attribute [go_sem] r32_2
def r32_3 : List PO := [⟨(some 7), (.fieldAddr 65 (.tmp 1) 1), none⟩,
  ⟨(some 8), (.load 3 (.tmp 7)), none⟩,
  ⟨(some 9), (.fieldAddr 63 (.tmp 3) 1), none⟩,
  ⟨none, (.store 3 (.tmp 9) (.tmp 8)), none⟩]
attribute [go_sem] r32_3
def r32_4 : List PO := [⟨(some 10), (.load 63 (.tmp 3)), none⟩,
  ⟨none, (.store 63 (.tmp 2) (.tmp 10)), none⟩]
attribute [go_sem] r32_4
def c32 : PC := (.seq (.reg r32_0) (.seq (.reg r32_1) (.seq (.reg r32_2) (.seq (.reg r32_3) (.seq (.reg r32_4) .ret)))))
def i32 : FnI := ⟨11, [(.cell 2 63)], c32, 0, [[0, 0]], [[0, 0]], false, false, 0, false⟩
-- loop.example/g00344/laws.toReCellS
def r8_3 : List PO := [⟨(some 8), (.move (.tmp 4)), none⟩,
  ⟨(some 9), (.move (.tmp 0)), none⟩,
  ⟨(some 10), (.call { callee := (.builtin .len), args := #[(.tmp 9)], argTypes := #[22] }), none⟩,
  ⟨(some 11), (.binOp .lss 3 (.tmp 8) (.tmp 10) 3), none⟩]
attribute [go_sem] r8_3
def r8_5 : List PO := [⟨(some 14), (.move (.tmp 3)), none⟩,
  ⟨(some 15), (.move (.tmp 4)), none⟩,
  ⟨(some 16), (.move (.tmp 0)), none⟩,
  ⟨(some 17), (.move (.tmp 4)), none⟩,
  ⟨(some 18), (.indexAddr 22 (.tmp 16) (.tmp 17)), none⟩,
  ⟨(some 19), (.load 65 (.tmp 18)), none⟩,
  ⟨(some 20), (.call { callee := (.value (.func 32)), args := #[(.tmp 19)], argTypes := #[65] }), none⟩,
  ⟨(some 21), (.indexAddr 27 (.tmp 14) (.tmp 15)), none⟩,
  ⟨none, (.store 63 (.tmp 21) (.tmp 20)), none⟩]
attribute [go_sem] r8_5
def r8_4 : List PO := [⟨(some 12), (.move (.tmp 4)), none⟩,
  ⟨(some 13), (.binOp .add 3 (.tmp 12) (.const (.int .i64 1)) 3), none⟩,
  ⟨(some 4), (.assign (.tmp 13)), none⟩]
attribute [go_sem] r8_4
def k8_1b : PC := (.seq (.seq (.reg r8_3) (.cond (.tmp 11) .skip (.pre ⟨[3], [.old 0], [], []⟩ (.exit 0)))) (.seq (.block 1 (.reg r8_5)) (.post (.reg r8_4) ⟨[0, 3, 4], [.old 0], [], []⟩)))
def r8_0 : List PO := [⟨(some 2), (.assign (.const (.slice none 0 0))), none⟩]
attribute [go_sem] r8_0
def r8_1 : List PO := [⟨(some 5), (.move (.tmp 0)), none⟩,
  ⟨(some 6), (.call { callee := (.builtin .len), args := #[(.tmp 5)], argTypes := #[22] }), none⟩,
  ⟨(some 7), (.makeSlice 27 (.tmp 6) (.tmp 6)), none⟩,
  ⟨(some 3), (.assign (.tmp 7)), none⟩]
attribute [go_sem] r8_1
def r8_2 : List PO := [⟨(some 4), (.assign (.const (.int .i64 0))), none⟩]
attribute [go_sem] r8_2
def r8_6 : List PO := [⟨(some 22), (.move (.tmp 3)), none⟩,
  ⟨(some 2), (.assign (.tmp 22)), none⟩]
attribute [go_sem] r8_6
def c8 : PC := (.seq (.reg r8_0) (.seq (.reg r8_1) (.seq (.seq (.reg r8_2) (.block 0 (.pre ⟨[0, 3, 4], [.old 0], [], []⟩ (.loop k8_1b)))) (.seq (.reg r8_6) .ret))))
def i8 : FnI := ⟨23, [(.tmp 2)], c8, 0, [[2]], [[2]], false, false, 0, false⟩
-- loop.example/g00344/laws.toIntS
def r9_3 : List PO := [⟨(some 8), (.move (.tmp 4)), none⟩,
  ⟨(some 9), (.move (.tmp 0)), none⟩,
  ⟨(some 10), (.call { callee := (.builtin .len), args := #[(.tmp 9)], argTypes := #[23] }), none⟩,
  ⟨(some 11), (.binOp .lss 3 (.tmp 8) (.tmp 10) 3), none⟩]
attribute [go_sem] r9_3
def r9_5 : List PO := [⟨(some 14), (.move (.tmp 3)), none⟩,
  ⟨(some 15), (.move (.tmp 4)), none⟩,
  ⟨(some 16), (.move (.tmp 0)), none⟩,
  ⟨(some 17), (.move (.tmp 4)), none⟩,
  ⟨(some 18), (.indexAddr 23 (.tmp 16) (.tmp 17)), none⟩,
  ⟨(some 19), (.load 3 (.tmp 18)), none⟩,
  ⟨(some 20), (.indexAddr 23 (.tmp 14) (.tmp 15)), none⟩,
  ⟨none, (.store 3 (.tmp 20) (.tmp 19)), none⟩]
attribute [go_sem] r9_5
def r9_4 : List PO := [⟨(some 12), (.move (.tmp 4)), none⟩,
  ⟨(some 13), (.binOp .add 3 (.tmp 12) (.const (.int .i64 1)) 3), none⟩,
  ⟨(some 4), (.assign (.tmp 13)), none⟩]
attribute [go_sem] r9_4
def k9_1b : PC := (.seq (.seq (.reg r9_3) (.cond (.tmp 11) .skip (.pre ⟨[3], [.old 0], [], []⟩ (.exit 0)))) (.seq (.block 1 (.reg r9_5)) (.post (.reg r9_4) ⟨[0, 3, 4], [.old 0], [], []⟩)))
def r9_0 : List PO := [⟨(some 2), (.assign (.const (.slice none 0 0))), none⟩]
attribute [go_sem] r9_0
def r9_1 : List PO := [⟨(some 5), (.move (.tmp 0)), none⟩,
  ⟨(some 6), (.call { callee := (.builtin .len), args := #[(.tmp 5)], argTypes := #[23] }), none⟩,
  ⟨(some 7), (.makeSlice 23 (.tmp 6) (.tmp 6)), none⟩,
  ⟨(some 3), (.assign (.tmp 7)), none⟩]
attribute [go_sem] r9_1
def r9_2 : List PO := [⟨(some 4), (.assign (.const (.int .i64 0))), none⟩]
attribute [go_sem] r9_2
def r9_6 : List PO := [⟨(some 21), (.move (.tmp 3)), none⟩,
  ⟨(some 2), (.assign (.tmp 21)), none⟩]
attribute [go_sem] r9_6
def c9 : PC := (.seq (.reg r9_0) (.seq (.reg r9_1) (.seq (.seq (.reg r9_2) (.block 0 (.pre ⟨[0, 3, 4], [.old 0], [], []⟩ (.loop k9_1b)))) (.seq (.reg r9_6) .ret))))
def i9 : FnI := ⟨22, [(.tmp 2)], c9, 0, [[1]], [[1]], false, false, 0, false⟩
-- loop.example/g00344/spec.l6Arity
def r78_5 : List PO := [⟨(some 8), (.binOp .eql 3 (.tmp 3) (.const (.int .i64 4)) 3), none⟩,
  ⟨(some 4), (.assign (.tmp 8)), none⟩]
attribute [go_sem] r78_5
def k78_3 : PC := (.cond (.tmp 4) (.post .skip ⟨[3, 4], [], [], []⟩) (.post (.reg r78_5) ⟨[3, 4], [], [], []⟩))
def r78_4 : List PO := [⟨(some 7), (.binOp .eql 3 (.tmp 3) (.const (.int .i64 3)) 3), none⟩,
  ⟨(some 4), (.assign (.tmp 7)), none⟩]
attribute [go_sem] r78_4
def k78_2 : PC := (.cond (.tmp 4) (.post .skip ⟨[3, 4], [], [], []⟩) (.seq (.reg r78_4) (.post (.pre ⟨[3, 4], [], [], []⟩ k78_3) ⟨[3, 4], [], [], []⟩)))
def r78_3 : List PO := [⟨(some 6), (.binOp .eql 3 (.tmp 3) (.const (.int .i64 2)) 3), none⟩,
  ⟨(some 4), (.assign (.tmp 6)), none⟩]
attribute [go_sem] r78_3
def k78_1 : PC := (.cond (.tmp 4) (.post .skip ⟨[3, 4], [], [], []⟩) (.seq (.reg r78_3) (.post (.pre ⟨[3, 4], [], [], []⟩ k78_2) ⟨[3, 4], [], [], []⟩)))
def r78_8 : List PO := [⟨(some 11), (.binOp .eql 3 (.tmp 3) (.const (.int .i64 6)) 3), none⟩,
  ⟨(some 9), (.assign (.tmp 11)), none⟩]
attribute [go_sem] r78_8
def k78_4 : PC := (.cond (.tmp 9) (.post .skip ⟨[3, 9], [], [], []⟩) (.post (.reg r78_8) ⟨[3, 9], [], [], []⟩))
def r78_0 : List PO := [⟨(some 2), (.assign (.const (.int .i64 0))), none⟩]
attribute [go_sem] r78_0
def r78_1 : List PO := [⟨(some 3), (.move (.tmp 0)), none⟩]
attribute [go_sem] r78_1
def r78_2 : List PO := [⟨(some 5), (.binOp .eql 3 (.tmp 3) (.const (.int .i64 1)) 3), none⟩,
  ⟨(some 4), (.assign (.tmp 5)), none⟩]
attribute [go_sem] r78_2
def r78_6 : List PO := [⟨(some 2), (.assign (.const (.int .i64 0))), none⟩]
attribute [go_sem] r78_6
def r78_7 : List PO := [⟨(some 10), (.binOp .eql 3 (.tmp 3) (.const (.int .i64 5)) 3), none⟩,
  ⟨(some 9), (.assign (.tmp 10)), none⟩]
attribute [go_sem] r78_7
def r78_9 : List PO := [⟨(some 2), (.assign (.const (.int .i64 2))), none⟩]
attribute [go_sem] r78_9
def r78_10 : List PO := [⟨(some 13), (.binOp .eql 3 (.tmp 3) (.const (.int .i64 7)) 3), none⟩,
  ⟨(some 12), (.assign (.tmp 13)), none⟩]
attribute [go_sem] r78_10
def r78_11 : List PO := [⟨(some 2), (.assign (.const (.int .i64 1))), none⟩]
attribute [go_sem] r78_11
def r78_12 : List PO := [⟨(some 2), (.assign (.const (.int .i64 (-1)))), none⟩]
attribute [go_sem] r78_12
def c78 : PC := (.seq (.reg r78_0) (.seq (.seq (.reg r78_1) (.block 0 (.seq (.seq (.reg r78_2) (.pre ⟨[3, 4], [], [], []⟩ k78_1)) (.cond (.tmp 4) (.seq (.reg r78_6) .ret) (.seq (.seq (.reg r78_7) (.pre ⟨[3, 9], [], [], []⟩ k78_4)) (.cond (.tmp 9) (.seq (.reg r78_9) .ret) (.seq (.reg r78_10) (.cond (.tmp 12) (.seq (.reg r78_11) .ret) .skip)))))))) (.seq (.reg r78_12) .ret)))
def i78 : FnI := ⟨14, [(.tmp 2)], c78, 0, [[0]], [[0]], false, false, 0, false⟩
-- loop.example/g00344/spec.l1In
def r36_1 : List PO := [⟨(some 7), (.move (.tmp 0)), none⟩,
  ⟨(some 8), (.move (.tmp 1)), none⟩,
  ⟨(some 9), (.binOp .geq 3 (.tmp 7) (.tmp 8) 3), none⟩,
  ⟨(some 10), (.move (.tmp 9)), none⟩,
  ⟨(some 11), (.move (.tmp 0)), (some (10, true))⟩,
  ⟨(some 12), (.move (.tmp 2)), (some (10, true))⟩,
  ⟨(some 13), (.binOp .leq 3 (.tmp 11) (.tmp 12) 3), (some (10, true))⟩,
  ⟨(some 14), (.pick (.tmp 10) (.tmp 13) (.const (.bool false))), none⟩,
  ⟨(some 6), (.assign (.tmp 14)), none⟩]
attribute [go_sem] r36_1
def k36_1 : PC := (.post (.reg r36_1) ⟨[6], [], [], []⟩)
def r36_0 : List PO := [⟨(some 6), (.assign (.const (.bool false))), none⟩]
attribute [go_sem] r36_0
def c36 : PC := (.seq (.reg r36_0) (.seq (.pre ⟨[0, 1, 2], [], [], []⟩ k36_1) .ret))
def i36 : FnI := ⟨15, [(.tmp 6)], c36, 0, [[0], [0], [0]], [[0]], false, false, 0, false⟩
-- loop.example/g00344/spec.l6Read
def r62_5 : List PO := [⟨(some 23), (.move (.tmp 7)), none⟩,
  ⟨(some 24), (.binOp .lss 3 (.tmp 23) (.const (.int .i64 0)) 3), none⟩,
  ⟨(some 25), (.move (.tmp 24)), none⟩,
  ⟨(some 26), (.fieldAddr 63 (.tmp 6) 0), (some (25, false))⟩,
  ⟨(some 27), (.load 3 (.tmp 26)), (some (25, false))⟩,
  ⟨(some 28), (.binOp .eql 3 (.tmp 27) (.const (.int .i64 3)) 3), (some (25, false))⟩,
  ⟨(some 29), (.move (.tmp 28)), (some (25, false))⟩,
  ⟨(some 30), (.fieldAddr 63 (.tmp 6) 1), (some (29, true))⟩,
  ⟨(some 31), (.load 3 (.tmp 30)), (some (29, true))⟩,
  ⟨(some 32), (.call { callee := (.value (.func 36)), args := #[(.tmp 31), (.const (.int .i64 1)), (.const (.int .i64 65535))], argTypes := #[3, 3, 3] }), (some (29, true))⟩,
  ⟨(some 33), (.unOp .not 4 (.tmp 32)), (some (29, true))⟩,
  ⟨(some 34), (.pick (.tmp 29) (.tmp 33) (.const (.bool false))), (some (25, false))⟩,
  ⟨(some 35), (.pick (.tmp 25) (.const (.bool true)) (.tmp 34)), none⟩,
  ⟨(some 36), (.move (.tmp 35)), none⟩,
  ⟨(some 37), (.fieldAddr 63 (.tmp 6) 0), (some (36, false))⟩,
  ⟨(some 38), (.load 3 (.tmp 37)), (some (36, false))⟩,
  ⟨(some 39), (.binOp .neq 3 (.tmp 38) (.const (.int .i64 3)) 3), (some (36, false))⟩,
  ⟨(some 40), (.move (.tmp 39)), (some (36, false))⟩,
  ⟨(some 41), (.fieldAddr 63 (.tmp 6) 1), (some (40, true))⟩,
  ⟨(some 42), (.load 3 (.tmp 41)), (some (40, true))⟩,
  ⟨(some 43), (.binOp .neq 3 (.tmp 42) (.const (.int .i64 0)) 3), (some (40, true))⟩,
  ⟨(some 44), (.pick (.tmp 40) (.tmp 43) (.const (.bool false))), (some (36, false))⟩,
  ⟨(some 45), (.pick (.tmp 36) (.const (.bool true)) (.tmp 44)), none⟩]
attribute [go_sem] r62_5
def k62_1 : PC := (.post (.reg r62_5) ⟨[0, 1, 4, 6, 7, 45], [.old 0, .old 1, .old 2], [], []⟩)
def r62_9 : List PO := [⟨(some 54), (.move (.tmp 7)), none⟩,
  ⟨(some 55), (.binOp .gtr 3 (.tmp 54) (.const (.int .i64 0)) 3), none⟩]
attribute [go_sem] r62_9
def r62_11 : List PO := [⟨(some 59), (.move (.tmp 0)), none⟩,
  ⟨(some 60), (.move (.tmp 1)), none⟩,
  ⟨(some 61), (.call { callee := (.value (.func 62)), args := #[(.tmp 59), (.tmp 60)], argTypes := #[27, 3] }), none⟩,
  ⟨(some 58), (.move (.tmp 61)), none⟩,
  ⟨(some 62), (.extract (.tmp 58) 0), none⟩,
  ⟨(some 63), (.extract (.tmp 58) 1), none⟩,
  ⟨(some 9), (.alloc 56), none⟩,
  ⟨none, (.store 56 (.tmp 9) (.tmp 62)), none⟩,
  ⟨(some 10), (.assign (.tmp 63)), none⟩]
attribute [go_sem] r62_11
def r62_12 : List PO := [⟨(some 64), (.move (.tmp 10)), none⟩,
  ⟨(some 65), (.binOp .eql 3 (.tmp 64) (.const (.int .i64 0)) 3), none⟩]
attribute [go_sem] r62_12
def r62_13 : List PO := [⟨(some 66), (.build 56 #[]), none⟩,
  ⟨none, (.store 56 (.tmp 4) (.tmp 66)), none⟩,
  ⟨(some 5), (.assign (.const (.int .i64 0))), none⟩]
attribute [go_sem] r62_13
def r62_14 : List PO := [⟨(some 67), (.fieldAddr 56 (.tmp 8) 2), none⟩,
  ⟨(some 68), (.load 54 (.tmp 67)), none⟩,
  ⟨(some 69), (.load 56 (.tmp 9)), none⟩,
  ⟨(some 70), (.buildSlice 54 1 #[(0, (.tmp 69))]), none⟩,
  ⟨(some 71), (.call { callee := (.builtin .append), args := #[(.tmp 68), (.tmp 70)], argTypes := #[54, 54] }), none⟩,
  ⟨(some 72), (.fieldAddr 56 (.tmp 8) 2), none⟩,
  ⟨none, (.store 54 (.tmp 72) (.tmp 71)), none⟩]
attribute [go_sem] r62_14
def r62_15 : List PO := [⟨(some 73), (.move (.tmp 10)), none⟩,
  ⟨(some 1), (.assign (.tmp 73)), none⟩]
attribute [go_sem] r62_15
def r62_10 : List PO := [⟨(some 56), (.move (.tmp 7)), none⟩,
  ⟨(some 57), (.binOp .sub 3 (.tmp 56) (.const (.int .i64 1)) 3), none⟩,
  ⟨(some 7), (.assign (.tmp 57)), none⟩]
attribute [go_sem] r62_10
def k62_2b : PC := (.seq (.seq (.reg r62_9) (.cond (.tmp 55) .skip (.pre ⟨[1, 4, 8], [.old 0, .old 1, .old 2, .old 3], [], []⟩ (.exit 0)))) (.seq (.block 1 (.seq (.reg r62_11) (.seq (.seq (.reg r62_12) (.cond (.tmp 65) (.seq (.reg r62_13) (.pre ⟨[4, 5], [.old 0, .nilB 0 2 3], [], []⟩ .ret)) .skip)) (.seq (.reg r62_14) (.reg r62_15))))) (.post (.reg r62_10) ⟨[0, 1, 4, 7, 8], [.old 0, .old 1, .old 2, .old 7], [], []⟩)))
def r62_0 : List PO := [⟨(some 4), (.alloc 56), none⟩,
  ⟨(some 5), (.assign (.const (.int .i64 0))), none⟩]
attribute [go_sem] r62_0
def r62_1 : List PO := [⟨(some 11), (.move (.tmp 1)), none⟩,
  ⟨(some 12), (.move (.tmp 0)), none⟩,
  ⟨(some 13), (.call { callee := (.builtin .len), args := #[(.tmp 12)], argTypes := #[27] }), none⟩,
  ⟨(some 14), (.binOp .geq 3 (.tmp 11) (.tmp 13) 3), none⟩]
attribute [go_sem] r62_1
def r62_2 : List PO := [⟨(some 15), (.build 56 #[]), none⟩,
  ⟨none, (.store 56 (.tmp 4) (.tmp 15)), none⟩,
  ⟨(some 5), (.assign (.const (.int .i64 0))), none⟩]
attribute [go_sem] r62_2
def r62_3 : List PO := [⟨(some 16), (.move (.tmp 0)), none⟩,
  ⟨(some 17), (.move (.tmp 1)), none⟩,
  ⟨(some 18), (.indexAddr 27 (.tmp 16) (.tmp 17)), none⟩,
  ⟨(some 19), (.load 63 (.tmp 18)), none⟩,
  ⟨(some 6), (.alloc 63), none⟩,
  ⟨none, (.store 63 (.tmp 6) (.tmp 19)), none⟩]
attribute [go_sem] r62_3
def r62_4 : List PO := [⟨(some 20), (.fieldAddr 63 (.tmp 6) 0), none⟩,
  ⟨(some 21), (.load 3 (.tmp 20)), none⟩,
  ⟨(some 22), (.call { callee := (.value (.func 78)), args := #[(.tmp 21)], argTypes := #[3] }), none⟩,
  ⟨(some 7), (.assign (.tmp 22)), none⟩]
attribute [go_sem] r62_4
def r62_6 : List PO := [⟨(some 46), (.build 56 #[]), none⟩,
  ⟨none, (.store 56 (.tmp 4) (.tmp 46)), none⟩,
  ⟨(some 5), (.assign (.const (.int .i64 0))), none⟩]
attribute [go_sem] r62_6
def r62_7 : List PO := [⟨(some 47), (.fieldAddr 63 (.tmp 6) 0), none⟩,
  ⟨(some 48), (.load 3 (.tmp 47)), none⟩,
  ⟨(some 49), (.fieldAddr 63 (.tmp 6) 1), none⟩,
  ⟨(some 50), (.load 3 (.tmp 49)), none⟩,
  ⟨(some 51), (.build 56 #[(0, (.tmp 48)), (1, (.tmp 50))]), none⟩,
  ⟨(some 8), (.alloc 56), none⟩,
  ⟨none, (.store 56 (.tmp 8) (.tmp 51)), none⟩]
attribute [go_sem] r62_7
def r62_8 : List PO := [⟨(some 52), (.move (.tmp 1)), none⟩,
  ⟨(some 53), (.binOp .add 3 (.tmp 52) (.const (.int .i64 1)) 3), none⟩,
  ⟨(some 1), (.assign (.tmp 53)), none⟩]
attribute [go_sem] r62_8
def r62_16 : List PO := [⟨(some 74), (.load 56 (.tmp 8)), none⟩,
  ⟨(some 75), (.move (.tmp 1)), none⟩,
  ⟨none, (.store 56 (.tmp 4) (.tmp 74)), none⟩,
  ⟨(some 5), (.assign (.tmp 75)), none⟩]
attribute [go_sem] r62_16
def c62 : PC := (.seq (.reg r62_0) (.seq (.seq (.reg r62_1) (.cond (.tmp 14) (.seq (.reg r62_2) .ret) .skip)) (.seq (.reg r62_3) (.seq (.reg r62_4) (.seq (.seq (.pre ⟨[0, 1, 4, 6, 7], [.old 0, .nilB 0 2 3, .old 1], [], []⟩ k62_1) (.cond (.tmp 45) (.seq (.reg r62_6) .ret) .skip)) (.seq (.reg r62_7) (.seq (.reg r62_8) (.seq (.block 0 (.pre ⟨[0, 1, 4, 7, 8], [.old 0, .old 1, .old 3, .nilB 3 2 3], [], []⟩ (.loop k62_2b))) (.seq (.reg r62_16) .ret)))))))))
def i62 : FnI := ⟨76, [(.cell 4 56), (.tmp 5)], c62, 0, [[2], [0]], [[0, 0, 3], [0]], false, false, 0, false⟩
-- loop.example/g00344/spec.l6Tree
def r28_4 : List PO := [⟨(some 15), (.load 56 (.tmp 4)), none⟩,
  ⟨(some 16), (.move (.tmp 5)), none⟩,
  ⟨(some 17), (.binOp .gtr 3 (.tmp 16) (.const (.int .i64 0)) 3), none⟩,
  ⟨(some 18), (.move (.tmp 17)), none⟩,
  ⟨(some 19), (.move (.tmp 5)), (some (18, true))⟩,
  ⟨(some 20), (.move (.tmp 0)), (some (18, true))⟩,
  ⟨(some 21), (.call { callee := (.builtin .len), args := #[(.tmp 20)], argTypes := #[27] }), (some (18, true))⟩,
  ⟨(some 22), (.binOp .eql 3 (.tmp 19) (.tmp 21) 3), (some (18, true))⟩,
  ⟨(some 23), (.pick (.tmp 18) (.tmp 22) (.const (.bool false))), none⟩,
  ⟨none, (.store 56 (.tmp 2) (.tmp 15)), none⟩,
  ⟨(some 3), (.assign (.tmp 23)), none⟩]
attribute [go_sem] r28_4
def k28_1 : PC := (.post (.reg r28_4) ⟨[2, 3], [.old 0, .old 3], [], []⟩)
def r28_0 : List PO := [⟨(some 2), (.alloc 56), none⟩,
  ⟨(some 3), (.assign (.const (.bool false))), none⟩]
attribute [go_sem] r28_0
def r28_1 : List PO := [⟨(some 6), (.move (.tmp 0)), none⟩,
  ⟨(some 7), (.call { callee := (.builtin .len), args := #[(.tmp 6)], argTypes := #[27] }), none⟩,
  ⟨(some 8), (.binOp .gtr 3 (.tmp 7) (.const (.int .i64 30)) 3), none⟩]
attribute [go_sem] r28_1
def r28_2 : List PO := [⟨(some 9), (.build 56 #[]), none⟩,
  ⟨none, (.store 56 (.tmp 2) (.tmp 9)), none⟩,
  ⟨(some 3), (.assign (.const (.bool false))), none⟩]
attribute [go_sem] r28_2
def r28_3 : List PO := [⟨(some 11), (.move (.tmp 0)), none⟩,
  ⟨(some 12), (.call { callee := (.value (.func 62)), args := #[(.tmp 11), (.const (.int .i64 0))], argTypes := #[27, 3] }), none⟩,
  ⟨(some 10), (.move (.tmp 12)), none⟩,
  ⟨(some 13), (.extract (.tmp 10) 0), none⟩,
  ⟨(some 14), (.extract (.tmp 10) 1), none⟩,
  ⟨(some 4), (.alloc 56), none⟩,
  ⟨none, (.store 56 (.tmp 4) (.tmp 13)), none⟩,
  ⟨(some 5), (.assign (.tmp 14)), none⟩]
attribute [go_sem] r28_3
def c28 : PC := (.seq (.reg r28_0) (.seq (.seq (.reg r28_1) (.cond (.tmp 8) (.seq (.reg r28_2) .ret) .skip)) (.seq (.reg r28_3) (.seq (.pre ⟨[0, 2, 4, 5], [.old 0, .nilB 0 2 3, .old 2, .old 1], [], []⟩ k28_1) .ret))))
def i28 : FnI := ⟨24, [(.cell 2 56), (.tmp 3)], c28, 0, [[2]], [[0, 0, 3], [0]], false, false, 0, false⟩
-- loop.example/g00344/spec.l6Path
def r29_2 : List PO := [⟨(some 8), (.binOp .lss 3 (.tmp 7) (.tmp 6) 3), none⟩]
attribute [go_sem] r29_2
def r29_3 : List PO := [⟨(some 9), (.indexAddr 23 (.tmp 5) (.tmp 7)), none⟩,
  ⟨(some 10), (.load 3 (.tmp 9)), none⟩,
  ⟨(some 4), (.assign (.tmp 10)), none⟩]
attribute [go_sem] r29_3
def r29_4 : List PO := [⟨(some 11), (.move (.tmp 4)), none⟩,
  ⟨(some 12), (.call { callee := (.value (.func 36)), args := #[(.tmp 11), (.const (.int .i64 1)), (.const (.int .i64 65535))], argTypes := #[3, 3, 3] }), none⟩,
  ⟨(some 13), (.unOp .not 4 (.tmp 12)), none⟩]
attribute [go_sem] r29_4
def r29_5 : List PO := [⟨(some 2), (.assign (.const (.bool false))), none⟩]
attribute [go_sem] r29_5
def r29_6 : List PO := [⟨(some 14), (.binOp .add 3 (.tmp 7) (.const (.int .i64 1)) 3), none⟩,
  ⟨(some 7), (.move (.tmp 14)), none⟩]
attribute [go_sem] r29_6
def k29_1b : PC := (.seq (.reg r29_2) (.seq (.cond (.tmp 8) .skip (.pre ⟨[0], [], [], []⟩ (.exit 0))) (.seq (.block 1 (.seq (.reg r29_3) (.seq (.reg r29_4) (.cond (.tmp 13) (.seq (.reg r29_5) (.pre ⟨[2], [], [], []⟩ .ret)) .skip)))) (.post (.reg r29_6) ⟨[0, 5, 6, 7], [], [], []⟩))))
def r29_0 : List PO := [⟨(some 2), (.assign (.const (.bool false))), none⟩]
attribute [go_sem] r29_0
def r29_1 : List PO := [⟨(some 5), (.move (.tmp 0)), none⟩,
  ⟨(some 6), (.call { callee := (.builtin .len), args := #[(.tmp 5)], argTypes := #[23] }), none⟩,
  ⟨(some 7), (.move (.const (.int .i64 0))), none⟩]
attribute [go_sem] r29_1
def r29_7 : List PO := [⟨(some 15), (.move (.tmp 0)), none⟩,
  ⟨(some 16), (.call { callee := (.builtin .len), args := #[(.tmp 15)], argTypes := #[23] }), none⟩,
  ⟨(some 17), (.binOp .leq 3 (.tmp 16) (.const (.int .i64 10)) 3), none⟩,
  ⟨(some 2), (.assign (.tmp 17)), none⟩]
attribute [go_sem] r29_7
def c29 : PC := (.seq (.reg r29_0) (.seq (.seq (.reg r29_1) (.block 0 (.pre ⟨[0, 5, 6, 7], [], [], []⟩ (.loop k29_1b)))) (.seq (.reg r29_7) .ret)))
def i29 : FnI := ⟨18, [(.tmp 2)], c29, 0, [[1]], [[0]], false, false, 0, false⟩
-- loop.example/g00344/spec.l1Put
def r61_2 : List PO := [⟨(some 7), (.move (.tmp 5)), none⟩,
  ⟨(some 8), (.move (.tmp 0)), none⟩,
  ⟨(some 9), (.call { callee := (.builtin .len), args := #[(.tmp 8)], argTypes := #[23] }), none⟩,
  ⟨(some 10), (.binOp .lss 3 (.tmp 7) (.tmp 9) 3), none⟩,
  ⟨(some 11), (.move (.tmp 10)), none⟩,
  ⟨(some 12), (.move (.tmp 0)), (some (11, true))⟩,
  ⟨(some 13), (.move (.tmp 5)), (some (11, true))⟩,
  ⟨(some 14), (.indexAddr 23 (.tmp 12) (.tmp 13)), (some (11, true))⟩,
  ⟨(some 15), (.load 3 (.tmp 14)), (some (11, true))⟩,
  ⟨(some 16), (.move (.tmp 1)), (some (11, true))⟩,
  ⟨(some 17), (.binOp .lss 3 (.tmp 15) (.tmp 16) 3), (some (11, true))⟩,
  ⟨(some 18), (.pick (.tmp 11) (.tmp 17) (.const (.bool false))), none⟩]
attribute [go_sem] r61_2
def k61_3 : PC := (.post (.reg r61_2) ⟨[0, 1, 5, 18], [.old 1], [0], []⟩)
def r61_3 : List PO := [⟨(some 19), (.move (.tmp 5)), none⟩,
  ⟨(some 20), (.binOp .add 3 (.tmp 19) (.const (.int .i64 1)) 3), none⟩,
  ⟨(some 5), (.assign (.tmp 20)), none⟩]
attribute [go_sem] r61_3
def k61_1b : PC := (.seq (.seq (.pre ⟨[0, 1, 5], [.old 1], [0], []⟩ k61_3) (.cond (.tmp 18) .skip (.pre ⟨[0, 1, 5], [.old 1], [0], []⟩ (.exit 0)))) (.block 1 (.post (.reg r61_3) ⟨[0, 1, 5], [.old 1], [0], []⟩)))
def r61_4 : List PO := [⟨(some 21), (.move (.tmp 5)), none⟩,
  ⟨(some 22), (.move (.tmp 0)), none⟩,
  ⟨(some 23), (.call { callee := (.builtin .len), args := #[(.tmp 22)], argTypes := #[23] }), none⟩,
  ⟨(some 24), (.binOp .lss 3 (.tmp 21) (.tmp 23) 3), none⟩,
  ⟨(some 25), (.move (.tmp 24)), none⟩,
  ⟨(some 26), (.move (.tmp 0)), (some (25, true))⟩,
  ⟨(some 27), (.move (.tmp 5)), (some (25, true))⟩,
  ⟨(some 28), (.indexAddr 23 (.tmp 26) (.tmp 27)), (some (25, true))⟩,
  ⟨(some 29), (.load 3 (.tmp 28)), (some (25, true))⟩,
  ⟨(some 30), (.move (.tmp 1)), (some (25, true))⟩,
  ⟨(some 31), (.binOp .eql 3 (.tmp 29) (.tmp 30) 3), (some (25, true))⟩,
  ⟨(some 32), (.pick (.tmp 25) (.tmp 31) (.const (.bool false))), none⟩]
attribute [go_sem] r61_4
def k61_4 : PC := (.post (.reg r61_4) ⟨[0, 1, 5, 32], [.old 1], [0], []⟩)
def r61_0 : List PO := [⟨(some 4), (.assign (.const (.slice none 0 0))), none⟩]
attribute [go_sem] r61_0
def r61_1 : List PO := [⟨(some 5), (.assign (.const (.int .i64 0))), none⟩]
attribute [go_sem] r61_1
def r61_5 : List PO := [⟨(some 33), (.move (.tmp 0)), none⟩,
  ⟨(some 4), (.assign (.tmp 33)), none⟩]
attribute [go_sem] r61_5
def r61_6 : List PO := [⟨(some 6), (.assign (.const (.slice none 0 0))), none⟩]
attribute [go_sem] r61_6
def r61_7 : List PO := [⟨(some 34), (.move (.tmp 6)), none⟩,
  ⟨(some 35), (.move (.tmp 0)), none⟩,
  ⟨(some 36), (.move (.tmp 5)), none⟩,
  ⟨(some 37), (.slice 23 (.tmp 35) none (some (.tmp 36)) none), none⟩,
  ⟨(some 38), (.call { callee := (.builtin .append), args := #[(.tmp 34), (.tmp 37)], argTypes := #[23, 23] }), none⟩,
  ⟨(some 6), (.assign (.tmp 38)), none⟩]
attribute [go_sem] r61_7
def r61_8 : List PO := [⟨(some 39), (.move (.tmp 6)), none⟩,
  ⟨(some 40), (.move (.tmp 1)), none⟩,
  ⟨(some 41), (.buildSlice 23 1 #[(0, (.tmp 40))]), none⟩,
  ⟨(some 42), (.call { callee := (.builtin .append), args := #[(.tmp 39), (.tmp 41)], argTypes := #[23, 23] }), none⟩,
  ⟨(some 6), (.assign (.tmp 42)), none⟩]
attribute [go_sem] r61_8
def r61_9 : List PO := [⟨(some 43), (.move (.tmp 6)), none⟩,
  ⟨(some 44), (.move (.tmp 0)), none⟩,
  ⟨(some 45), (.move (.tmp 5)), none⟩,
  ⟨(some 46), (.slice 23 (.tmp 44) (some (.tmp 45)) none none), none⟩,
  ⟨(some 47), (.call { callee := (.builtin .append), args := #[(.tmp 43), (.tmp 46)], argTypes := #[23, 23] }), none⟩,
  ⟨(some 4), (.assign (.tmp 47)), none⟩]
attribute [go_sem] r61_9
def c61 : PC := (.seq (.reg r61_0) (.seq (.reg r61_1) (.seq (.block 0 (.pre ⟨[0, 1, 5], [.old 0], [0], []⟩ (.loop k61_1b))) (.seq (.seq (.pre ⟨[0, 1, 5], [.old 1], [0], []⟩ k61_4) (.cond (.tmp 32) (.seq (.reg r61_5) (.pre ⟨[4], [.old 1], [0], []⟩ .ret)) .skip)) (.seq (.reg r61_6) (.seq (.reg r61_7) (.seq (.reg r61_8) (.seq (.reg r61_9) (.pre ⟨[4], [.old 5], [0], []⟩ .ret)))))))))
def i61 : FnI := ⟨48, [(.tmp 4)], c61, 3, [[1], [0]], [[1]], false, true, 1, false⟩
-- loop.example/g00344/spec.l6Ends
def r31_5 : List PO := [⟨(some 29), (.binOp .eql 3 (.tmp 22) (.const (.int .i64 4)) 3), none⟩,
  ⟨(some 27), (.assign (.tmp 29)), none⟩]
attribute [go_sem] r31_5
def k31_1 : PC := (.cond (.tmp 27) (.post .skip ⟨[1, 2, 3, 22, 27], [.old 0], [], []⟩) (.post (.reg r31_5) ⟨[1, 2, 3, 22, 27], [.old 0], [], []⟩))
def r31_6 : List PO := [⟨(some 30), (.move (.tmp 2)), none⟩,
  ⟨(some 31), (.move (.tmp 1)), none⟩,
  ⟨(some 32), (.call { callee := (.builtin .len), args := #[(.tmp 31)], argTypes := #[23] }), none⟩,
  ⟨(some 33), (.binOp .lss 3 (.tmp 30) (.tmp 32) 3), none⟩,
  ⟨(some 34), (.move (.tmp 33)), none⟩,
  ⟨(some 35), (.fieldAddr 56 (.tmp 3) 0), (some (34, true))⟩,
  ⟨(some 36), (.load 3 (.tmp 35)), (some (34, true))⟩,
  ⟨(some 37), (.binOp .eql 3 (.tmp 36) (.const (.int .i64 4)) 3), (some (34, true))⟩,
  ⟨(some 38), (.move (.tmp 37)), (some (34, true))⟩,
  ⟨(some 39), (.move (.tmp 1)), (some (38, false))⟩,
  ⟨(some 40), (.move (.tmp 2)), (some (38, false))⟩,
  ⟨(some 41), (.indexAddr 23 (.tmp 39) (.tmp 40)), (some (38, false))⟩,
  ⟨(some 42), (.load 3 (.tmp 41)), (some (38, false))⟩,
  ⟨(some 43), (.fieldAddr 56 (.tmp 3) 1), (some (38, false))⟩,
  ⟨(some 44), (.load 3 (.tmp 43)), (some (38, false))⟩,
  ⟨(some 45), (.binOp .eql 3 (.tmp 42) (.tmp 44) 3), (some (38, false))⟩,
  ⟨(some 46), (.pick (.tmp 38) (.const (.bool true)) (.tmp 45)), (some (34, true))⟩,
  ⟨(some 47), (.pick (.tmp 34) (.tmp 46) (.const (.bool false))), none⟩]
attribute [go_sem] r31_6
def k31_3 : PC := (.post (.fz r31_6) ⟨[2, 47], [], [], []⟩)
def r31_11 : List PO := [⟨(some 69), (.binOp .lss 3 (.tmp 68) (.tmp 67) 3), none⟩]
attribute [go_sem] r31_11
def r31_12 : List PO := [⟨(some 70), (.indexAddr 23 (.tmp 66) (.tmp 68)), none⟩,
  ⟨(some 71), (.load 3 (.tmp 70)), none⟩,
  ⟨(some 9), (.assign (.tmp 71)), none⟩]
attribute [go_sem] r31_12
def r31_13 : List PO := [⟨(some 72), (.move (.tmp 7)), none⟩,
  ⟨(some 73), (.move (.tmp 9)), none⟩,
  ⟨(some 74), (.call { callee := (.value (.func 61)), args := #[(.tmp 72), (.tmp 73)], argTypes := #[23, 3] }), none⟩,
  ⟨(some 7), (.assign (.tmp 74)), none⟩]
attribute [go_sem] r31_13
def r31_14 : List PO := [⟨(some 75), (.binOp .add 3 (.tmp 68) (.const (.int .i64 1)) 3), none⟩,
  ⟨(some 68), (.move (.tmp 75)), none⟩]
attribute [go_sem] r31_14
def k31_4b : PC := (.seq (.reg r31_11) (.seq (.cond (.tmp 69) .skip (.pre ⟨[7], [.old 0], [], []⟩ (.exit 1))) (.seq (.block 2 (.seq (.reg r31_12) (.reg r31_13))) (.post (.reg r31_14) ⟨[7, 66, 67, 68], [.old 2, .old 1], [], []⟩))))
def r31_22 : List PO := [⟨(some 100), (.binOp .lss 3 (.tmp 99) (.tmp 98) 3), none⟩]
attribute [go_sem] r31_22
def r31_23 : List PO := [⟨(some 101), (.indexAddr 23 (.tmp 97) (.tmp 99)), none⟩,
  ⟨(some 102), (.load 3 (.tmp 101)), none⟩,
  ⟨(some 14), (.assign (.tmp 102)), none⟩]
attribute [go_sem] r31_23
def r31_24 : List PO := [⟨(some 103), (.move (.tmp 10)), none⟩,
  ⟨(some 104), (.move (.tmp 14)), none⟩,
  ⟨(some 105), (.call { callee := (.value (.func 61)), args := #[(.tmp 103), (.tmp 104)], argTypes := #[23, 3] }), none⟩,
  ⟨(some 10), (.assign (.tmp 105)), none⟩]
attribute [go_sem] r31_24
def r31_25 : List PO := [⟨(some 106), (.binOp .add 3 (.tmp 99) (.const (.int .i64 1)) 3), none⟩,
  ⟨(some 99), (.move (.tmp 106)), none⟩]
attribute [go_sem] r31_25
def k31_7b : PC := (.seq (.reg r31_22) (.seq (.cond (.tmp 100) .skip (.pre ⟨[1, 3, 10, 85, 86, 87], [.old 0, .old 1, .old 2], [], []⟩ (.exit 5))) (.seq (.block 6 (.seq (.reg r31_23) (.reg r31_24))) (.post (.reg r31_25) ⟨[1, 3, 10, 85, 86, 87, 97, 98, 99], [.old 0, .old 4, .old 2, .old 3], [], []⟩))))
def r31_19 : List PO := [⟨(some 88), (.binOp .lss 3 (.tmp 87) (.tmp 86) 3), none⟩]
attribute [go_sem] r31_19
def r31_20 : List PO := [⟨(some 89), (.indexAddr 23 (.tmp 85) (.tmp 87)), none⟩,
  ⟨(some 90), (.load 3 (.tmp 89)), none⟩,
  ⟨(some 12), (.assign (.tmp 90)), none⟩]
attribute [go_sem] r31_20
def r31_21 : List PO := [⟨(some 91), (.fieldAddr 56 (.tmp 3) 2), none⟩,
  ⟨(some 92), (.load 54 (.tmp 91)), none⟩,
  ⟨(some 93), (.indexAddr 54 (.tmp 92) (.const (.int .i64 1))), none⟩,
  ⟨(some 94), (.load 56 (.tmp 93)), none⟩,
  ⟨(some 95), (.move (.tmp 1)), none⟩,
  ⟨(some 96), (.move (.tmp 12)), none⟩,
  ⟨(some 97), (.call { callee := (.value (.func 31)), args := #[(.tmp 94), (.tmp 95), (.tmp 96)], argTypes := #[56, 23, 3] }), none⟩,
  ⟨(some 98), (.call { callee := (.builtin .len), args := #[(.tmp 97)], argTypes := #[23] }), none⟩,
  ⟨(some 99), (.move (.const (.int .i64 0))), none⟩]
attribute [go_sem] r31_21
def r31_26 : List PO := [⟨(some 107), (.binOp .add 3 (.tmp 87) (.const (.int .i64 1)) 3), none⟩,
  ⟨(some 87), (.move (.tmp 107)), none⟩]
attribute [go_sem] r31_26
def k31_5b : PC := (.seq (.reg r31_19) (.seq (.cond (.tmp 88) .skip (.pre ⟨[10], [.old 1], [], []⟩ (.exit 3))) (.seq (.block 4 (.seq (.reg r31_20) (.seq (.reg r31_21) (.block 5 (.pre ⟨[1, 3, 10, 85, 86, 87, 97, 98, 99], [.old 0, .old 1, .old 2, .old 3], [], []⟩ (.loop k31_7b)))))) (.post (.reg r31_26) ⟨[1, 3, 10, 85, 86, 87], [.old 0, .old 1, .old 2], [], []⟩))))
def r31_35 : List PO := [⟨(some 132), (.binOp .lss 3 (.tmp 131) (.tmp 130) 3), none⟩]
attribute [go_sem] r31_35
def r31_36 : List PO := [⟨(some 133), (.indexAddr 23 (.tmp 129) (.tmp 131)), none⟩,
  ⟨(some 134), (.load 3 (.tmp 133)), none⟩,
  ⟨(some 20), (.assign (.tmp 134)), none⟩]
attribute [go_sem] r31_36
def r31_37 : List PO := [⟨(some 135), (.move (.tmp 15)), none⟩,
  ⟨(some 136), (.move (.tmp 20)), none⟩,
  ⟨(some 137), (.call { callee := (.value (.func 61)), args := #[(.tmp 135), (.tmp 136)], argTypes := #[23, 3] }), none⟩,
  ⟨(some 15), (.assign (.tmp 137)), none⟩]
attribute [go_sem] r31_37
def r31_38 : List PO := [⟨(some 138), (.binOp .add 3 (.tmp 131) (.const (.int .i64 1)) 3), none⟩,
  ⟨(some 131), (.move (.tmp 138)), none⟩]
attribute [go_sem] r31_38
def k31_14b : PC := (.seq (.reg r31_35) (.seq (.cond (.tmp 132) .skip (.pre ⟨[1, 3, 15, 16, 117, 118, 119], [.old 0, .old 1, .old 2], [], []⟩ (.exit 11))) (.seq (.block 12 (.seq (.reg r31_36) (.reg r31_37))) (.post (.reg r31_38) ⟨[1, 3, 15, 16, 117, 118, 119, 129, 130, 131], [.old 0, .old 4, .old 2, .old 3], [], []⟩))))
def r31_32 : List PO := [⟨(some 120), (.binOp .lss 3 (.tmp 119) (.tmp 118) 3), none⟩]
attribute [go_sem] r31_32
def r31_33 : List PO := [⟨(some 121), (.indexAddr 23 (.tmp 117) (.tmp 119)), none⟩,
  ⟨(some 122), (.load 3 (.tmp 121)), none⟩,
  ⟨(some 18), (.assign (.tmp 122)), none⟩]
attribute [go_sem] r31_33
def r31_34 : List PO := [⟨(some 123), (.fieldAddr 56 (.tmp 3) 2), none⟩,
  ⟨(some 124), (.load 54 (.tmp 123)), none⟩,
  ⟨(some 125), (.indexAddr 54 (.tmp 124) (.const (.int .i64 0))), none⟩,
  ⟨(some 126), (.load 56 (.tmp 125)), none⟩,
  ⟨(some 127), (.move (.tmp 1)), none⟩,
  ⟨(some 128), (.move (.tmp 18)), none⟩,
  ⟨(some 129), (.call { callee := (.value (.func 31)), args := #[(.tmp 126), (.tmp 127), (.tmp 128)], argTypes := #[56, 23, 3] }), none⟩,
  ⟨(some 130), (.call { callee := (.builtin .len), args := #[(.tmp 129)], argTypes := #[23] }), none⟩,
  ⟨(some 131), (.move (.const (.int .i64 0))), none⟩]
attribute [go_sem] r31_34
def r31_39 : List PO := [⟨(some 139), (.binOp .add 3 (.tmp 119) (.const (.int .i64 1)) 3), none⟩,
  ⟨(some 119), (.move (.tmp 139)), none⟩]
attribute [go_sem] r31_39
def k31_12b : PC := (.seq (.reg r31_32) (.seq (.cond (.tmp 120) .skip (.pre ⟨[1, 3, 15, 16], [.old 0, .old 1], [], []⟩ (.exit 9))) (.seq (.block 10 (.seq (.reg r31_33) (.seq (.reg r31_34) (.block 11 (.pre ⟨[1, 3, 15, 16, 117, 118, 119, 129, 130, 131], [.old 0, .old 1, .old 2, .old 3], [], []⟩ (.loop k31_14b)))))) (.post (.reg r31_39) ⟨[1, 3, 15, 16, 117, 118, 119], [.old 0, .old 1, .old 2], [], []⟩))))
def r31_30 : List PO := [⟨(some 113), (.move (.tmp 15)), none⟩,
  ⟨(some 114), (.call { callee := (.builtin .len), args := #[(.tmp 113)], argTypes := #[23] }), none⟩,
  ⟨(some 16), (.assign (.tmp 114)), none⟩]
attribute [go_sem] r31_30
def r31_31 : List PO := [⟨(some 115), (.buildSlice 23 0 #[]), none⟩,
  ⟨(some 116), (.move (.tmp 15)), none⟩,
  ⟨(some 117), (.call { callee := (.builtin .append), args := #[(.tmp 115), (.tmp 116)], argTypes := #[23, 23] }), none⟩,
  ⟨(some 118), (.call { callee := (.builtin .len), args := #[(.tmp 117)], argTypes := #[23] }), none⟩,
  ⟨(some 119), (.move (.const (.int .i64 0))), none⟩]
attribute [go_sem] r31_31
def r31_40 : List PO := [⟨(some 140), (.move (.tmp 15)), none⟩,
  ⟨(some 141), (.call { callee := (.builtin .len), args := #[(.tmp 140)], argTypes := #[23] }), none⟩,
  ⟨(some 142), (.move (.tmp 16)), none⟩,
  ⟨(some 143), (.binOp .eql 3 (.tmp 141) (.tmp 142) 3), none⟩]
attribute [go_sem] r31_40
def r31_41 : List PO := [⟨(some 144), (.move (.tmp 15)), none⟩,
  ⟨(some 6), (.assign (.tmp 144)), none⟩]
attribute [go_sem] r31_41
def k31_8b : PC := (.block 8 (.seq (.reg r31_30) (.seq (.seq (.reg r31_31) (.block 9 (.pre ⟨[1, 3, 15, 16, 117, 118, 119], [.old 0, .old 1, .old 3], [], []⟩ (.loop k31_12b)))) (.seq (.reg r31_40) (.cond (.tmp 143) (.seq (.reg r31_41) (.pre ⟨[6], [.old 1], [], []⟩ .ret)) (.post .skip ⟨[1, 3, 15], [.old 0, .old 1], [], []⟩))))))
def r31_7 : List PO := [⟨(some 48), (.move (.tmp 2)), none⟩,
  ⟨(some 49), (.binOp .add 3 (.tmp 48) (.const (.int .i64 1)) 3), none⟩,
  ⟨(some 50), (.buildSlice 23 1 #[(0, (.tmp 49))]), none⟩,
  ⟨(some 6), (.assign (.tmp 50)), none⟩]
attribute [go_sem] r31_7
def r31_8 : List PO := [⟨(some 52), (.binOp .eql 3 (.tmp 22) (.const (.int .i64 6)) 3), none⟩,
  ⟨(some 51), (.assign (.tmp 52)), none⟩]
attribute [go_sem] r31_8
def r31_9 : List PO := [⟨(some 53), (.fieldAddr 56 (.tmp 3) 2), none⟩,
  ⟨(some 54), (.load 54 (.tmp 53)), none⟩,
  ⟨(some 55), (.indexAddr 54 (.tmp 54) (.const (.int .i64 0))), none⟩,
  ⟨(some 56), (.load 56 (.tmp 55)), none⟩,
  ⟨(some 57), (.move (.tmp 1)), none⟩,
  ⟨(some 58), (.move (.tmp 2)), none⟩,
  ⟨(some 59), (.call { callee := (.value (.func 31)), args := #[(.tmp 56), (.tmp 57), (.tmp 58)], argTypes := #[56, 23, 3] }), none⟩,
  ⟨(some 7), (.assign (.tmp 59)), none⟩]
attribute [go_sem] r31_9
def r31_10 : List PO := [⟨(some 60), (.fieldAddr 56 (.tmp 3) 2), none⟩,
  ⟨(some 61), (.load 54 (.tmp 60)), none⟩,
  ⟨(some 62), (.indexAddr 54 (.tmp 61) (.const (.int .i64 1))), none⟩,
  ⟨(some 63), (.load 56 (.tmp 62)), none⟩,
  ⟨(some 64), (.move (.tmp 1)), none⟩,
  ⟨(some 65), (.move (.tmp 2)), none⟩,
  ⟨(some 66), (.call { callee := (.value (.func 31)), args := #[(.tmp 63), (.tmp 64), (.tmp 65)], argTypes := #[56, 23, 3] }), none⟩,
  ⟨(some 67), (.call { callee := (.builtin .len), args := #[(.tmp 66)], argTypes := #[23] }), none⟩,
  ⟨(some 68), (.move (.const (.int .i64 0))), none⟩]
attribute [go_sem] r31_10
def r31_15 : List PO := [⟨(some 76), (.move (.tmp 7)), none⟩,
  ⟨(some 6), (.assign (.tmp 76)), none⟩]
attribute [go_sem] r31_15
def r31_16 : List PO := [⟨(some 78), (.binOp .eql 3 (.tmp 22) (.const (.int .i64 5)) 3), none⟩,
  ⟨(some 77), (.assign (.tmp 78)), none⟩]
attribute [go_sem] r31_16
def r31_17 : List PO := [⟨(some 10), (.assign (.const (.slice none 0 0))), none⟩]
attribute [go_sem] r31_17
def r31_18 : List PO := [⟨(some 79), (.fieldAddr 56 (.tmp 3) 2), none⟩,
  ⟨(some 80), (.load 54 (.tmp 79)), none⟩,
  ⟨(some 81), (.indexAddr 54 (.tmp 80) (.const (.int .i64 0))), none⟩,
  ⟨(some 82), (.load 56 (.tmp 81)), none⟩,
  ⟨(some 83), (.move (.tmp 1)), none⟩,
  ⟨(some 84), (.move (.tmp 2)), none⟩,
  ⟨(some 85), (.call { callee := (.value (.func 31)), args := #[(.tmp 82), (.tmp 83), (.tmp 84)], argTypes := #[56, 23, 3] }), none⟩,
  ⟨(some 86), (.call { callee := (.builtin .len), args := #[(.tmp 85)], argTypes := #[23] }), none⟩,
  ⟨(some 87), (.move (.const (.int .i64 0))), none⟩]
attribute [go_sem] r31_18
def r31_27 : List PO := [⟨(some 108), (.move (.tmp 10)), none⟩,
  ⟨(some 6), (.assign (.tmp 108)), none⟩]
attribute [go_sem] r31_27
def r31_28 : List PO := [⟨(some 110), (.binOp .eql 3 (.tmp 22) (.const (.int .i64 7)) 3), none⟩,
  ⟨(some 109), (.assign (.tmp 110)), none⟩]
attribute [go_sem] r31_28
def r31_29 : List PO := [⟨(some 111), (.move (.tmp 2)), none⟩,
  ⟨(some 112), (.buildSlice 23 1 #[(0, (.tmp 111))]), none⟩,
  ⟨(some 15), (.assign (.tmp 112)), none⟩]
attribute [go_sem] r31_29
def k31_2 : PC := (.cond (.tmp 27) (.seq (.pre ⟨[1, 2, 3], [.old 0], [], []⟩ k31_3) (.cond (.tmp 47) (.seq (.reg r31_7) (.pre ⟨[6], [.old 0], [], []⟩ .ret)) (.post .skip ⟨[], [], [], []⟩))) (.seq (.reg r31_8) (.cond (.tmp 51) (.seq (.reg r31_9) (.seq (.seq (.reg r31_10) (.block 1 (.pre ⟨[7, 66, 67, 68], [.old 1, .old 2], [], []⟩ (.loop k31_4b)))) (.seq (.reg r31_15) (.pre ⟨[6], [.old 0], [], []⟩ .ret)))) (.seq (.reg r31_16) (.cond (.tmp 77) (.seq (.reg r31_17) (.seq (.seq (.reg r31_18) (.block 3 (.pre ⟨[1, 3, 10, 85, 86, 87], [.old 0, .nilT 10 0 1, .old 1], [], []⟩ (.loop k31_5b)))) (.seq (.reg r31_27) (.pre ⟨[6], [.old 0], [], []⟩ .ret)))) (.seq (.reg r31_28) (.cond (.tmp 109) (.seq (.reg r31_29) (.block 7 (.pre ⟨[1, 3, 15], [.old 0, .old 1], [], []⟩ (.loop k31_8b)))) (.post .skip ⟨[], [], [], []⟩))))))))
def r31_0 : List PO := [⟨(some 3), (.box 56 (.tmp 0)), none⟩,
  ⟨(some 6), (.assign (.const (.slice none 0 0))), none⟩]
attribute [go_sem] r31_0
def r31_1 : List PO := [⟨(some 21), (.fieldAddr 56 (.tmp 3) 0), none⟩,
  ⟨(some 22), (.load 3 (.tmp 21)), none⟩]
attribute [go_sem] r31_1
def r31_2 : List PO := [⟨(some 24), (.binOp .eql 3 (.tmp 22) (.const (.int .i64 2)) 3), none⟩,
  ⟨(some 23), (.assign (.tmp 24)), none⟩]
attribute [go_sem] r31_2
def r31_3 : List PO := [⟨(some 25), (.move (.tmp 2)), none⟩,
  ⟨(some 26), (.buildSlice 23 1 #[(0, (.tmp 25))]), none⟩,
  ⟨(some 6), (.assign (.tmp 26)), none⟩]
attribute [go_sem] r31_3
def r31_4 : List PO := [⟨(some 28), (.binOp .eql 3 (.tmp 22) (.const (.int .i64 3)) 3), none⟩,
  ⟨(some 27), (.assign (.tmp 28)), none⟩]
attribute [go_sem] r31_4
def r31_42 : List PO := [⟨(some 6), (.assign (.const (.slice none 0 0))), none⟩]
attribute [go_sem] r31_42
def c31 : PC := (.seq (.reg r31_0) (.seq (.seq (.reg r31_1) (.block 0 (.seq (.reg r31_2) (.cond (.tmp 23) (.seq (.reg r31_3) .ret) (.seq (.seq (.reg r31_4) (.pre ⟨[1, 2, 3, 22, 27], [.old 0], [], []⟩ k31_1)) (.pre ⟨[1, 2, 3, 22, 27], [.old 0], [], []⟩ k31_2)))))) (.seq (.reg r31_42) .ret)))
def i31 : FnI := ⟨145, [(.tmp 6)], c31, 0, [[0, 0, 3], [1], [0]], [[1]], false, false, 0, false⟩
-- loop.example/g00344/spec.l1Has
def r30_2 : List PO := [⟨(some 10), (.binOp .lss 3 (.tmp 9) (.tmp 8) 3), none⟩]
attribute [go_sem] r30_2
def r30_3 : List PO := [⟨(some 11), (.indexAddr 23 (.tmp 7) (.tmp 9)), none⟩,
  ⟨(some 12), (.load 3 (.tmp 11)), none⟩,
  ⟨(some 6), (.assign (.tmp 12)), none⟩]
attribute [go_sem] r30_3
def r30_4 : List PO := [⟨(some 13), (.move (.tmp 6)), none⟩,
  ⟨(some 14), (.move (.tmp 1)), none⟩,
  ⟨(some 15), (.binOp .eql 3 (.tmp 13) (.tmp 14) 3), none⟩]
attribute [go_sem] r30_4
def r30_5 : List PO := [⟨(some 4), (.assign (.const (.bool true))), none⟩]
attribute [go_sem] r30_5
def r30_6 : List PO := [⟨(some 16), (.binOp .add 3 (.tmp 9) (.const (.int .i64 1)) 3), none⟩,
  ⟨(some 9), (.move (.tmp 16)), none⟩]
attribute [go_sem] r30_6
def k30_1b : PC := (.seq (.reg r30_2) (.seq (.cond (.tmp 10) .skip (.pre ⟨[], [], [], []⟩ (.exit 0))) (.seq (.block 1 (.seq (.reg r30_3) (.seq (.reg r30_4) (.cond (.tmp 15) (.seq (.reg r30_5) (.pre ⟨[4], [], [], []⟩ .ret)) .skip)))) (.post (.reg r30_6) ⟨[1, 7, 8, 9], [], [], []⟩))))
def r30_0 : List PO := [⟨(some 4), (.assign (.const (.bool false))), none⟩]
attribute [go_sem] r30_0
def r30_1 : List PO := [⟨(some 7), (.move (.tmp 0)), none⟩,
  ⟨(some 8), (.call { callee := (.builtin .len), args := #[(.tmp 7)], argTypes := #[23] }), none⟩,
  ⟨(some 9), (.move (.const (.int .i64 0))), none⟩]
attribute [go_sem] r30_1
def r30_7 : List PO := [⟨(some 4), (.assign (.const (.bool false))), none⟩]
attribute [go_sem] r30_7
def c30 : PC := (.seq (.reg r30_0) (.seq (.seq (.reg r30_1) (.block 0 (.pre ⟨[1, 7, 8, 9], [], [], []⟩ (.loop k30_1b)))) (.seq (.reg r30_7) .ret)))
def i30 : FnI := ⟨17, [(.tmp 4)], c30, 0, [[1], [0]], [[0]], false, false, 0, false⟩
-- loop.example/g00344/spec.MatchPath
def r7_2 : List PO := [⟨(some 13), (.move (.tmp 7)), none⟩,
  ⟨(some 14), (.unOp .not 4 (.tmp 13)), none⟩,
  ⟨(some 15), (.move (.tmp 14)), none⟩,
  ⟨(some 16), (.move (.tmp 1)), (some (15, false))⟩,
  ⟨(some 17), (.call { callee := (.value (.func 29)), args := #[(.tmp 16)], argTypes := #[23] }), (some (15, false))⟩,
  ⟨(some 18), (.unOp .not 4 (.tmp 17)), (some (15, false))⟩,
  ⟨(some 19), (.pick (.tmp 15) (.const (.bool true)) (.tmp 18)), none⟩]
attribute [go_sem] r7_2
def k7_1 : PC := (.post (.reg r7_2) ⟨[1, 6, 19], [.old 0, .old 1], [], []⟩)
def r7_0 : List PO := [⟨(some 4), (.assign (.const (.bool false))), none⟩,
  ⟨(some 5), (.assign (.const (.bool false))), none⟩]
attribute [go_sem] r7_0
def r7_1 : List PO := [⟨(some 9), (.move (.tmp 0)), none⟩,
  ⟨(some 10), (.call { callee := (.value (.func 28)), args := #[(.tmp 9)], argTypes := #[27] }), none⟩,
  ⟨(some 8), (.move (.tmp 10)), none⟩,
  ⟨(some 11), (.extract (.tmp 8) 0), none⟩,
  ⟨(some 12), (.extract (.tmp 8) 1), none⟩,
  ⟨(some 6), (.alloc 56), none⟩,
  ⟨none, (.store 56 (.tmp 6) (.tmp 11)), none⟩,
  ⟨(some 7), (.assign (.tmp 12)), none⟩]
attribute [go_sem] r7_1
def r7_3 : List PO := [⟨(some 4), (.assign (.const (.bool false))), none⟩,
  ⟨(some 5), (.assign (.const (.bool false))), none⟩]
attribute [go_sem] r7_3
def r7_4 : List PO := [⟨(some 20), (.load 56 (.tmp 6)), none⟩,
  ⟨(some 21), (.move (.tmp 1)), none⟩,
  ⟨(some 22), (.call { callee := (.value (.func 31)), args := #[(.tmp 20), (.tmp 21), (.const (.int .i64 0))], argTypes := #[56, 23, 3] }), none⟩,
  ⟨(some 23), (.move (.tmp 1)), none⟩,
  ⟨(some 24), (.call { callee := (.builtin .len), args := #[(.tmp 23)], argTypes := #[23] }), none⟩,
  ⟨(some 25), (.call { callee := (.value (.func 30)), args := #[(.tmp 22), (.tmp 24)], argTypes := #[23, 3] }), none⟩,
  ⟨(some 4), (.assign (.tmp 25)), none⟩,
  ⟨(some 5), (.assign (.const (.bool true))), none⟩]
attribute [go_sem] r7_4
def c7 : PC := (.seq (.reg r7_0) (.seq (.reg r7_1) (.seq (.seq (.pre ⟨[1, 6, 7], [.old 1, .old 0], [], []⟩ k7_1) (.cond (.tmp 19) (.seq (.reg r7_3) .ret) .skip)) (.seq (.reg r7_4) .ret))))
def i7 : FnI := ⟨26, [(.tmp 4), (.tmp 5)], c7, 0, [[2], [1]], [[0], [0]], false, false, 0, false⟩
-- loop.example/g00344/impl.within
def r51_1 : List PO := [⟨(some 7), (.move (.tmp 0)), none⟩,
  ⟨(some 8), (.move (.tmp 1)), none⟩,
  ⟨(some 9), (.binOp .geq 3 (.tmp 7) (.tmp 8) 3), none⟩,
  ⟨(some 10), (.move (.tmp 9)), none⟩,
  ⟨(some 11), (.move (.tmp 0)), (some (10, true))⟩,
  ⟨(some 12), (.move (.tmp 2)), (some (10, true))⟩,
  ⟨(some 13), (.binOp .leq 3 (.tmp 11) (.tmp 12) 3), (some (10, true))⟩,
  ⟨(some 14), (.pick (.tmp 10) (.tmp 13) (.const (.bool false))), none⟩,
  ⟨(some 6), (.assign (.tmp 14)), none⟩]
attribute [go_sem] r51_1
def k51_1 : PC := (.post (.reg r51_1) ⟨[6], [], [], []⟩)
def r51_0 : List PO := [⟨(some 6), (.assign (.const (.bool false))), none⟩]
attribute [go_sem] r51_0
def c51 : PC := (.seq (.reg r51_0) (.seq (.pre ⟨[0, 1, 2], [], [], []⟩ k51_1) .ret))
def i51 : FnI := ⟨15, [(.tmp 6)], c51, 0, [[0], [0], [0]], [[0]], false, false, 0, false⟩
-- loop.example/g00344/impl.partsOf
def r67_5 : List PO := [⟨(some 8), (.binOp .eql 3 (.tmp 3) (.const (.int .i64 4)) 3), none⟩,
  ⟨(some 4), (.assign (.tmp 8)), none⟩]
attribute [go_sem] r67_5
def k67_3 : PC := (.cond (.tmp 4) (.post .skip ⟨[3, 4], [], [], []⟩) (.post (.reg r67_5) ⟨[3, 4], [], [], []⟩))
def r67_4 : List PO := [⟨(some 7), (.binOp .eql 3 (.tmp 3) (.const (.int .i64 3)) 3), none⟩,
  ⟨(some 4), (.assign (.tmp 7)), none⟩]
attribute [go_sem] r67_4
def k67_2 : PC := (.cond (.tmp 4) (.post .skip ⟨[3, 4], [], [], []⟩) (.seq (.reg r67_4) (.post (.pre ⟨[3, 4], [], [], []⟩ k67_3) ⟨[3, 4], [], [], []⟩)))
def r67_3 : List PO := [⟨(some 6), (.binOp .eql 3 (.tmp 3) (.const (.int .i64 2)) 3), none⟩,
  ⟨(some 4), (.assign (.tmp 6)), none⟩]
attribute [go_sem] r67_3
def k67_1 : PC := (.cond (.tmp 4) (.post .skip ⟨[3, 4], [], [], []⟩) (.seq (.reg r67_3) (.post (.pre ⟨[3, 4], [], [], []⟩ k67_2) ⟨[3, 4], [], [], []⟩)))
def r67_10 : List PO := [⟨(some 13), (.binOp .eql 3 (.tmp 3) (.const (.int .i64 6)) 3), none⟩,
  ⟨(some 11), (.assign (.tmp 13)), none⟩]
attribute [go_sem] r67_10
def k67_4 : PC := (.cond (.tmp 11) (.post .skip ⟨[11], [], [], []⟩) (.post (.reg r67_10) ⟨[11], [], [], []⟩))
def r67_0 : List PO := [⟨(some 2), (.assign (.const (.int .i64 0))), none⟩]
attribute [go_sem] r67_0
def r67_1 : List PO := [⟨(some 3), (.move (.tmp 0)), none⟩]
attribute [go_sem] r67_1
def r67_2 : List PO := [⟨(some 5), (.binOp .eql 3 (.tmp 3) (.const (.int .i64 1)) 3), none⟩,
  ⟨(some 4), (.assign (.tmp 5)), none⟩]
attribute [go_sem] r67_2
def r67_6 : List PO := [⟨(some 2), (.assign (.const (.int .i64 0))), none⟩]
attribute [go_sem] r67_6
def r67_7 : List PO := [⟨(some 10), (.binOp .eql 3 (.tmp 3) (.const (.int .i64 7)) 3), none⟩,
  ⟨(some 9), (.assign (.tmp 10)), none⟩]
attribute [go_sem] r67_7
def r67_8 : List PO := [⟨(some 2), (.assign (.const (.int .i64 1))), none⟩]
attribute [go_sem] r67_8
def r67_9 : List PO := [⟨(some 12), (.binOp .eql 3 (.tmp 3) (.const (.int .i64 5)) 3), none⟩,
  ⟨(some 11), (.assign (.tmp 12)), none⟩]
attribute [go_sem] r67_9
def r67_11 : List PO := [⟨(some 2), (.assign (.const (.int .i64 2))), none⟩]
attribute [go_sem] r67_11
def r67_12 : List PO := [⟨(some 2), (.assign (.const (.int .i64 (-1)))), none⟩]
attribute [go_sem] r67_12
def c67 : PC := (.seq (.reg r67_0) (.seq (.seq (.reg r67_1) (.block 0 (.seq (.seq (.reg r67_2) (.pre ⟨[3, 4], [], [], []⟩ k67_1)) (.cond (.tmp 4) (.seq (.reg r67_6) .ret) (.seq (.reg r67_7) (.cond (.tmp 9) (.seq (.reg r67_8) .ret) (.seq (.seq (.reg r67_9) (.pre ⟨[3, 11], [], [], []⟩ k67_4)) (.cond (.tmp 11) (.seq (.reg r67_11) .ret) .skip)))))))) (.seq (.reg r67_12) .ret)))
def i67 : FnI := ⟨14, [(.tmp 2)], c67, 0, [[0]], [[0]], false, false, 0, false⟩
-- loop.example/g00344/impl.sizeAt
def r49_3 : List PO := [⟨(some 9), (.move (.tmp 6)), none⟩,
  ⟨(some 10), (.move (.tmp 0)), none⟩,
  ⟨(some 11), (.call { callee := (.builtin .len), args := #[(.tmp 10)], argTypes := #[27] }), none⟩,
  ⟨(some 12), (.binOp .lss 3 (.tmp 9) (.tmp 11) 3), none⟩]
attribute [go_sem] r49_3
def r49_5 : List PO := [⟨(some 15), (.move (.tmp 0)), none⟩,
  ⟨(some 16), (.move (.tmp 6)), none⟩,
  ⟨(some 17), (.indexAddr 27 (.tmp 15) (.tmp 16)), none⟩,
  ⟨(some 18), (.fieldAddr 63 (.tmp 17) 0), none⟩,
  ⟨(some 19), (.load 3 (.tmp 18)), none⟩,
  ⟨(some 20), (.call { callee := (.value (.func 67)), args := #[(.tmp 19)], argTypes := #[3] }), none⟩,
  ⟨(some 7), (.assign (.tmp 20)), none⟩]
attribute [go_sem] r49_5
def r49_6 : List PO := [⟨(some 21), (.move (.tmp 7)), none⟩,
  ⟨(some 22), (.binOp .lss 3 (.tmp 21) (.const (.int .i64 0)) 3), none⟩]
attribute [go_sem] r49_6
def r49_7 : List PO := [⟨(some 4), (.assign (.const (.int .i64 (-1)))), none⟩]
attribute [go_sem] r49_7
def r49_8 : List PO := [⟨(some 23), (.move (.tmp 5)), none⟩,
  ⟨(some 24), (.move (.tmp 7)), none⟩,
  ⟨(some 25), (.binOp .sub 3 (.tmp 24) (.const (.int .i64 1)) 3), none⟩,
  ⟨(some 26), (.binOp .add 3 (.tmp 23) (.tmp 25) 3), none⟩,
  ⟨(some 5), (.assign (.tmp 26)), none⟩]
attribute [go_sem] r49_8
def r49_9 : List PO := [⟨(some 27), (.move (.tmp 5)), none⟩,
  ⟨(some 28), (.binOp .eql 3 (.tmp 27) (.const (.int .i64 0)) 3), none⟩]
attribute [go_sem] r49_9
def r49_10 : List PO := [⟨(some 29), (.move (.tmp 6)), none⟩,
  ⟨(some 30), (.binOp .add 3 (.tmp 29) (.const (.int .i64 1)) 3), none⟩,
  ⟨(some 31), (.move (.tmp 1)), none⟩,
  ⟨(some 32), (.binOp .sub 3 (.tmp 30) (.tmp 31) 3), none⟩,
  ⟨(some 4), (.assign (.tmp 32)), none⟩]
attribute [go_sem] r49_10
def r49_4 : List PO := [⟨(some 13), (.move (.tmp 6)), none⟩,
  ⟨(some 14), (.binOp .add 3 (.tmp 13) (.const (.int .i64 1)) 3), none⟩,
  ⟨(some 6), (.assign (.tmp 14)), none⟩]
attribute [go_sem] r49_4
def k49_1b : PC := (.seq (.seq (.reg r49_3) (.cond (.tmp 12) .skip (.pre ⟨[], [], [], []⟩ (.exit 0)))) (.seq (.block 1 (.seq (.reg r49_5) (.seq (.seq (.reg r49_6) (.cond (.tmp 22) (.seq (.reg r49_7) (.pre ⟨[4], [], [], []⟩ .ret)) .skip)) (.seq (.reg r49_8) (.seq (.reg r49_9) (.cond (.tmp 28) (.seq (.reg r49_10) (.pre ⟨[4], [], [], []⟩ .ret)) .skip)))))) (.post (.reg r49_4) ⟨[0, 1, 5, 6], [], [], []⟩)))
def r49_0 : List PO := [⟨(some 4), (.assign (.const (.int .i64 0))), none⟩]
attribute [go_sem] r49_0
def r49_1 : List PO := [⟨(some 5), (.assign (.const (.int .i64 1))), none⟩]
attribute [go_sem] r49_1
def r49_2 : List PO := [⟨(some 8), (.move (.tmp 1)), none⟩,
  ⟨(some 6), (.assign (.tmp 8)), none⟩]
attribute [go_sem] r49_2
def r49_11 : List PO := [⟨(some 4), (.assign (.const (.int .i64 (-1)))), none⟩]
attribute [go_sem] r49_11
def c49 : PC := (.seq (.reg r49_0) (.seq (.reg r49_1) (.seq (.seq (.reg r49_2) (.block 0 (.pre ⟨[0, 1, 5, 6], [], [], []⟩ (.loop k49_1b)))) (.seq (.reg r49_11) .ret))))
def i49 : FnI := ⟨33, [(.tmp 4)], c49, 0, [[2], [0]], [[0]], false, false, 0, false⟩
-- slices.IndexFunc[[]loop.example/g00344/impl.ReCell,loop.example/g00344/impl.ReCell]
def r76_2 : List PO := [⟨(some 9), (.binOp .lss 3 (.tmp 8) (.tmp 7) 3), none⟩]
attribute [go_sem] r76_2
def r76_3 : List PO := [⟨(some 10), (.move (.tmp 8)), none⟩,
  ⟨(some 5), (.assign (.tmp 10)), none⟩]
attribute [go_sem] r76_3
def r76_4 : List PO := [⟨(some 11), (.move (.tmp 1)), none⟩,
  ⟨(some 12), (.move (.tmp 0)), none⟩,
  ⟨(some 13), (.move (.tmp 5)), none⟩,
  ⟨(some 14), (.indexAddr 27 (.tmp 12) (.tmp 13)), none⟩,
  ⟨(some 15), (.load 63 (.tmp 14)), none⟩,
  ⟨(some 16), (.call { callee := (.value (.tmp 11)), args := #[(.tmp 15)], argTypes := #[63] }), none⟩]
attribute [go_sem] r76_4
def r76_5 : List PO := [⟨(some 17), (.move (.tmp 5)), none⟩,
  ⟨(some 4), (.assign (.tmp 17)), none⟩]
attribute [go_sem] r76_5
def r76_6 : List PO := [⟨(some 18), (.binOp .add 3 (.tmp 8) (.const (.int .i64 1)) 3), none⟩,
  ⟨(some 8), (.move (.tmp 18)), none⟩]
attribute [go_sem] r76_6
def k76_1b : PC := (.seq (.reg r76_2) (.seq (.cond (.tmp 9) .skip (.pre ⟨[], [], [], []⟩ (.exit 0))) (.seq (.block 1 (.seq (.reg r76_3) (.seq (.reg r76_4) (.cond (.tmp 16) (.seq (.reg r76_5) (.pre ⟨[4], [], [], []⟩ .ret)) .skip)))) (.post (.reg r76_6) ⟨[0, 1, 7, 8], [], [], []⟩))))
def r76_0 : List PO := [⟨(some 4), (.assign (.const (.int .i64 0))), none⟩]
attribute [go_sem] r76_0
def r76_1 : List PO := [⟨(some 6), (.move (.tmp 0)), none⟩,
  ⟨(some 7), (.call { callee := (.builtin .len), args := #[(.tmp 6)], argTypes := #[27] }), none⟩,
  ⟨(some 8), (.move (.const (.int .i64 0))), none⟩]
attribute [go_sem] r76_1
def r76_7 : List PO := [⟨(some 4), (.assign (.const (.int .i64 (-1)))), none⟩]
attribute [go_sem] r76_7
def c76 : PC := (.seq (.reg r76_0) (.seq (.seq (.reg r76_1) (.block 0 (.pre ⟨[0, 1, 7, 8], [], [], []⟩ (.loop k76_1b)))) (.seq (.reg r76_7) .ret)))
def i76 : FnI := ⟨19, [(.tmp 4)], c76, 0, [[2], [0]], [[0]], false, false, 0, false⟩
-- slices.ContainsFunc[[]loop.example/g00344/impl.ReCell,loop.example/g00344/impl.ReCell]
def r52_0 : List PO := [⟨(some 4), (.assign (.const (.bool false))), none⟩]
attribute [go_sem] r52_0
def r52_1 : List PO := [⟨(some 5), (.move (.tmp 0)), none⟩,
  ⟨(some 6), (.move (.tmp 1)), none⟩,
  ⟨(some 7), (.call { callee := (.value (.func 76)), args := #[(.tmp 5), (.tmp 6)], argTypes := #[27, 90] }), none⟩,
  ⟨(some 8), (.binOp .geq 3 (.tmp 7) (.const (.int .i64 0)) 3), none⟩,
  ⟨(some 4), (.assign (.tmp 8)), none⟩]
attribute [go_sem] r52_1
def c52 : PC := (.seq (.reg r52_0) (.seq (.reg r52_1) .ret))
def i52 : FnI := ⟨9, [(.tmp 4)], c52, 0, [[2], [0]], [[0]], false, false, 0, false⟩
-- loop.example/g00344/impl.isAsn
def r41_0 : List PO := [⟨(some 2), (.assign (.const (.bool false))), none⟩]
attribute [go_sem] r41_0
def r41_1 : List PO := [⟨(some 3), (.move (.tmp 0)), none⟩,
  ⟨(some 4), (.call { callee := (.value (.func 51)), args := #[(.tmp 3), (.const (.int .i64 1)), (.const (.int .i64 65535))], argTypes := #[3, 3, 3] }), none⟩,
  ⟨(some 2), (.assign (.tmp 4)), none⟩]
attribute [go_sem] r41_1
def c41 : PC := (.seq (.reg r41_0) (.seq (.reg r41_1) .ret))
def i41 : FnI := ⟨5, [(.tmp 2)], c41, 0, [[0]], [[0]], false, false, 0, false⟩
-- loop.example/g00344/impl.GoodRegex$1
def r53_1 : List PO := [⟨(some 3), (.fieldAddr 63 (.tmp 1) 0), none⟩,
  ⟨(some 4), (.load 3 (.tmp 3)), none⟩,
  ⟨(some 5), (.binOp .eql 3 (.tmp 4) (.const (.int .i64 3)) 3), none⟩,
  ⟨(some 6), (.move (.tmp 5)), none⟩,
  ⟨(some 7), (.fieldAddr 63 (.tmp 1) 1), (some (6, true))⟩,
  ⟨(some 8), (.load 3 (.tmp 7)), (some (6, true))⟩,
  ⟨(some 9), (.call { callee := (.value (.func 41)), args := #[(.tmp 8)], argTypes := #[3] }), (some (6, true))⟩,
  ⟨(some 10), (.unOp .not 4 (.tmp 9)), (some (6, true))⟩,
  ⟨(some 11), (.pick (.tmp 6) (.tmp 10) (.const (.bool false))), none⟩,
  ⟨(some 12), (.move (.tmp 11)), none⟩,
  ⟨(some 13), (.fieldAddr 63 (.tmp 1) 0), (some (12, false))⟩,
  ⟨(some 14), (.load 3 (.tmp 13)), (some (12, false))⟩,
  ⟨(some 15), (.binOp .neq 3 (.tmp 14) (.const (.int .i64 3)) 3), (some (12, false))⟩,
  ⟨(some 16), (.move (.tmp 15)), (some (12, false))⟩,
  ⟨(some 17), (.fieldAddr 63 (.tmp 1) 1), (some (16, true))⟩,
  ⟨(some 18), (.load 3 (.tmp 17)), (some (16, true))⟩,
  ⟨(some 19), (.binOp .neq 3 (.tmp 18) (.const (.int .i64 0)) 3), (some (16, true))⟩,
  ⟨(some 20), (.pick (.tmp 16) (.tmp 19) (.const (.bool false))), (some (12, false))⟩,
  ⟨(some 21), (.pick (.tmp 12) (.const (.bool true)) (.tmp 20)), none⟩,
  ⟨(some 2), (.assign (.tmp 21)), none⟩]
attribute [go_sem] r53_1
def k53_1 : PC := (.post (.reg r53_1) ⟨[2], [], [], []⟩)
def r53_0 : List PO := [⟨(some 1), (.box 63 (.tmp 0)), none⟩,
  ⟨(some 2), (.assign (.const (.bool false))), none⟩]
attribute [go_sem] r53_0
def c53 : PC := (.seq (.reg r53_0) (.seq (.pre ⟨[1], [.old 0], [], []⟩ k53_1) .ret))
def i53 : FnI := ⟨22, [(.tmp 2)], c53, 0, [[0, 0]], [[0]], false, false, 0, false⟩
-- loop.example/g00344/impl.GoodRegex
def r21_1 : List PO := [⟨(some 3), (.move (.tmp 0)), none⟩,
  ⟨(some 4), (.call { callee := (.builtin .len), args := #[(.tmp 3)], argTypes := #[27] }), none⟩,
  ⟨(some 5), (.call { callee := (.value (.func 51)), args := #[(.tmp 4), (.const (.int .i64 1)), (.const (.int .i64 30))], argTypes := #[3, 3, 3] }), none⟩,
  ⟨(some 6), (.unOp .not 4 (.tmp 5)), none⟩,
  ⟨(some 7), (.move (.tmp 6)), none⟩,
  ⟨(some 8), (.move (.tmp 0)), (some (7, false))⟩,
  ⟨(some 9), (.call { callee := (.value (.func 49)), args := #[(.tmp 8), (.const (.int .i64 0))], argTypes := #[27, 3] }), (some (7, false))⟩,
  ⟨(some 10), (.move (.tmp 0)), (some (7, false))⟩,
  ⟨(some 11), (.call { callee := (.builtin .len), args := #[(.tmp 10)], argTypes := #[27] }), (some (7, false))⟩,
  ⟨(some 12), (.binOp .neq 3 (.tmp 9) (.tmp 11) 3), (some (7, false))⟩,
  ⟨(some 13), (.pick (.tmp 7) (.const (.bool true)) (.tmp 12)), none⟩]
attribute [go_sem] r21_1
def k21_1 : PC := (.post (.reg r21_1) ⟨[0, 13], [], [], []⟩)
def r21_0 : List PO := [⟨(some 2), (.assign (.const (.bool false))), none⟩]
attribute [go_sem] r21_0
def r21_2 : List PO := [⟨(some 2), (.assign (.const (.bool false))), none⟩]
attribute [go_sem] r21_2
def r21_3 : List PO := [⟨(some 14), (.move (.tmp 0)), none⟩,
  ⟨(some 15), (.call { callee := (.value (.func 52)), args := #[(.tmp 14), (.func 53)], argTypes := #[27, 90] }), none⟩,
  ⟨(some 16), (.unOp .not 4 (.tmp 15)), none⟩,
  ⟨(some 2), (.assign (.tmp 16)), none⟩]
attribute [go_sem] r21_3
def c21 : PC := (.seq (.reg r21_0) (.seq (.seq (.pre ⟨[0], [], [], []⟩ k21_1) (.cond (.tmp 13) (.seq (.reg r21_2) .ret) .skip)) (.seq (.reg r21_3) .ret)))
def i21 : FnI := ⟨17, [(.tmp 2)], c21, 0, [[2]], [[0]], false, false, 0, false⟩
-- slices.IndexFunc[[]int,int]
def r79_2 : List PO := [⟨(some 9), (.binOp .lss 3 (.tmp 8) (.tmp 7) 3), none⟩]
attribute [go_sem] r79_2
def r79_3 : List PO := [⟨(some 10), (.move (.tmp 8)), none⟩,
  ⟨(some 5), (.assign (.tmp 10)), none⟩]
attribute [go_sem] r79_3
def r79_4 : List PO := [⟨(some 11), (.move (.tmp 1)), none⟩,
  ⟨(some 12), (.move (.tmp 0)), none⟩,
  ⟨(some 13), (.move (.tmp 5)), none⟩,
  ⟨(some 14), (.indexAddr 23 (.tmp 12) (.tmp 13)), none⟩,
  ⟨(some 15), (.load 3 (.tmp 14)), none⟩,
  ⟨(some 16), (.call { callee := (.value (.tmp 11)), args := #[(.tmp 15)], argTypes := #[3] }), none⟩]
attribute [go_sem] r79_4
def r79_5 : List PO := [⟨(some 17), (.move (.tmp 5)), none⟩,
  ⟨(some 4), (.assign (.tmp 17)), none⟩]
attribute [go_sem] r79_5
def r79_6 : List PO := [⟨(some 18), (.binOp .add 3 (.tmp 8) (.const (.int .i64 1)) 3), none⟩,
  ⟨(some 8), (.move (.tmp 18)), none⟩]
attribute [go_sem] r79_6
def k79_1b : PC := (.seq (.reg r79_2) (.seq (.cond (.tmp 9) .skip (.pre ⟨[], [], [], []⟩ (.exit 0))) (.seq (.block 1 (.seq (.reg r79_3) (.seq (.reg r79_4) (.cond (.tmp 16) (.seq (.reg r79_5) (.pre ⟨[4], [], [], []⟩ .ret)) .skip)))) (.post (.reg r79_6) ⟨[0, 1, 7, 8], [], [], []⟩))))
def r79_0 : List PO := [⟨(some 4), (.assign (.const (.int .i64 0))), none⟩]
attribute [go_sem] r79_0
def r79_1 : List PO := [⟨(some 6), (.move (.tmp 0)), none⟩,
  ⟨(some 7), (.call { callee := (.builtin .len), args := #[(.tmp 6)], argTypes := #[23] }), none⟩,
  ⟨(some 8), (.move (.const (.int .i64 0))), none⟩]
attribute [go_sem] r79_1
def r79_7 : List PO := [⟨(some 4), (.assign (.const (.int .i64 (-1)))), none⟩]
attribute [go_sem] r79_7
def c79 : PC := (.seq (.reg r79_0) (.seq (.seq (.reg r79_1) (.block 0 (.pre ⟨[0, 1, 7, 8], [], [], []⟩ (.loop k79_1b)))) (.seq (.reg r79_7) .ret)))
def i79 : FnI := ⟨19, [(.tmp 4)], c79, 0, [[1], [0]], [[0]], false, false, 0, false⟩
-- slices.ContainsFunc[[]int,int]
def r63_0 : List PO := [⟨(some 4), (.assign (.const (.bool false))), none⟩]
attribute [go_sem] r63_0
def r63_1 : List PO := [⟨(some 5), (.move (.tmp 0)), none⟩,
  ⟨(some 6), (.move (.tmp 1)), none⟩,
  ⟨(some 7), (.call { callee := (.value (.func 79)), args := #[(.tmp 5), (.tmp 6)], argTypes := #[23, 72] }), none⟩,
  ⟨(some 8), (.binOp .geq 3 (.tmp 7) (.const (.int .i64 0)) 3), none⟩,
  ⟨(some 4), (.assign (.tmp 8)), none⟩]
attribute [go_sem] r63_1
def c63 : PC := (.seq (.reg r63_0) (.seq (.reg r63_1) .ret))
def i63 : FnI := ⟨9, [(.tmp 4)], c63, 0, [[1], [0]], [[0]], false, false, 0, false⟩
-- loop.example/g00344/impl.isPath$1
def r64_0 : List PO := [⟨(some 2), (.assign (.const (.bool false))), none⟩]
attribute [go_sem] r64_0
def r64_1 : List PO := [⟨(some 3), (.move (.tmp 0)), none⟩,
  ⟨(some 4), (.call { callee := (.value (.func 41)), args := #[(.tmp 3)], argTypes := #[3] }), none⟩,
  ⟨(some 5), (.unOp .not 4 (.tmp 4)), none⟩,
  ⟨(some 2), (.assign (.tmp 5)), none⟩]
attribute [go_sem] r64_1
def c64 : PC := (.seq (.reg r64_0) (.seq (.reg r64_1) .ret))
def i64 : FnI := ⟨6, [(.tmp 2)], c64, 0, [[0]], [[0]], false, false, 0, false⟩
-- loop.example/g00344/impl.isPath
def r33_1 : List PO := [⟨(some 3), (.move (.tmp 0)), none⟩,
  ⟨(some 4), (.call { callee := (.builtin .len), args := #[(.tmp 3)], argTypes := #[23] }), none⟩,
  ⟨(some 5), (.binOp .leq 3 (.tmp 4) (.const (.int .i64 10)) 3), none⟩,
  ⟨(some 6), (.move (.tmp 5)), none⟩,
  ⟨(some 7), (.move (.tmp 0)), (some (6, true))⟩,
  ⟨(some 8), (.call { callee := (.value (.func 63)), args := #[(.tmp 7), (.func 64)], argTypes := #[23, 72] }), (some (6, true))⟩,
  ⟨(some 9), (.unOp .not 4 (.tmp 8)), (some (6, true))⟩,
  ⟨(some 10), (.pick (.tmp 6) (.tmp 9) (.const (.bool false))), none⟩,
  ⟨(some 2), (.assign (.tmp 10)), none⟩]
attribute [go_sem] r33_1
def k33_1 : PC := (.post (.reg r33_1) ⟨[2], [], [], []⟩)
def r33_0 : List PO := [⟨(some 2), (.assign (.const (.bool false))), none⟩]
attribute [go_sem] r33_0
def c33 : PC := (.seq (.reg r33_0) (.seq (.pre ⟨[0], [], [], []⟩ k33_1) .ret))
def i33 : FnI := ⟨11, [(.tmp 2)], c33, 0, [[1]], [[0]], false, false, 0, false⟩
-- loop.example/g00344/impl.treeOf
def r42_4 : List PO := [⟨(some 21), (.binOp .lss 3 (.tmp 20) (.tmp 19) 3), none⟩]
attribute [go_sem] r42_4
def r42_5 : List PO := [⟨(some 23), (.move (.tmp 5)), none⟩,
  ⟨(some 24), (.call { callee := (.value (.func 42)), args := #[(.tmp 23)], argTypes := #[27] }), none⟩,
  ⟨(some 22), (.move (.tmp 24)), none⟩,
  ⟨(some 25), (.extract (.tmp 22) 0), none⟩,
  ⟨(some 26), (.extract (.tmp 22) 1), none⟩,
  ⟨(some 6), (.assign (.tmp 25)), none⟩,
  ⟨(some 7), (.assign (.tmp 26)), none⟩]
attribute [go_sem] r42_5
def r42_6 : List PO := [⟨(some 27), (.move (.tmp 4)), none⟩,
  ⟨(some 28), (.move (.tmp 4)), none⟩,
  ⟨(some 29), (.nilCheck (.tmp 28)), none⟩,
  ⟨(some 30), (.fieldAddr 106 (.tmp 29) 1), none⟩,
  ⟨(some 31), (.load 104 (.tmp 30)), none⟩,
  ⟨(some 32), (.move (.tmp 6)), none⟩,
  ⟨(some 33), (.buildSlice 104 1 #[(0, (.tmp 32))]), none⟩,
  ⟨(some 34), (.call { callee := (.builtin .append), args := #[(.tmp 31), (.tmp 33)], argTypes := #[104, 104] }), none⟩,
  ⟨(some 35), (.nilCheck (.tmp 27)), none⟩,
  ⟨(some 36), (.fieldAddr 106 (.tmp 35) 1), none⟩,
  ⟨none, (.store 104 (.tmp 36) (.tmp 34)), none⟩]
attribute [go_sem] r42_6
def r42_7 : List PO := [⟨(some 37), (.move (.tmp 7)), none⟩,
  ⟨(some 5), (.assign (.tmp 37)), none⟩]
attribute [go_sem] r42_7
def r42_8 : List PO := [⟨(some 38), (.binOp .add 3 (.tmp 20) (.const (.int .i64 1)) 3), none⟩,
  ⟨(some 20), (.move (.tmp 38)), none⟩]
attribute [go_sem] r42_8
def k42_1b : PC := (.seq (.reg r42_4) (.seq (.cond (.tmp 21) .skip (.pre ⟨[4, 5], [.old 0, .old 1], [], []⟩ (.exit 0))) (.seq (.block 1 (.seq (.reg r42_5) (.seq (.reg r42_6) (.reg r42_7)))) (.post (.reg r42_8) ⟨[4, 5, 19, 20], [.old 0, .old 3], [], []⟩))))
def r42_0 : List PO := [⟨(some 2), (.assign (.const (.pointer none))), none⟩,
  ⟨(some 3), (.assign (.const (.slice none 0 0))), none⟩]
attribute [go_sem] r42_0
def r42_1 : List PO := [⟨(some 8), (.move (.tmp 0)), none⟩,
  ⟨(some 9), (.indexAddr 27 (.tmp 8) (.const (.int .i64 0))), none⟩,
  ⟨(some 10), (.load 63 (.tmp 9)), none⟩,
  ⟨(some 11), (.build 106 #[(0, (.tmp 10))]), none⟩,
  ⟨(some 12), (.box 106 (.tmp 11)), none⟩,
  ⟨(some 4), (.assign (.tmp 12)), none⟩]
attribute [go_sem] r42_1
def r42_2 : List PO := [⟨(some 13), (.move (.tmp 0)), none⟩,
  ⟨(some 14), (.slice 27 (.tmp 13) (some (.const (.int .i64 1))) none none), none⟩,
  ⟨(some 5), (.assign (.tmp 14)), none⟩]
attribute [go_sem] r42_2
def r42_3 : List PO := [⟨(some 15), (.move (.tmp 0)), none⟩,
  ⟨(some 16), (.indexAddr 27 (.tmp 15) (.const (.int .i64 0))), none⟩,
  ⟨(some 17), (.fieldAddr 63 (.tmp 16) 0), none⟩,
  ⟨(some 18), (.load 3 (.tmp 17)), none⟩,
  ⟨(some 19), (.call { callee := (.value (.func 67)), args := #[(.tmp 18)], argTypes := #[3] }), none⟩,
  ⟨(some 20), (.move (.const (.int .i64 0))), none⟩]
attribute [go_sem] r42_3
def r42_9 : List PO := [⟨(some 39), (.move (.tmp 4)), none⟩,
  ⟨(some 40), (.move (.tmp 5)), none⟩,
  ⟨(some 2), (.assign (.tmp 39)), none⟩,
  ⟨(some 3), (.assign (.tmp 40)), none⟩]
attribute [go_sem] r42_9
def c42 : PC := (.seq (.reg r42_0) (.seq (.reg r42_1) (.seq (.reg r42_2) (.seq (.seq (.reg r42_3) (.block 0 (.pre ⟨[4, 5, 19, 20], [.old 0, .nilB 0 2 1], [], []⟩ (.loop k42_1b)))) (.seq (.reg r42_9) .ret)))))
def i42 : FnI := ⟨41, [(.tmp 2), (.tmp 3)], c42, 0, [[2]], [[0], [2]], true, false, 0, false⟩
-- loop.example/g00344/impl.of
def r68_0 : List PO := [⟨(some 4), (.assign (.const (.pointer none))), none⟩]
attribute [go_sem] r68_0
def r68_1 : List PO := [⟨(some 5), (.move (.tmp 0)), none⟩,
  ⟨(some 6), (.build 63 #[(0, (.tmp 5))]), none⟩,
  ⟨(some 7), (.move (.tmp 1)), none⟩,
  ⟨(some 8), (.build 106 #[(0, (.tmp 6)), (1, (.tmp 7))]), none⟩,
  ⟨(some 9), (.box 106 (.tmp 8)), none⟩,
  ⟨(some 4), (.assign (.tmp 9)), none⟩]
attribute [go_sem] r68_1
def c68 : PC := (.seq (.reg r68_0) (.seq (.reg r68_1) .ret))
def i68 : FnI := ⟨10, [(.tmp 4)], c68, 0, [[0], [1]], [[0]], true, false, 0, false⟩
-- (*loop.example/g00344/impl.pattern).empty
def r58_3 : List PO := [⟨(some 10), (.binOp .eql 3 (.tmp 7) (.const (.int .i64 7)) 3), none⟩,
  ⟨(some 8), (.assign (.tmp 10)), none⟩]
attribute [go_sem] r58_3
def k58_1 : PC := (.cond (.tmp 8) (.post .skip ⟨[0, 7, 8], [], [], []⟩) (.post (.reg r58_3) ⟨[0, 7, 8], [], [], []⟩))
def r58_6 : List PO := [⟨(some 13), (.move (.tmp 0)), none⟩,
  ⟨(some 14), (.nilCheck (.tmp 13)), none⟩,
  ⟨(some 15), (.fieldAddr 106 (.tmp 14) 1), none⟩,
  ⟨(some 16), (.load 104 (.tmp 15)), none⟩,
  ⟨(some 17), (.indexAddr 104 (.tmp 16) (.const (.int .i64 0))), none⟩,
  ⟨(some 18), (.load 73 (.tmp 17)), none⟩,
  ⟨(some 19), (.call { callee := (.value (.func 58)), args := #[(.tmp 18)], argTypes := #[73] }), none⟩,
  ⟨(some 20), (.move (.tmp 19)), none⟩,
  ⟨(some 21), (.move (.tmp 0)), (some (20, true))⟩,
  ⟨(some 22), (.nilCheck (.tmp 21)), (some (20, true))⟩,
  ⟨(some 23), (.fieldAddr 106 (.tmp 22) 1), (some (20, true))⟩,
  ⟨(some 24), (.load 104 (.tmp 23)), (some (20, true))⟩,
  ⟨(some 25), (.indexAddr 104 (.tmp 24) (.const (.int .i64 1))), (some (20, true))⟩,
  ⟨(some 26), (.load 73 (.tmp 25)), (some (20, true))⟩,
  ⟨(some 27), (.call { callee := (.value (.func 58)), args := #[(.tmp 26)], argTypes := #[73] }), (some (20, true))⟩,
  ⟨(some 28), (.pick (.tmp 20) (.tmp 27) (.const (.bool false))), none⟩,
  ⟨(some 2), (.assign (.tmp 28)), none⟩]
attribute [go_sem] r58_6
def k58_2 : PC := (.post (.reg r58_6) ⟨[2], [], [], []⟩)
def r58_8 : List PO := [⟨(some 31), (.move (.tmp 0)), none⟩,
  ⟨(some 32), (.nilCheck (.tmp 31)), none⟩,
  ⟨(some 33), (.fieldAddr 106 (.tmp 32) 1), none⟩,
  ⟨(some 34), (.load 104 (.tmp 33)), none⟩,
  ⟨(some 35), (.indexAddr 104 (.tmp 34) (.const (.int .i64 0))), none⟩,
  ⟨(some 36), (.load 73 (.tmp 35)), none⟩,
  ⟨(some 37), (.call { callee := (.value (.func 58)), args := #[(.tmp 36)], argTypes := #[73] }), none⟩,
  ⟨(some 38), (.move (.tmp 37)), none⟩,
  ⟨(some 39), (.move (.tmp 0)), (some (38, false))⟩,
  ⟨(some 40), (.nilCheck (.tmp 39)), (some (38, false))⟩,
  ⟨(some 41), (.fieldAddr 106 (.tmp 40) 1), (some (38, false))⟩,
  ⟨(some 42), (.load 104 (.tmp 41)), (some (38, false))⟩,
  ⟨(some 43), (.indexAddr 104 (.tmp 42) (.const (.int .i64 1))), (some (38, false))⟩,
  ⟨(some 44), (.load 73 (.tmp 43)), (some (38, false))⟩,
  ⟨(some 45), (.call { callee := (.value (.func 58)), args := #[(.tmp 44)], argTypes := #[73] }), (some (38, false))⟩,
  ⟨(some 46), (.pick (.tmp 38) (.const (.bool true)) (.tmp 45)), none⟩,
  ⟨(some 2), (.assign (.tmp 46)), none⟩]
attribute [go_sem] r58_8
def k58_3 : PC := (.post (.reg r58_8) ⟨[2], [], [], []⟩)
def r58_0 : List PO := [⟨(some 2), (.assign (.const (.bool false))), none⟩]
attribute [go_sem] r58_0
def r58_1 : List PO := [⟨(some 3), (.move (.tmp 0)), none⟩,
  ⟨(some 4), (.nilCheck (.tmp 3)), none⟩,
  ⟨(some 5), (.fieldAddr 106 (.tmp 4) 0), none⟩,
  ⟨(some 6), (.fieldAddr 63 (.tmp 5) 0), none⟩,
  ⟨(some 7), (.load 3 (.tmp 6)), none⟩]
attribute [go_sem] r58_1
def r58_2 : List PO := [⟨(some 9), (.binOp .eql 3 (.tmp 7) (.const (.int .i64 2)) 3), none⟩,
  ⟨(some 8), (.assign (.tmp 9)), none⟩]
attribute [go_sem] r58_2
def r58_4 : List PO := [⟨(some 2), (.assign (.const (.bool true))), none⟩]
attribute [go_sem] r58_4
def r58_5 : List PO := [⟨(some 12), (.binOp .eql 3 (.tmp 7) (.const (.int .i64 5)) 3), none⟩,
  ⟨(some 11), (.assign (.tmp 12)), none⟩]
attribute [go_sem] r58_5
def r58_7 : List PO := [⟨(some 30), (.binOp .eql 3 (.tmp 7) (.const (.int .i64 6)) 3), none⟩,
  ⟨(some 29), (.assign (.tmp 30)), none⟩]
attribute [go_sem] r58_7
def r58_9 : List PO := [⟨(some 2), (.assign (.const (.bool false))), none⟩]
attribute [go_sem] r58_9
def c58 : PC := (.seq (.reg r58_0) (.seq (.seq (.reg r58_1) (.block 0 (.seq (.seq (.reg r58_2) (.pre ⟨[0, 7, 8], [], [], []⟩ k58_1)) (.cond (.tmp 8) (.seq (.reg r58_4) .ret) (.seq (.reg r58_5) (.cond (.tmp 11) (.seq (.pre ⟨[0], [], [], []⟩ k58_2) .ret) (.seq (.reg r58_7) (.cond (.tmp 29) (.seq (.pre ⟨[0], [], [], []⟩ k58_3) .ret) .skip)))))))) (.seq (.reg r58_9) .ret)))
def i58 : FnI := ⟨47, [(.tmp 2)], c58, 0, [[0]], [[0]], false, false, 0, false⟩
-- (*loop.example/g00344/impl.pattern).derive
def r43_5 : List PO := [⟨(some 16), (.move (.tmp 0)), none⟩,
  ⟨(some 17), (.nilCheck (.tmp 16)), none⟩,
  ⟨(some 18), (.fieldAddr 106 (.tmp 17) 0), none⟩,
  ⟨(some 19), (.fieldAddr 63 (.tmp 18) 1), none⟩,
  ⟨(some 20), (.load 3 (.tmp 19)), none⟩,
  ⟨(some 21), (.move (.tmp 1)), none⟩,
  ⟨(some 22), (.binOp .eql 3 (.tmp 20) (.tmp 21) 3), none⟩]
attribute [go_sem] r43_5
def r43_6 : List PO := [⟨(some 23), (.call { callee := (.value (.func 68)), args := #[(.const (.int .i64 2)), (.const (.slice none 0 0))], argTypes := #[3, 104] }), none⟩,
  ⟨(some 4), (.assign (.tmp 23)), none⟩]
attribute [go_sem] r43_6
def r43_7 : List PO := [⟨(some 25), (.binOp .eql 3 (.tmp 10) (.const (.int .i64 6)) 3), none⟩,
  ⟨(some 24), (.assign (.tmp 25)), none⟩]
attribute [go_sem] r43_7
def r43_8 : List PO := [⟨(some 26), (.move (.tmp 0)), none⟩,
  ⟨(some 27), (.nilCheck (.tmp 26)), none⟩,
  ⟨(some 28), (.fieldAddr 106 (.tmp 27) 1), none⟩,
  ⟨(some 29), (.load 104 (.tmp 28)), none⟩,
  ⟨(some 30), (.indexAddr 104 (.tmp 29) (.const (.int .i64 0))), none⟩,
  ⟨(some 31), (.load 73 (.tmp 30)), none⟩,
  ⟨(some 32), (.move (.tmp 1)), none⟩,
  ⟨(some 33), (.call { callee := (.value (.func 43)), args := #[(.tmp 31), (.tmp 32)], argTypes := #[73, 3] }), none⟩,
  ⟨(some 34), (.move (.tmp 0)), none⟩,
  ⟨(some 35), (.nilCheck (.tmp 34)), none⟩,
  ⟨(some 36), (.fieldAddr 106 (.tmp 35) 1), none⟩,
  ⟨(some 37), (.load 104 (.tmp 36)), none⟩,
  ⟨(some 38), (.indexAddr 104 (.tmp 37) (.const (.int .i64 1))), none⟩,
  ⟨(some 39), (.load 73 (.tmp 38)), none⟩,
  ⟨(some 40), (.move (.tmp 1)), none⟩,
  ⟨(some 41), (.call { callee := (.value (.func 43)), args := #[(.tmp 39), (.tmp 40)], argTypes := #[73, 3] }), none⟩,
  ⟨(some 42), (.buildSlice 104 2 #[(0, (.tmp 33)), (1, (.tmp 41))]), none⟩,
  ⟨(some 43), (.call { callee := (.value (.func 68)), args := #[(.const (.int .i64 6)), (.tmp 42)], argTypes := #[3, 104] }), none⟩,
  ⟨(some 4), (.assign (.tmp 43)), none⟩]
attribute [go_sem] r43_8
def x43_8 : FxI := ⟨[7, 15, 16, 17], [none, none, none, none, none, none, none, none, none, none, none, none, none, none, none, none, none, none, none], 0, [[], [7], [7, 15], [7, 15, 16], [7, 15, 16, 17]], [], [(11, 0, 0), (12, 0, 0), (13, 0, 0)]⟩
attribute [go_sem] x43_8
def r43_9 : List PO := [⟨(some 45), (.binOp .eql 3 (.tmp 10) (.const (.int .i64 7)) 3), none⟩,
  ⟨(some 44), (.assign (.tmp 45)), none⟩]
attribute [go_sem] r43_9
def r43_10 : List PO := [⟨(some 46), (.move (.tmp 0)), none⟩,
  ⟨(some 47), (.nilCheck (.tmp 46)), none⟩,
  ⟨(some 48), (.fieldAddr 106 (.tmp 47) 1), none⟩,
  ⟨(some 49), (.load 104 (.tmp 48)), none⟩,
  ⟨(some 50), (.indexAddr 104 (.tmp 49) (.const (.int .i64 0))), none⟩,
  ⟨(some 51), (.load 73 (.tmp 50)), none⟩,
  ⟨(some 52), (.move (.tmp 1)), none⟩,
  ⟨(some 53), (.call { callee := (.value (.func 43)), args := #[(.tmp 51), (.tmp 52)], argTypes := #[73, 3] }), none⟩,
  ⟨(some 54), (.move (.tmp 0)), none⟩,
  ⟨(some 55), (.buildSlice 104 2 #[(0, (.tmp 53)), (1, (.tmp 54))]), none⟩,
  ⟨(some 56), (.call { callee := (.value (.func 68)), args := #[(.const (.int .i64 5)), (.tmp 55)], argTypes := #[3, 104] }), none⟩,
  ⟨(some 4), (.assign (.tmp 56)), none⟩]
attribute [go_sem] r43_10
def r43_11 : List PO := [⟨(some 58), (.binOp .eql 3 (.tmp 10) (.const (.int .i64 5)) 3), none⟩,
  ⟨(some 57), (.assign (.tmp 58)), none⟩]
attribute [go_sem] r43_11
def r43_12 : List PO := [⟨(some 59), (.move (.tmp 0)), none⟩,
  ⟨(some 60), (.nilCheck (.tmp 59)), none⟩,
  ⟨(some 61), (.fieldAddr 106 (.tmp 60) 1), none⟩,
  ⟨(some 62), (.load 104 (.tmp 61)), none⟩,
  ⟨(some 63), (.indexAddr 104 (.tmp 62) (.const (.int .i64 0))), none⟩,
  ⟨(some 64), (.load 73 (.tmp 63)), none⟩,
  ⟨(some 65), (.move (.tmp 1)), none⟩,
  ⟨(some 66), (.call { callee := (.value (.func 43)), args := #[(.tmp 64), (.tmp 65)], argTypes := #[73, 3] }), none⟩,
  ⟨(some 67), (.move (.tmp 0)), none⟩,
  ⟨(some 68), (.nilCheck (.tmp 67)), none⟩,
  ⟨(some 69), (.fieldAddr 106 (.tmp 68) 1), none⟩,
  ⟨(some 70), (.load 104 (.tmp 69)), none⟩,
  ⟨(some 71), (.indexAddr 104 (.tmp 70) (.const (.int .i64 1))), none⟩,
  ⟨(some 72), (.load 73 (.tmp 71)), none⟩,
  ⟨(some 73), (.buildSlice 104 2 #[(0, (.tmp 66)), (1, (.tmp 72))]), none⟩,
  ⟨(some 74), (.call { callee := (.value (.func 68)), args := #[(.const (.int .i64 5)), (.tmp 73)], argTypes := #[3, 104] }), none⟩,
  ⟨(some 5), (.assign (.tmp 74)), none⟩]
attribute [go_sem] r43_12
def x43_12 : FxI := ⟨[7, 14, 15], [none, none, none, none, none, none, none, none, none, none, none, none, none, none, none, none, none], 0, [[], [7], [7, 14], [7, 14, 15]], [], [(11, 0, 0), (12, 0, 0), (13, 0, 0)]⟩
attribute [go_sem] x43_12
def r43_13 : List PO := [⟨(some 75), (.move (.tmp 0)), none⟩,
  ⟨(some 76), (.nilCheck (.tmp 75)), none⟩,
  ⟨(some 77), (.fieldAddr 106 (.tmp 76) 1), none⟩,
  ⟨(some 78), (.load 104 (.tmp 77)), none⟩,
  ⟨(some 79), (.indexAddr 104 (.tmp 78) (.const (.int .i64 0))), none⟩,
  ⟨(some 80), (.load 73 (.tmp 79)), none⟩,
  ⟨(some 81), (.call { callee := (.value (.func 58)), args := #[(.tmp 80)], argTypes := #[73] }), none⟩]
attribute [go_sem] r43_13
def r43_14 : List PO := [⟨(some 82), (.move (.tmp 5)), none⟩,
  ⟨(some 83), (.move (.tmp 0)), none⟩,
  ⟨(some 84), (.nilCheck (.tmp 83)), none⟩,
  ⟨(some 85), (.fieldAddr 106 (.tmp 84) 1), none⟩,
  ⟨(some 86), (.load 104 (.tmp 85)), none⟩,
  ⟨(some 87), (.indexAddr 104 (.tmp 86) (.const (.int .i64 1))), none⟩,
  ⟨(some 88), (.load 73 (.tmp 87)), none⟩,
  ⟨(some 89), (.move (.tmp 1)), none⟩,
  ⟨(some 90), (.call { callee := (.value (.func 43)), args := #[(.tmp 88), (.tmp 89)], argTypes := #[73, 3] }), none⟩,
  ⟨(some 91), (.buildSlice 104 2 #[(0, (.tmp 82)), (1, (.tmp 90))]), none⟩,
  ⟨(some 92), (.call { callee := (.value (.func 68)), args := #[(.const (.int .i64 6)), (.tmp 91)], argTypes := #[3, 104] }), none⟩,
  ⟨(some 4), (.assign (.tmp 92)), none⟩]
attribute [go_sem] r43_14
def r43_15 : List PO := [⟨(some 93), (.move (.tmp 5)), none⟩,
  ⟨(some 4), (.assign (.tmp 93)), none⟩]
attribute [go_sem] r43_15
def k43_1 : PC := (.cond (.tmp 14) (.seq (.reg r43_5) (.cond (.tmp 22) (.seq (.reg r43_6) (.pre ⟨[4], [], [], []⟩ .ret)) (.post .skip ⟨[], [], [], []⟩))) (.seq (.reg r43_7) (.cond (.tmp 24) (.seq (.fx r43_8 x43_8) (.pre ⟨[4], [], [], []⟩ .ret)) (.seq (.reg r43_9) (.cond (.tmp 44) (.seq (.reg r43_10) (.pre ⟨[4], [], [], []⟩ .ret)) (.seq (.reg r43_11) (.cond (.tmp 57) (.seq (.fx r43_12 x43_12) (.seq (.seq (.reg r43_13) (.cond (.tmp 81) (.seq (.reg r43_14) (.pre ⟨[4], [], [], []⟩ .ret)) .skip)) (.seq (.reg r43_15) (.pre ⟨[4], [], [], []⟩ .ret)))) (.post .skip ⟨[], [], [], []⟩))))))))
def r43_0 : List PO := [⟨(some 4), (.assign (.const (.pointer none))), none⟩]
attribute [go_sem] r43_0
def r43_1 : List PO := [⟨(some 6), (.move (.tmp 0)), none⟩,
  ⟨(some 7), (.nilCheck (.tmp 6)), none⟩,
  ⟨(some 8), (.fieldAddr 106 (.tmp 7) 0), none⟩,
  ⟨(some 9), (.fieldAddr 63 (.tmp 8) 0), none⟩,
  ⟨(some 10), (.load 3 (.tmp 9)), none⟩]
attribute [go_sem] r43_1
def r43_2 : List PO := [⟨(some 12), (.binOp .eql 3 (.tmp 10) (.const (.int .i64 4)) 3), none⟩,
  ⟨(some 11), (.assign (.tmp 12)), none⟩]
attribute [go_sem] r43_2
def r43_3 : List PO := [⟨(some 13), (.call { callee := (.value (.func 68)), args := #[(.const (.int .i64 2)), (.const (.slice none 0 0))], argTypes := #[3, 104] }), none⟩,
  ⟨(some 4), (.assign (.tmp 13)), none⟩]
attribute [go_sem] r43_3
def r43_4 : List PO := [⟨(some 15), (.binOp .eql 3 (.tmp 10) (.const (.int .i64 3)) 3), none⟩,
  ⟨(some 14), (.assign (.tmp 15)), none⟩]
attribute [go_sem] r43_4
def r43_16 : List PO := [⟨(some 94), (.call { callee := (.value (.func 68)), args := #[(.const (.int .i64 1)), (.const (.slice none 0 0))], argTypes := #[3, 104] }), none⟩,
  ⟨(some 4), (.assign (.tmp 94)), none⟩]
attribute [go_sem] r43_16
def c43 : PC := (.seq (.reg r43_0) (.seq (.seq (.reg r43_1) (.block 0 (.seq (.reg r43_2) (.cond (.tmp 11) (.seq (.reg r43_3) .ret) (.seq (.reg r43_4) (.pre ⟨[0, 1, 10, 14], [], [], []⟩ k43_1)))))) (.seq (.reg r43_16) .ret)))
def i43 : FnI := ⟨95, [(.tmp 4)], c43, 0, [[0], [0]], [[0]], true, false, 0, false⟩
-- (*loop.example/g00344/impl.pattern).tidy$1
def r69_0 : List PO := [⟨(some 5), (.assign (.const (.bool false))), none⟩]
attribute [go_sem] r69_0
def r69_1 : List PO := [⟨(some 6), (.load 73 (.tmp 2)), none⟩,
  ⟨(some 7), (.nilCheck (.tmp 6)), none⟩,
  ⟨(some 8), (.fieldAddr 106 (.tmp 7) 1), none⟩,
  ⟨(some 9), (.load 104 (.tmp 8)), none⟩,
  ⟨(some 10), (.move (.tmp 0)), none⟩,
  ⟨(some 11), (.indexAddr 104 (.tmp 9) (.tmp 10)), none⟩,
  ⟨(some 12), (.load 73 (.tmp 11)), none⟩,
  ⟨(some 13), (.nilCheck (.tmp 12)), none⟩,
  ⟨(some 14), (.fieldAddr 106 (.tmp 13) 0), none⟩,
  ⟨(some 15), (.fieldAddr 63 (.tmp 14) 0), none⟩,
  ⟨(some 16), (.load 3 (.tmp 15)), none⟩,
  ⟨(some 17), (.move (.tmp 1)), none⟩,
  ⟨(some 18), (.binOp .eql 3 (.tmp 16) (.tmp 17) 3), none⟩,
  ⟨(some 5), (.assign (.tmp 18)), none⟩]
attribute [go_sem] r69_1
def c69 : PC := (.seq (.reg r69_0) (.seq (.reg r69_1) .ret))
def i69 : FnI := ⟨19, [(.tmp 5)], c69, 0, [[0], [0], [0]], [[0]], false, false, 0, false⟩
-- (*loop.example/g00344/impl.pattern).cells
def r45_3 : List PO := [⟨(some 17), (.binOp .lss 3 (.tmp 16) (.tmp 15) 3), none⟩]
attribute [go_sem] r45_3
def r45_4 : List PO := [⟨(some 18), (.indexAddr 104 (.tmp 14) (.tmp 16)), none⟩,
  ⟨(some 19), (.load 73 (.tmp 18)), none⟩,
  ⟨(some 5), (.assign (.tmp 19)), none⟩]
attribute [go_sem] r45_4
def r45_5 : List PO := [⟨(some 20), (.move (.tmp 3)), none⟩,
  ⟨(some 21), (.move (.tmp 5)), none⟩,
  ⟨(some 22), (.call { callee := (.value (.func 45)), args := #[(.tmp 21)], argTypes := #[73] }), none⟩,
  ⟨(some 23), (.call { callee := (.builtin .append), args := #[(.tmp 20), (.tmp 22)], argTypes := #[27, 27] }), none⟩,
  ⟨(some 3), (.assign (.tmp 23)), none⟩]
attribute [go_sem] r45_5
def r45_6 : List PO := [⟨(some 24), (.binOp .add 3 (.tmp 16) (.const (.int .i64 1)) 3), none⟩,
  ⟨(some 16), (.move (.tmp 24)), none⟩]
attribute [go_sem] r45_6
def k45_1b : PC := (.seq (.reg r45_3) (.seq (.cond (.tmp 17) .skip (.pre ⟨[3], [.old 0], [], []⟩ (.exit 0))) (.seq (.block 1 (.seq (.reg r45_4) (.reg r45_5))) (.post (.reg r45_6) ⟨[3, 14, 15, 16], [.old 2], [], []⟩))))
def r45_0 : List PO := [⟨(some 2), (.assign (.const (.slice none 0 0))), none⟩]
attribute [go_sem] r45_0
def r45_1 : List PO := [⟨(some 6), (.move (.tmp 0)), none⟩,
  ⟨(some 7), (.nilCheck (.tmp 6)), none⟩,
  ⟨(some 8), (.fieldAddr 106 (.tmp 7) 0), none⟩,
  ⟨(some 9), (.load 63 (.tmp 8)), none⟩,
  ⟨(some 10), (.buildSlice 27 1 #[(0, (.tmp 9))]), none⟩,
  ⟨(some 3), (.assign (.tmp 10)), none⟩]
attribute [go_sem] r45_1
def r45_2 : List PO := [⟨(some 11), (.move (.tmp 0)), none⟩,
  ⟨(some 12), (.nilCheck (.tmp 11)), none⟩,
  ⟨(some 13), (.fieldAddr 106 (.tmp 12) 1), none⟩,
  ⟨(some 14), (.load 104 (.tmp 13)), none⟩,
  ⟨(some 15), (.call { callee := (.builtin .len), args := #[(.tmp 14)], argTypes := #[104] }), none⟩,
  ⟨(some 16), (.move (.const (.int .i64 0))), none⟩]
attribute [go_sem] r45_2
def r45_7 : List PO := [⟨(some 25), (.move (.tmp 3)), none⟩,
  ⟨(some 2), (.assign (.tmp 25)), none⟩]
attribute [go_sem] r45_7
def c45 : PC := (.seq (.reg r45_0) (.seq (.reg r45_1) (.seq (.seq (.reg r45_2) (.block 0 (.pre ⟨[3, 14, 15, 16], [.old 0], [], []⟩ (.loop k45_1b)))) (.seq (.reg r45_7) .ret))))
def i45 : FnI := ⟨26, [(.tmp 2)], c45, 0, [[0]], [[2]], false, false, 0, false⟩
-- slices.Equal[[]loop.example/g00344/impl.ReCell,loop.example/g00344/impl.ReCell]
def r70_4 : List PO := [⟨(some 14), (.binOp .lss 3 (.tmp 13) (.tmp 12) 3), none⟩]
attribute [go_sem] r70_4
def r70_5 : List PO := [⟨(some 15), (.move (.tmp 13)), none⟩,
  ⟨(some 5), (.assign (.tmp 15)), none⟩]
attribute [go_sem] r70_5
def r70_6 : List PO := [⟨(some 16), (.move (.tmp 0)), none⟩,
  ⟨(some 17), (.move (.tmp 5)), none⟩,
  ⟨(some 18), (.indexAddr 27 (.tmp 16) (.tmp 17)), none⟩,
  ⟨(some 19), (.load 63 (.tmp 18)), none⟩,
  ⟨(some 20), (.move (.tmp 1)), none⟩,
  ⟨(some 21), (.move (.tmp 5)), none⟩,
  ⟨(some 22), (.indexAddr 27 (.tmp 20) (.tmp 21)), none⟩,
  ⟨(some 23), (.load 63 (.tmp 22)), none⟩,
  ⟨(some 24), (.binOp .neq 63 (.tmp 19) (.tmp 23) 63), none⟩]
attribute [go_sem] r70_6
def r70_7 : List PO := [⟨(some 4), (.assign (.const (.bool false))), none⟩]
attribute [go_sem] r70_7
def r70_8 : List PO := [⟨(some 25), (.binOp .add 3 (.tmp 13) (.const (.int .i64 1)) 3), none⟩,
  ⟨(some 13), (.move (.tmp 25)), none⟩]
attribute [go_sem] r70_8
def k70_1b : PC := (.seq (.reg r70_4) (.seq (.cond (.tmp 14) .skip (.pre ⟨[], [], [], []⟩ (.exit 0))) (.seq (.block 1 (.seq (.reg r70_5) (.seq (.fz r70_6) (.cond (.tmp 24) (.seq (.reg r70_7) (.pre ⟨[4], [], [], []⟩ .ret)) .skip)))) (.post (.reg r70_8) ⟨[0, 1, 12, 13], [], [], []⟩))))
def r70_0 : List PO := [⟨(some 4), (.assign (.const (.bool false))), none⟩]
attribute [go_sem] r70_0
def r70_1 : List PO := [⟨(some 6), (.move (.tmp 0)), none⟩,
  ⟨(some 7), (.call { callee := (.builtin .len), args := #[(.tmp 6)], argTypes := #[27] }), none⟩,
  ⟨(some 8), (.move (.tmp 1)), none⟩,
  ⟨(some 9), (.call { callee := (.builtin .len), args := #[(.tmp 8)], argTypes := #[27] }), none⟩,
  ⟨(some 10), (.binOp .neq 3 (.tmp 7) (.tmp 9) 3), none⟩]
attribute [go_sem] r70_1
def r70_2 : List PO := [⟨(some 4), (.assign (.const (.bool false))), none⟩]
attribute [go_sem] r70_2
def r70_3 : List PO := [⟨(some 11), (.move (.tmp 0)), none⟩,
  ⟨(some 12), (.call { callee := (.builtin .len), args := #[(.tmp 11)], argTypes := #[27] }), none⟩,
  ⟨(some 13), (.move (.const (.int .i64 0))), none⟩]
attribute [go_sem] r70_3
def r70_9 : List PO := [⟨(some 4), (.assign (.const (.bool true))), none⟩]
attribute [go_sem] r70_9
def c70 : PC := (.seq (.reg r70_0) (.seq (.seq (.reg r70_1) (.cond (.tmp 10) (.seq (.reg r70_2) .ret) .skip)) (.seq (.seq (.reg r70_3) (.block 0 (.pre ⟨[0, 1, 12, 13], [], [], []⟩ (.loop k70_1b)))) (.seq (.reg r70_9) .ret))))
def i70 : FnI := ⟨26, [(.tmp 4)], c70, 0, [[2], [2]], [[0]], false, false, 0, false⟩
-- (*loop.example/g00344/impl.pattern).tidy
def r44_3 : List PO := [⟨(some 19), (.binOp .lss 3 (.tmp 18) (.tmp 17) 3), none⟩]
attribute [go_sem] r44_3
def r44_4 : List PO := [⟨(some 20), (.indexAddr 104 (.tmp 16) (.tmp 18)), none⟩,
  ⟨(some 21), (.load 73 (.tmp 20)), none⟩,
  ⟨(some 5), (.assign (.tmp 21)), none⟩]
attribute [go_sem] r44_4
def r44_5 : List PO := [⟨(some 22), (.load 73 (.tmp 3)), none⟩,
  ⟨(some 23), (.load 73 (.tmp 3)), none⟩,
  ⟨(some 24), (.nilCheck (.tmp 23)), none⟩,
  ⟨(some 25), (.fieldAddr 106 (.tmp 24) 1), none⟩,
  ⟨(some 26), (.load 104 (.tmp 25)), none⟩,
  ⟨(some 27), (.move (.tmp 5)), none⟩,
  ⟨(some 28), (.call { callee := (.value (.func 44)), args := #[(.tmp 27)], argTypes := #[73] }), none⟩,
  ⟨(some 29), (.buildSlice 104 1 #[(0, (.tmp 28))]), none⟩,
  ⟨(some 30), (.call { callee := (.builtin .append), args := #[(.tmp 26), (.tmp 29)], argTypes := #[104, 104] }), none⟩,
  ⟨(some 31), (.nilCheck (.tmp 22)), none⟩,
  ⟨(some 32), (.fieldAddr 106 (.tmp 31) 1), none⟩,
  ⟨none, (.store 104 (.tmp 32) (.tmp 30)), none⟩]
attribute [go_sem] r44_5
def x44_5 : FxI := ⟨[6, 7, 8, 11], [none, none, none, none, none, none, none, none, none, none, none, none], 0, [[], [6], [6, 7], [6, 7, 8], [6, 7, 8, 11]], [], [(0, 1, 1), (0, 2, 2), (0, 3, 3), (1, 1, 1), (1, 2, 2), (4, 1, 1), (4, 2, 2)]⟩
attribute [go_sem] x44_5
def r44_6 : List PO := [⟨(some 33), (.binOp .add 3 (.tmp 18) (.const (.int .i64 1)) 3), none⟩,
  ⟨(some 18), (.move (.tmp 33)), none⟩]
attribute [go_sem] r44_6
def k44_1b : PC := (.seq (.reg r44_3) (.seq (.cond (.tmp 19) .skip (.pre ⟨[0, 3], [.old 0, .old 1, .old 2], [], []⟩ (.exit 0))) (.seq (.block 1 (.seq (.reg r44_4) (.fx r44_5 x44_5))) (.post (.reg r44_6) ⟨[0, 3, 16, 17, 18], [.old 0, .old 1, .old 4], [], []⟩))))
def r44_10 : List PO := [⟨(some 43), (.move (.tmp 6)), none⟩,
  ⟨(some 44), (.call { callee := (.value (.tmp 43)), args := #[(.const (.int .i64 0)), (.const (.int .i64 1))], argTypes := #[3, 3] }), none⟩,
  ⟨(some 45), (.move (.tmp 44)), none⟩,
  ⟨(some 46), (.move (.tmp 6)), (some (45, false))⟩,
  ⟨(some 47), (.call { callee := (.value (.tmp 46)), args := #[(.const (.int .i64 1)), (.const (.int .i64 1))], argTypes := #[3, 3] }), (some (45, false))⟩,
  ⟨(some 48), (.pick (.tmp 45) (.const (.bool true)) (.tmp 47)), none⟩,
  ⟨(some 42), (.assign (.tmp 48)), none⟩]
attribute [go_sem] r44_10
def k44_3 : PC := (.post (.reg r44_10) ⟨[3, 6, 42], [.old 0], [], []⟩)
def r44_19 : List PO := [⟨(some 80), (.move (.tmp 6)), none⟩,
  ⟨(some 81), (.call { callee := (.value (.tmp 80)), args := #[(.const (.int .i64 1)), (.const (.int .i64 1))], argTypes := #[3, 3] }), none⟩,
  ⟨(some 82), (.move (.tmp 81)), none⟩,
  ⟨(some 83), (.load 73 (.tmp 3)), (some (82, false))⟩,
  ⟨(some 84), (.nilCheck (.tmp 83)), (some (82, false))⟩,
  ⟨(some 85), (.fieldAddr 106 (.tmp 84) 1), (some (82, false))⟩,
  ⟨(some 86), (.load 104 (.tmp 85)), (some (82, false))⟩,
  ⟨(some 87), (.indexAddr 104 (.tmp 86) (.const (.int .i64 0))), (some (82, false))⟩,
  ⟨(some 88), (.load 73 (.tmp 87)), (some (82, false))⟩,
  ⟨(some 89), (.call { callee := (.value (.func 45)), args := #[(.tmp 88)], argTypes := #[73] }), (some (82, false))⟩,
  ⟨(some 90), (.load 73 (.tmp 3)), (some (82, false))⟩,
  ⟨(some 91), (.nilCheck (.tmp 90)), (some (82, false))⟩,
  ⟨(some 92), (.fieldAddr 106 (.tmp 91) 1), (some (82, false))⟩,
  ⟨(some 93), (.load 104 (.tmp 92)), (some (82, false))⟩,
  ⟨(some 94), (.indexAddr 104 (.tmp 93) (.const (.int .i64 1))), (some (82, false))⟩,
  ⟨(some 95), (.load 73 (.tmp 94)), (some (82, false))⟩,
  ⟨(some 96), (.call { callee := (.value (.func 45)), args := #[(.tmp 95)], argTypes := #[73] }), (some (82, false))⟩,
  ⟨(some 97), (.call { callee := (.value (.func 70)), args := #[(.tmp 89), (.tmp 96)], argTypes := #[27, 27] }), (some (82, false))⟩,
  ⟨(some 98), (.pick (.tmp 82) (.const (.bool true)) (.tmp 97)), none⟩,
  ⟨(some 79), (.assign (.tmp 98)), none⟩]
attribute [go_sem] r44_19
def k44_5 : PC := (.post (.fz r44_19) ⟨[3, 79], [.old 0], [], []⟩)
def r44_22 : List PO := [⟨(some 108), (.move (.tmp 6)), none⟩,
  ⟨(some 109), (.call { callee := (.value (.tmp 108)), args := #[(.const (.int .i64 0)), (.const (.int .i64 1))], argTypes := #[3, 3] }), none⟩,
  ⟨(some 110), (.move (.tmp 109)), none⟩,
  ⟨(some 111), (.move (.tmp 6)), (some (110, false))⟩,
  ⟨(some 112), (.call { callee := (.value (.tmp 111)), args := #[(.const (.int .i64 0)), (.const (.int .i64 2))], argTypes := #[3, 3] }), (some (110, false))⟩,
  ⟨(some 113), (.pick (.tmp 110) (.const (.bool true)) (.tmp 112)), none⟩,
  ⟨(some 107), (.assign (.tmp 113)), none⟩]
attribute [go_sem] r44_22
def k44_7 : PC := (.post (.reg r44_22) ⟨[3, 6, 107], [.old 0], [], []⟩)
def r44_23 : List PO := [⟨(some 114), (.call { callee := (.value (.func 68)), args := #[(.const (.int .i64 2)), (.const (.slice none 0 0))], argTypes := #[3, 104] }), none⟩,
  ⟨(some 2), (.assign (.tmp 114)), none⟩]
attribute [go_sem] r44_23
def r44_24 : List PO := [⟨(some 116), (.move (.tmp 6)), none⟩,
  ⟨(some 117), (.call { callee := (.value (.tmp 116)), args := #[(.const (.int .i64 0)), (.const (.int .i64 7))], argTypes := #[3, 3] }), none⟩,
  ⟨(some 115), (.assign (.tmp 117)), none⟩]
attribute [go_sem] r44_24
def r44_25 : List PO := [⟨(some 118), (.load 73 (.tmp 3)), none⟩,
  ⟨(some 119), (.nilCheck (.tmp 118)), none⟩,
  ⟨(some 120), (.fieldAddr 106 (.tmp 119) 1), none⟩,
  ⟨(some 121), (.load 104 (.tmp 120)), none⟩,
  ⟨(some 122), (.indexAddr 104 (.tmp 121) (.const (.int .i64 0))), none⟩,
  ⟨(some 123), (.load 73 (.tmp 122)), none⟩,
  ⟨(some 2), (.assign (.tmp 123)), none⟩]
attribute [go_sem] r44_25
def k44_6 : PC := (.cond (.tmp 105) (.block 5 (.seq (.pre ⟨[3, 6], [.old 0], [], []⟩ k44_7) (.cond (.tmp 107) (.seq (.reg r44_23) (.pre ⟨[2], [], [], []⟩ .ret)) (.seq (.reg r44_24) (.cond (.tmp 115) (.seq (.reg r44_25) (.pre ⟨[2], [], [], []⟩ .ret)) (.post .skip ⟨[3], [.old 0], [], []⟩)))))) (.post .skip ⟨[3], [.old 0], [], []⟩))
def r44_17 : List PO := [⟨(some 71), (.move (.tmp 6)), none⟩,
  ⟨(some 72), (.call { callee := (.value (.tmp 71)), args := #[(.const (.int .i64 0)), (.const (.int .i64 1))], argTypes := #[3, 3] }), none⟩,
  ⟨(some 70), (.assign (.tmp 72)), none⟩]
attribute [go_sem] r44_17
def r44_18 : List PO := [⟨(some 73), (.load 73 (.tmp 3)), none⟩,
  ⟨(some 74), (.nilCheck (.tmp 73)), none⟩,
  ⟨(some 75), (.fieldAddr 106 (.tmp 74) 1), none⟩,
  ⟨(some 76), (.load 104 (.tmp 75)), none⟩,
  ⟨(some 77), (.indexAddr 104 (.tmp 76) (.const (.int .i64 1))), none⟩,
  ⟨(some 78), (.load 73 (.tmp 77)), none⟩,
  ⟨(some 2), (.assign (.tmp 78)), none⟩]
attribute [go_sem] r44_18
def r44_20 : List PO := [⟨(some 99), (.load 73 (.tmp 3)), none⟩,
  ⟨(some 100), (.nilCheck (.tmp 99)), none⟩,
  ⟨(some 101), (.fieldAddr 106 (.tmp 100) 1), none⟩,
  ⟨(some 102), (.load 104 (.tmp 101)), none⟩,
  ⟨(some 103), (.indexAddr 104 (.tmp 102) (.const (.int .i64 0))), none⟩,
  ⟨(some 104), (.load 73 (.tmp 103)), none⟩,
  ⟨(some 2), (.assign (.tmp 104)), none⟩]
attribute [go_sem] r44_20
def r44_21 : List PO := [⟨(some 106), (.binOp .eql 3 (.tmp 39) (.const (.int .i64 7)) 3), none⟩,
  ⟨(some 105), (.assign (.tmp 106)), none⟩]
attribute [go_sem] r44_21
def k44_4 : PC := (.cond (.tmp 68) (.block 4 (.seq (.reg r44_17) (.cond (.tmp 70) (.seq (.reg r44_18) (.pre ⟨[2], [], [], []⟩ .ret)) (.seq (.pre ⟨[3, 6], [.old 0], [], []⟩ k44_5) (.cond (.tmp 79) (.seq (.reg r44_20) (.pre ⟨[2], [], [], []⟩ .ret)) (.post .skip ⟨[3], [.old 0], [], []⟩)))))) (.seq (.reg r44_21) (.post (.pre ⟨[3, 6, 105], [.old 0], [], []⟩ k44_6) ⟨[3], [.old 0], [], []⟩)))
def r44_11 : List PO := [⟨(some 49), (.call { callee := (.value (.func 68)), args := #[(.const (.int .i64 1)), (.const (.slice none 0 0))], argTypes := #[3, 104] }), none⟩,
  ⟨(some 2), (.assign (.tmp 49)), none⟩]
attribute [go_sem] r44_11
def r44_12 : List PO := [⟨(some 51), (.move (.tmp 6)), none⟩,
  ⟨(some 52), (.call { callee := (.value (.tmp 51)), args := #[(.const (.int .i64 0)), (.const (.int .i64 2))], argTypes := #[3, 3] }), none⟩,
  ⟨(some 50), (.assign (.tmp 52)), none⟩]
attribute [go_sem] r44_12
def r44_13 : List PO := [⟨(some 53), (.load 73 (.tmp 3)), none⟩,
  ⟨(some 54), (.nilCheck (.tmp 53)), none⟩,
  ⟨(some 55), (.fieldAddr 106 (.tmp 54) 1), none⟩,
  ⟨(some 56), (.load 104 (.tmp 55)), none⟩,
  ⟨(some 57), (.indexAddr 104 (.tmp 56) (.const (.int .i64 1))), none⟩,
  ⟨(some 58), (.load 73 (.tmp 57)), none⟩,
  ⟨(some 2), (.assign (.tmp 58)), none⟩]
attribute [go_sem] r44_13
def r44_14 : List PO := [⟨(some 60), (.move (.tmp 6)), none⟩,
  ⟨(some 61), (.call { callee := (.value (.tmp 60)), args := #[(.const (.int .i64 1)), (.const (.int .i64 2))], argTypes := #[3, 3] }), none⟩,
  ⟨(some 59), (.assign (.tmp 61)), none⟩]
attribute [go_sem] r44_14
def r44_15 : List PO := [⟨(some 62), (.load 73 (.tmp 3)), none⟩,
  ⟨(some 63), (.nilCheck (.tmp 62)), none⟩,
  ⟨(some 64), (.fieldAddr 106 (.tmp 63) 1), none⟩,
  ⟨(some 65), (.load 104 (.tmp 64)), none⟩,
  ⟨(some 66), (.indexAddr 104 (.tmp 65) (.const (.int .i64 0))), none⟩,
  ⟨(some 67), (.load 73 (.tmp 66)), none⟩,
  ⟨(some 2), (.assign (.tmp 67)), none⟩]
attribute [go_sem] r44_15
def r44_16 : List PO := [⟨(some 69), (.binOp .eql 3 (.tmp 39) (.const (.int .i64 6)) 3), none⟩,
  ⟨(some 68), (.assign (.tmp 69)), none⟩]
attribute [go_sem] r44_16
def k44_2 : PC := (.cond (.tmp 40) (.block 3 (.seq (.pre ⟨[3, 6], [.old 0], [], []⟩ k44_3) (.cond (.tmp 42) (.seq (.reg r44_11) (.pre ⟨[2], [], [], []⟩ .ret)) (.seq (.reg r44_12) (.cond (.tmp 50) (.seq (.reg r44_13) (.pre ⟨[2], [], [], []⟩ .ret)) (.seq (.reg r44_14) (.cond (.tmp 59) (.seq (.reg r44_15) (.pre ⟨[2], [], [], []⟩ .ret)) (.post .skip ⟨[3], [.old 0], [], []⟩)))))))) (.seq (.reg r44_16) (.post (.pre ⟨[3, 6, 39, 68], [.old 0], [], []⟩ k44_4) ⟨[3], [.old 0], [], []⟩)))
def r44_0 : List PO := [⟨(some 2), (.assign (.const (.pointer none))), none⟩]
attribute [go_sem] r44_0
def r44_1 : List PO := [⟨(some 7), (.move (.tmp 0)), none⟩,
  ⟨(some 8), (.nilCheck (.tmp 7)), none⟩,
  ⟨(some 9), (.fieldAddr 106 (.tmp 8) 0), none⟩,
  ⟨(some 10), (.load 63 (.tmp 9)), none⟩,
  ⟨(some 11), (.build 106 #[(0, (.tmp 10))]), none⟩,
  ⟨(some 12), (.box 106 (.tmp 11)), none⟩,
  ⟨(some 3), (.alloc 73), none⟩,
  ⟨none, (.store 73 (.tmp 3) (.tmp 12)), none⟩]
attribute [go_sem] r44_1
def r44_2 : List PO := [⟨(some 13), (.move (.tmp 0)), none⟩,
  ⟨(some 14), (.nilCheck (.tmp 13)), none⟩,
  ⟨(some 15), (.fieldAddr 106 (.tmp 14) 1), none⟩,
  ⟨(some 16), (.load 104 (.tmp 15)), none⟩,
  ⟨(some 17), (.call { callee := (.builtin .len), args := #[(.tmp 16)], argTypes := #[104] }), none⟩,
  ⟨(some 18), (.move (.const (.int .i64 0))), none⟩]
attribute [go_sem] r44_2
def r44_7 : List PO := [⟨(some 34), (.makeFunc (.func 69) #[] #[(.tmp 3)]), none⟩,
  ⟨(some 6), (.assign (.tmp 34)), none⟩]
attribute [go_sem] r44_7
def r44_8 : List PO := [⟨(some 35), (.move (.tmp 0)), none⟩,
  ⟨(some 36), (.nilCheck (.tmp 35)), none⟩,
  ⟨(some 37), (.fieldAddr 106 (.tmp 36) 0), none⟩,
  ⟨(some 38), (.fieldAddr 63 (.tmp 37) 0), none⟩,
  ⟨(some 39), (.load 3 (.tmp 38)), none⟩]
attribute [go_sem] r44_8
def r44_9 : List PO := [⟨(some 41), (.binOp .eql 3 (.tmp 39) (.const (.int .i64 5)) 3), none⟩,
  ⟨(some 40), (.assign (.tmp 41)), none⟩]
attribute [go_sem] r44_9
def r44_26 : List PO := [⟨(some 124), (.load 73 (.tmp 3)), none⟩,
  ⟨(some 2), (.assign (.tmp 124)), none⟩]
attribute [go_sem] r44_26
def c44 : PC := (.seq (.reg r44_0) (.seq (.reg r44_1) (.seq (.seq (.reg r44_2) (.block 0 (.pre ⟨[0, 3, 16, 17, 18], [.old 1, .old 0, .nilB 0 2 1], [], []⟩ (.loop k44_1b)))) (.seq (.pre ⟨[0, 3], [.old 0], [], [(0, 0, 0)]⟩ (.reg r44_7)) (.seq (.seq (.reg r44_8) (.block 2 (.seq (.reg r44_9) (.pre ⟨[3, 6, 39, 40], [.old 0], [], []⟩ k44_2)))) (.seq (.reg r44_26) .ret))))))
def i44 : FnI := ⟨125, [(.tmp 2)], c44, 0, [[0]], [[0]], true, false, 0, false⟩
-- loop.example/g00344/impl.matches
def r34_3 : List PO := [⟨(some 17), (.binOp .lss 3 (.tmp 16) (.tmp 15) 3), none⟩]
attribute [go_sem] r34_3
def r34_4 : List PO := [⟨(some 18), (.indexAddr 23 (.tmp 14) (.tmp 16)), none⟩,
  ⟨(some 19), (.load 3 (.tmp 18)), none⟩,
  ⟨(some 8), (.assign (.tmp 19)), none⟩]
attribute [go_sem] r34_4
def r34_5 : List PO := [⟨(some 20), (.move (.tmp 5)), none⟩,
  ⟨(some 21), (.move (.tmp 8)), none⟩,
  ⟨(some 22), (.call { callee := (.value (.func 43)), args := #[(.tmp 20), (.tmp 21)], argTypes := #[73, 3] }), none⟩,
  ⟨(some 23), (.call { callee := (.value (.func 44)), args := #[(.tmp 22)], argTypes := #[73] }), none⟩,
  ⟨(some 5), (.assign (.tmp 23)), none⟩]
attribute [go_sem] r34_5
def r34_6 : List PO := [⟨(some 24), (.binOp .add 3 (.tmp 16) (.const (.int .i64 1)) 3), none⟩,
  ⟨(some 16), (.move (.tmp 24)), none⟩]
attribute [go_sem] r34_6
def k34_1b : PC := (.seq (.reg r34_3) (.seq (.cond (.tmp 17) .skip (.pre ⟨[5], [], [], []⟩ (.exit 0))) (.seq (.block 1 (.seq (.reg r34_4) (.reg r34_5))) (.post (.reg r34_6) ⟨[5, 14, 15, 16], [], [], []⟩))))
def r34_0 : List PO := [⟨(some 4), (.assign (.const (.bool false))), none⟩]
attribute [go_sem] r34_0
def r34_1 : List PO := [⟨(some 10), (.move (.tmp 0)), none⟩,
  ⟨(some 11), (.call { callee := (.value (.func 42)), args := #[(.tmp 10)], argTypes := #[27] }), none⟩,
  ⟨(some 9), (.move (.tmp 11)), none⟩,
  ⟨(some 12), (.extract (.tmp 9) 0), none⟩,
  ⟨(some 13), (.extract (.tmp 9) 1), none⟩,
  ⟨(some 5), (.assign (.tmp 12)), none⟩,
  ⟨(some 6), (.assign (.tmp 13)), none⟩]
attribute [go_sem] r34_1
def r34_2 : List PO := [⟨(some 14), (.move (.tmp 1)), none⟩,
  ⟨(some 15), (.call { callee := (.builtin .len), args := #[(.tmp 14)], argTypes := #[23] }), none⟩,
  ⟨(some 16), (.move (.const (.int .i64 0))), none⟩]
attribute [go_sem] r34_2
def r34_7 : List PO := [⟨(some 25), (.move (.tmp 5)), none⟩,
  ⟨(some 26), (.call { callee := (.value (.func 58)), args := #[(.tmp 25)], argTypes := #[73] }), none⟩,
  ⟨(some 4), (.assign (.tmp 26)), none⟩]
attribute [go_sem] r34_7
def c34 : PC := (.seq (.reg r34_0) (.seq (.reg r34_1) (.seq (.seq (.reg r34_2) (.block 0 (.pre ⟨[5, 14, 15, 16], [], [], []⟩ (.loop k34_1b)))) (.seq (.reg r34_7) .ret))))
def i34 : FnI := ⟨27, [(.tmp 4)], c34, 0, [[2], [1]], [[0]], false, false, 0, false⟩
-- loop.example/g00344/impl.MatchPath
def r10_1 : List PO := [⟨(some 6), (.move (.tmp 0)), none⟩,
  ⟨(some 7), (.call { callee := (.value (.func 21)), args := #[(.tmp 6)], argTypes := #[27] }), none⟩,
  ⟨(some 8), (.unOp .not 4 (.tmp 7)), none⟩,
  ⟨(some 9), (.move (.tmp 8)), none⟩,
  ⟨(some 10), (.move (.tmp 1)), (some (9, false))⟩,
  ⟨(some 11), (.call { callee := (.value (.func 33)), args := #[(.tmp 10)], argTypes := #[23] }), (some (9, false))⟩,
  ⟨(some 12), (.unOp .not 4 (.tmp 11)), (some (9, false))⟩,
  ⟨(some 13), (.pick (.tmp 9) (.const (.bool true)) (.tmp 12)), none⟩]
attribute [go_sem] r10_1
def k10_1 : PC := (.post (.reg r10_1) ⟨[0, 1, 13], [], [], []⟩)
def r10_0 : List PO := [⟨(some 4), (.assign (.const (.bool false))), none⟩,
  ⟨(some 5), (.assign (.const (.bool false))), none⟩]
attribute [go_sem] r10_0
def r10_2 : List PO := [⟨(some 4), (.assign (.const (.bool false))), none⟩,
  ⟨(some 5), (.assign (.const (.bool false))), none⟩]
attribute [go_sem] r10_2
def r10_3 : List PO := [⟨(some 14), (.move (.tmp 0)), none⟩,
  ⟨(some 15), (.move (.tmp 1)), none⟩,
  ⟨(some 16), (.call { callee := (.value (.func 34)), args := #[(.tmp 14), (.tmp 15)], argTypes := #[27, 23] }), none⟩,
  ⟨(some 4), (.assign (.tmp 16)), none⟩,
  ⟨(some 5), (.assign (.const (.bool true))), none⟩]
attribute [go_sem] r10_3
def c10 : PC := (.seq (.reg r10_0) (.seq (.seq (.pre ⟨[0, 1], [], [], []⟩ k10_1) (.cond (.tmp 13) (.seq (.reg r10_2) .ret) .skip)) (.seq (.reg r10_3) .ret)))
def i10 : FnI := ⟨17, [(.tmp 4), (.tmp 5)], c10, 0, [[2], [1]], [[0], [0]], false, false, 0, false⟩
-- loop.example/g00344/laws.eqReCell
def r35_0 : List PO := [⟨(some 2), (.box 63 (.tmp 0)), none⟩,
  ⟨(some 3), (.box 63 (.tmp 1)), none⟩,
  ⟨(some 4), (.assign (.const (.bool false))), none⟩]
attribute [go_sem] r35_0
def r35_1 : List PO := [⟨(some 5), (.fieldAddr 63 (.tmp 2) 0), none⟩,
  ⟨(some 6), (.load 3 (.tmp 5)), none⟩,
  ⟨(some 7), (.fieldAddr 63 (.tmp 3) 0), none⟩,
  ⟨(some 8), (.load 3 (.tmp 7)), none⟩,
  ⟨(some 9), (.binOp .neq 3 (.tmp 6) (.tmp 8) 3), none⟩]
attribute [go_sem] r35_1
def r35_2 : List PO := [⟨(some 4), (.assign (.const (.bool false))), none⟩]
attribute [go_sem] r35_2
def r35_3 : List PO := [⟨(some 10), (.fieldAddr 63 (.tmp 2) 1), none⟩,
  ⟨(some 11), (.load 3 (.tmp 10)), none⟩,
  ⟨(some 12), (.fieldAddr 63 (.tmp 3) 1), none⟩,
  ⟨(some 13), (.load 3 (.tmp 12)), none⟩,
  ⟨(some 14), (.binOp .neq 3 (.tmp 11) (.tmp 13) 3), none⟩]
attribute [go_sem] r35_3
def r35_4 : List PO := [⟨(some 4), (.assign (.const (.bool false))), none⟩]
attribute [go_sem] r35_4
def r35_5 : List PO := [⟨(some 4), (.assign (.const (.bool true))), none⟩]
attribute [go_sem] r35_5
def c35 : PC := (.seq (.reg r35_0) (.seq (.seq (.reg r35_1) (.cond (.tmp 9) (.seq (.reg r35_2) .ret) .skip)) (.seq (.seq (.reg r35_3) (.cond (.tmp 14) (.seq (.reg r35_4) .ret) .skip)) (.seq (.reg r35_5) .ret))))
def i35 : FnI := ⟨15, [(.tmp 4)], c35, 0, [[0, 0], [0, 0]], [[0]], false, false, 0, false⟩
-- loop.example/g00344/laws.eqReCellS
def r11_4 : List PO := [⟨(some 11), (.move (.tmp 5)), none⟩,
  ⟨(some 12), (.move (.tmp 0)), none⟩,
  ⟨(some 13), (.call { callee := (.builtin .len), args := #[(.tmp 12)], argTypes := #[27] }), none⟩,
  ⟨(some 14), (.binOp .lss 3 (.tmp 11) (.tmp 13) 3), none⟩]
attribute [go_sem] r11_4
def r11_6 : List PO := [⟨(some 17), (.move (.tmp 0)), none⟩,
  ⟨(some 18), (.move (.tmp 5)), none⟩,
  ⟨(some 19), (.indexAddr 27 (.tmp 17) (.tmp 18)), none⟩,
  ⟨(some 20), (.load 63 (.tmp 19)), none⟩,
  ⟨(some 21), (.move (.tmp 1)), none⟩,
  ⟨(some 22), (.move (.tmp 5)), none⟩,
  ⟨(some 23), (.indexAddr 27 (.tmp 21) (.tmp 22)), none⟩,
  ⟨(some 24), (.load 63 (.tmp 23)), none⟩,
  ⟨(some 25), (.call { callee := (.value (.func 35)), args := #[(.tmp 20), (.tmp 24)], argTypes := #[63, 63] }), none⟩,
  ⟨(some 26), (.unOp .not 4 (.tmp 25)), none⟩]
attribute [go_sem] r11_6
def r11_7 : List PO := [⟨(some 4), (.assign (.const (.bool false))), none⟩]
attribute [go_sem] r11_7
def r11_5 : List PO := [⟨(some 15), (.move (.tmp 5)), none⟩,
  ⟨(some 16), (.binOp .add 3 (.tmp 15) (.const (.int .i64 1)) 3), none⟩,
  ⟨(some 5), (.assign (.tmp 16)), none⟩]
attribute [go_sem] r11_5
def k11_1b : PC := (.seq (.seq (.reg r11_4) (.cond (.tmp 14) .skip (.pre ⟨[], [], [], []⟩ (.exit 0)))) (.seq (.block 1 (.seq (.fz r11_6) (.cond (.tmp 26) (.seq (.reg r11_7) (.pre ⟨[4], [], [], []⟩ .ret)) .skip))) (.post (.reg r11_5) ⟨[0, 1, 5], [], [], []⟩)))
def r11_0 : List PO := [⟨(some 4), (.assign (.const (.bool false))), none⟩]
attribute [go_sem] r11_0
def r11_1 : List PO := [⟨(some 6), (.move (.tmp 0)), none⟩,
  ⟨(some 7), (.call { callee := (.builtin .len), args := #[(.tmp 6)], argTypes := #[27] }), none⟩,
  ⟨(some 8), (.move (.tmp 1)), none⟩,
  ⟨(some 9), (.call { callee := (.builtin .len), args := #[(.tmp 8)], argTypes := #[27] }), none⟩,
  ⟨(some 10), (.binOp .neq 3 (.tmp 7) (.tmp 9) 3), none⟩]
attribute [go_sem] r11_1
def r11_2 : List PO := [⟨(some 4), (.assign (.const (.bool false))), none⟩]
attribute [go_sem] r11_2
def r11_3 : List PO := [⟨(some 5), (.assign (.const (.int .i64 0))), none⟩]
attribute [go_sem] r11_3
def r11_8 : List PO := [⟨(some 4), (.assign (.const (.bool true))), none⟩]
attribute [go_sem] r11_8
def c11 : PC := (.seq (.reg r11_0) (.seq (.seq (.reg r11_1) (.cond (.tmp 10) (.seq (.reg r11_2) .ret) .skip)) (.seq (.seq (.reg r11_3) (.block 0 (.pre ⟨[0, 1, 5], [], [], []⟩ (.loop k11_1b)))) (.seq (.reg r11_8) .ret))))
def i11 : FnI := ⟨27, [(.tmp 4)], c11, 0, [[2], [2]], [[0]], false, false, 0, false⟩
-- loop.example/g00344/laws.eqIntS
def r12_4 : List PO := [⟨(some 11), (.move (.tmp 5)), none⟩,
  ⟨(some 12), (.move (.tmp 0)), none⟩,
  ⟨(some 13), (.call { callee := (.builtin .len), args := #[(.tmp 12)], argTypes := #[23] }), none⟩,
  ⟨(some 14), (.binOp .lss 3 (.tmp 11) (.tmp 13) 3), none⟩]
attribute [go_sem] r12_4
def r12_6 : List PO := [⟨(some 17), (.move (.tmp 0)), none⟩,
  ⟨(some 18), (.move (.tmp 5)), none⟩,
  ⟨(some 19), (.indexAddr 23 (.tmp 17) (.tmp 18)), none⟩,
  ⟨(some 20), (.load 3 (.tmp 19)), none⟩,
  ⟨(some 21), (.move (.tmp 1)), none⟩,
  ⟨(some 22), (.move (.tmp 5)), none⟩,
  ⟨(some 23), (.indexAddr 23 (.tmp 21) (.tmp 22)), none⟩,
  ⟨(some 24), (.load 3 (.tmp 23)), none⟩,
  ⟨(some 25), (.binOp .neq 3 (.tmp 20) (.tmp 24) 3), none⟩]
attribute [go_sem] r12_6
def r12_7 : List PO := [⟨(some 4), (.assign (.const (.bool false))), none⟩]
attribute [go_sem] r12_7
def r12_5 : List PO := [⟨(some 15), (.move (.tmp 5)), none⟩,
  ⟨(some 16), (.binOp .add 3 (.tmp 15) (.const (.int .i64 1)) 3), none⟩,
  ⟨(some 5), (.assign (.tmp 16)), none⟩]
attribute [go_sem] r12_5
def k12_1b : PC := (.seq (.seq (.reg r12_4) (.cond (.tmp 14) .skip (.pre ⟨[], [], [], []⟩ (.exit 0)))) (.seq (.block 1 (.seq (.fz r12_6) (.cond (.tmp 25) (.seq (.reg r12_7) (.pre ⟨[4], [], [], []⟩ .ret)) .skip))) (.post (.reg r12_5) ⟨[0, 1, 5], [], [], []⟩)))
def r12_0 : List PO := [⟨(some 4), (.assign (.const (.bool false))), none⟩]
attribute [go_sem] r12_0
def r12_1 : List PO := [⟨(some 6), (.move (.tmp 0)), none⟩,
  ⟨(some 7), (.call { callee := (.builtin .len), args := #[(.tmp 6)], argTypes := #[23] }), none⟩,
  ⟨(some 8), (.move (.tmp 1)), none⟩,
  ⟨(some 9), (.call { callee := (.builtin .len), args := #[(.tmp 8)], argTypes := #[23] }), none⟩,
  ⟨(some 10), (.binOp .neq 3 (.tmp 7) (.tmp 9) 3), none⟩]
attribute [go_sem] r12_1
def r12_2 : List PO := [⟨(some 4), (.assign (.const (.bool false))), none⟩]
attribute [go_sem] r12_2
def r12_3 : List PO := [⟨(some 5), (.assign (.const (.int .i64 0))), none⟩]
attribute [go_sem] r12_3
def r12_8 : List PO := [⟨(some 4), (.assign (.const (.bool true))), none⟩]
attribute [go_sem] r12_8
def c12 : PC := (.seq (.reg r12_0) (.seq (.seq (.reg r12_1) (.cond (.tmp 10) (.seq (.reg r12_2) .ret) .skip)) (.seq (.seq (.reg r12_3) (.block 0 (.pre ⟨[0, 1, 5], [], [], []⟩ (.loop k12_1b)))) (.seq (.reg r12_8) .ret))))
def i12 : FnI := ⟨26, [(.tmp 4)], c12, 0, [[1], [1]], [[0]], false, false, 0, false⟩
-- loop.example/g00344/laws.FnExactMatchPath
def r3_11 : List PO := [⟨(some 38), (.move (.tmp 10)), none⟩,
  ⟨(some 39), (.move (.tmp 6)), none⟩,
  ⟨(some 40), (.binOp .neq 4 (.tmp 38) (.tmp 39) 4), none⟩,
  ⟨(some 41), (.move (.tmp 40)), none⟩,
  ⟨(some 42), (.move (.tmp 11)), (some (41, false))⟩,
  ⟨(some 43), (.move (.tmp 7)), (some (41, false))⟩,
  ⟨(some 44), (.binOp .neq 4 (.tmp 42) (.tmp 43) 4), (some (41, false))⟩,
  ⟨(some 45), (.pick (.tmp 41) (.const (.bool true)) (.tmp 44)), none⟩]
attribute [go_sem] r3_11
def k3_1 : PC := (.post (.reg r3_11) ⟨[0, 1, 8, 9, 45], [.old 0, .old 1], [], []⟩)
def r3_0 : List PO := [⟨(some 4), (.assign (.const (.bool false))), none⟩]
attribute [go_sem] r3_0
def r3_1 : List PO := [⟨(some 12), (.move (.tmp 1)), none⟩,
  ⟨(some 13), (.call { callee := (.builtin .len), args := #[(.tmp 12)], argTypes := #[23] }), none⟩,
  ⟨(some 14), (.binOp .gtr 3 (.tmp 13) (.const (.int .i64 1048576)) 3), none⟩]
attribute [go_sem] r3_1
def r3_2 : List PO := [⟨(some 4), (.assign (.const (.bool true))), none⟩]
attribute [go_sem] r3_2
def r3_3 : List PO := [⟨(some 5), (.assign (.const (.int .i64 1048576))), none⟩]
attribute [go_sem] r3_3
def r3_4 : List PO := [⟨(some 15), (.move (.tmp 0)), none⟩,
  ⟨(some 16), (.move (.tmp 5)), none⟩,
  ⟨(some 17), (.call { callee := (.value (.func 6)), args := #[(.tmp 15), (.tmp 16)], argTypes := #[22, 3] }), none⟩,
  ⟨(some 5), (.assign (.tmp 17)), none⟩]
attribute [go_sem] r3_4
def r3_5 : List PO := [⟨(some 18), (.move (.tmp 5)), none⟩,
  ⟨(some 19), (.binOp .lss 3 (.tmp 18) (.const (.int .i64 0)) 3), none⟩]
attribute [go_sem] r3_5
def r3_6 : List PO := [⟨(some 4), (.assign (.const (.bool true))), none⟩]
attribute [go_sem] r3_6
def r3_7 : List PO := [⟨(some 21), (.move (.tmp 0)), none⟩,
  ⟨(some 22), (.call { callee := (.value (.func 8)), args := #[(.tmp 21)], argTypes := #[22] }), none⟩,
  ⟨(some 23), (.move (.tmp 1)), none⟩,
  ⟨(some 24), (.call { callee := (.value (.func 9)), args := #[(.tmp 23)], argTypes := #[23] }), none⟩,
  ⟨(some 25), (.call { callee := (.value (.func 7)), args := #[(.tmp 22), (.tmp 24)], argTypes := #[27, 23] }), none⟩,
  ⟨(some 20), (.move (.tmp 25)), none⟩,
  ⟨(some 26), (.extract (.tmp 20) 0), none⟩,
  ⟨(some 27), (.extract (.tmp 20) 1), none⟩,
  ⟨(some 6), (.assign (.tmp 26)), none⟩,
  ⟨(some 7), (.assign (.tmp 27)), none⟩]
attribute [go_sem] r3_7
def r3_8 : List PO := [⟨(some 28), (.move (.tmp 0)), none⟩,
  ⟨(some 29), (.call { callee := (.value (.func 8)), args := #[(.tmp 28)], argTypes := #[22] }), none⟩,
  ⟨(some 8), (.assign (.tmp 29)), none⟩]
attribute [go_sem] r3_8
def r3_9 : List PO := [⟨(some 30), (.move (.tmp 1)), none⟩,
  ⟨(some 31), (.call { callee := (.value (.func 9)), args := #[(.tmp 30)], argTypes := #[23] }), none⟩,
  ⟨(some 9), (.assign (.tmp 31)), none⟩]
attribute [go_sem] r3_9
def r3_10 : List PO := [⟨(some 33), (.move (.tmp 8)), none⟩,
  ⟨(some 34), (.move (.tmp 9)), none⟩,
  ⟨(some 35), (.call { callee := (.value (.func 10)), args := #[(.tmp 33), (.tmp 34)], argTypes := #[27, 23] }), none⟩,
  ⟨(some 32), (.move (.tmp 35)), none⟩,
  ⟨(some 36), (.extract (.tmp 32) 0), none⟩,
  ⟨(some 37), (.extract (.tmp 32) 1), none⟩,
  ⟨(some 10), (.assign (.tmp 36)), none⟩,
  ⟨(some 11), (.assign (.tmp 37)), none⟩]
attribute [go_sem] r3_10
def r3_12 : List PO := [⟨(some 4), (.assign (.const (.bool false))), none⟩]
attribute [go_sem] r3_12
def r3_13 : List PO := [⟨(some 46), (.move (.tmp 8)), none⟩,
  ⟨(some 47), (.move (.tmp 0)), none⟩,
  ⟨(some 48), (.call { callee := (.value (.func 8)), args := #[(.tmp 47)], argTypes := #[22] }), none⟩,
  ⟨(some 49), (.call { callee := (.value (.func 11)), args := #[(.tmp 46), (.tmp 48)], argTypes := #[27, 27] }), none⟩,
  ⟨(some 50), (.unOp .not 4 (.tmp 49)), none⟩]
attribute [go_sem] r3_13
def r3_14 : List PO := [⟨(some 4), (.assign (.const (.bool false))), none⟩]
attribute [go_sem] r3_14
def r3_15 : List PO := [⟨(some 51), (.move (.tmp 9)), none⟩,
  ⟨(some 52), (.move (.tmp 1)), none⟩,
  ⟨(some 53), (.call { callee := (.value (.func 9)), args := #[(.tmp 52)], argTypes := #[23] }), none⟩,
  ⟨(some 54), (.call { callee := (.value (.func 12)), args := #[(.tmp 51), (.tmp 53)], argTypes := #[23, 23] }), none⟩,
  ⟨(some 55), (.unOp .not 4 (.tmp 54)), none⟩]
attribute [go_sem] r3_15
def r3_16 : List PO := [⟨(some 4), (.assign (.const (.bool false))), none⟩]
attribute [go_sem] r3_16
def r3_17 : List PO := [⟨(some 4), (.assign (.const (.bool true))), none⟩]
attribute [go_sem] r3_17
def c3 : PC := (.seq (.reg r3_0) (.seq (.seq (.reg r3_1) (.cond (.tmp 14) (.seq (.reg r3_2) .ret) .skip)) (.seq (.reg r3_3) (.seq (.reg r3_4) (.seq (.seq (.reg r3_5) (.cond (.tmp 19) (.seq (.reg r3_6) .ret) .skip)) (.seq (.reg r3_7) (.seq (.reg r3_8) (.seq (.reg r3_9) (.seq (.reg r3_10) (.seq (.seq (.pre ⟨[0, 1, 6, 7, 8, 9, 10, 11], [.old 2, .old 3], [], []⟩ k3_1) (.cond (.tmp 45) (.seq (.reg r3_12) .ret) .skip)) (.seq (.seq (.reg r3_13) (.cond (.tmp 50) (.seq (.reg r3_14) .ret) .skip)) (.seq (.seq (.reg r3_15) (.cond (.tmp 55) (.seq (.reg r3_16) .ret) .skip)) (.seq (.reg r3_17) .ret)))))))))))))
def i3 : FnI := ⟨56, [(.tmp 4)], c3, 0, [[2], [1]], [[0]], false, false, 0, false⟩
def tys : List (Nat × TyI) := [(3, ⟨1, 8, false, [.int .i64 0], [0], 0, [], .int .i64, false⟩),
  (4, ⟨1, 1, false, [.bool false], [0], 0, [], .bool, false⟩),
  (22, ⟨1, 24, false, [.nil], [2], 65, [], .other, false⟩),
  (23, ⟨1, 24, false, [.nil], [1], 3, [], .other, false⟩),
  (27, ⟨1, 24, false, [.nil], [2], 63, [], .other, false⟩),
  (54, ⟨1, 24, false, [.nil], [3], 56, [], .other, false⟩),
  (56, ⟨3, 40, true, [.int .i64 0, .int .i64 0, .nil], [0, 0, 3], 0, [(0, 1, false), (1, 1, false), (2, 1, false)], .other, false⟩),
  (63, ⟨2, 16, true, [.int .i64 0, .int .i64 0], [0, 0], 0, [(0, 1, false), (1, 1, false)], .other, true⟩),
  (65, ⟨2, 16, true, [.int .i64 0, .int .i64 0], [0, 0], 0, [(0, 1, false), (1, 1, false)], .other, true⟩),
  (73, ⟨1, 8, false, [.nilp], [0], 0, [], .other, false⟩),
  (104, ⟨1, 24, false, [.nil], [1], 73, [], .other, false⟩),
  (106, ⟨3, 40, true, [.int .i64 0, .int .i64 0, .nil], [0, 0, 1], 0, [(0, 2, true), (2, 1, false)], .other, false⟩)]
def fns : List (Nat × FnI) := [(3, i3), (6, i6), (7, i7), (8, i8), (9, i9), (10, i10), (11, i11), (12, i12), (21, i21), (28, i28), (29, i29), (30, i30), (31, i31), (32, i32), (33, i33), (34, i34), (35, i35), (36, i36), (41, i41), (42, i42), (43, i43), (44, i44), (45, i45), (49, i49), (51, i51), (52, i52), (53, i53), (58, i58), (61, i61), (62, i62), (63, i63), (64, i64), (67, i67), (68, i68), (69, i69), (70, i70), (76, i76), (78, i78), (79, i79)]
def T : Tab := mkTab tys fns
theorem soft0 : T.soft = false := rfl
theorem ty3 : T.ty 3 = some ⟨1, 8, false, [.int .i64 0], [0], 0, [], .int .i64, false⟩ := rfl
theorem base3 : T.baseOf 3 = Bs.int .i64 := rfl
theorem ty4 : T.ty 4 = some ⟨1, 1, false, [.bool false], [0], 0, [], .bool, false⟩ := rfl
theorem base4 : T.baseOf 4 = Bs.bool := rfl
theorem ty22 : T.ty 22 = some ⟨1, 24, false, [.nil], [2], 65, [], .other, false⟩ := rfl
theorem base22 : T.baseOf 22 = Bs.other := rfl
theorem elem22 : T.elemOf 22 = some ⟨2, 16, true, [.int .i64 0, .int .i64 0], [0, 0], 0, [(0, 1, false), (1, 1, false)], .other, true⟩ := rfl
theorem ty23 : T.ty 23 = some ⟨1, 24, false, [.nil], [1], 3, [], .other, false⟩ := rfl
theorem base23 : T.baseOf 23 = Bs.other := rfl
theorem elem23 : T.elemOf 23 = some ⟨1, 8, false, [.int .i64 0], [0], 0, [], .int .i64, false⟩ := rfl
theorem ty27 : T.ty 27 = some ⟨1, 24, false, [.nil], [2], 63, [], .other, false⟩ := rfl
theorem base27 : T.baseOf 27 = Bs.other := rfl
theorem elem27 : T.elemOf 27 = some ⟨2, 16, true, [.int .i64 0, .int .i64 0], [0, 0], 0, [(0, 1, false), (1, 1, false)], .other, true⟩ := rfl
theorem ty54 : T.ty 54 = some ⟨1, 24, false, [.nil], [3], 56, [], .other, false⟩ := rfl
theorem base54 : T.baseOf 54 = Bs.other := rfl
theorem elem54 : T.elemOf 54 = some ⟨3, 40, true, [.int .i64 0, .int .i64 0, .nil], [0, 0, 3], 0, [(0, 1, false), (1, 1, false), (2, 1, false)], .other, false⟩ := rfl
theorem ty56 : T.ty 56 = some ⟨3, 40, true, [.int .i64 0, .int .i64 0, .nil], [0, 0, 3], 0, [(0, 1, false), (1, 1, false), (2, 1, false)], .other, false⟩ := rfl
theorem base56 : T.baseOf 56 = Bs.other := rfl
theorem ty63 : T.ty 63 = some ⟨2, 16, true, [.int .i64 0, .int .i64 0], [0, 0], 0, [(0, 1, false), (1, 1, false)], .other, true⟩ := rfl
theorem base63 : T.baseOf 63 = Bs.other := rfl
theorem ty65 : T.ty 65 = some ⟨2, 16, true, [.int .i64 0, .int .i64 0], [0, 0], 0, [(0, 1, false), (1, 1, false)], .other, true⟩ := rfl
theorem base65 : T.baseOf 65 = Bs.other := rfl
theorem ty73 : T.ty 73 = some ⟨1, 8, false, [.nilp], [0], 0, [], .other, false⟩ := rfl
theorem base73 : T.baseOf 73 = Bs.other := rfl
theorem ty104 : T.ty 104 = some ⟨1, 24, false, [.nil], [1], 73, [], .other, false⟩ := rfl
theorem base104 : T.baseOf 104 = Bs.other := rfl
theorem elem104 : T.elemOf 104 = some ⟨1, 8, false, [.nilp], [0], 0, [], .other, false⟩ := rfl
theorem ty106 : T.ty 106 = some ⟨3, 40, true, [.int .i64 0, .int .i64 0, .nil], [0, 0, 1], 0, [(0, 2, true), (2, 1, false)], .other, false⟩ := rfl
theorem base106 : T.baseOf 106 = Bs.other := rfl
attribute [go_sem] soft0 ty3 base3 ty4 base4 ty22 base22 elem22 ty23 base23 elem23 ty27 base27 elem27 ty54 base54 elem54 ty56 base56 ty63 base63 ty65 base65 ty73 base73 ty104 base104 elem104 ty106 base106
theorem ok3 : FnOk Try.prog (3, i3) := ⟨Try.f3, _, Try.func3, rfl, by kernel_rfl, rfl, rfl, by kernel_rfl⟩
theorem ok6 : FnOk Try.prog (6, i6) := ⟨Try.f6, _, Try.func6, rfl, by kernel_rfl, rfl, rfl, by kernel_rfl⟩
theorem ok7 : FnOk Try.prog (7, i7) := ⟨Try.f7, _, Try.func7, rfl, by kernel_rfl, rfl, rfl, by kernel_rfl⟩
theorem ok8 : FnOk Try.prog (8, i8) := ⟨Try.f8, _, Try.func8, rfl, by kernel_rfl, rfl, rfl, by kernel_rfl⟩
theorem ok9 : FnOk Try.prog (9, i9) := ⟨Try.f9, _, Try.func9, rfl, by kernel_rfl, rfl, rfl, by kernel_rfl⟩
theorem ok10 : FnOk Try.prog (10, i10) := ⟨Try.f10, _, Try.func10, rfl, by kernel_rfl, rfl, rfl, by kernel_rfl⟩
theorem ok11 : FnOk Try.prog (11, i11) := ⟨Try.f11, _, Try.func11, rfl, by kernel_rfl, rfl, rfl, by kernel_rfl⟩
theorem ok12 : FnOk Try.prog (12, i12) := ⟨Try.f12, _, Try.func12, rfl, by kernel_rfl, rfl, rfl, by kernel_rfl⟩
theorem ok21 : FnOk Try.prog (21, i21) := ⟨Try.f21, _, Try.func21, rfl, by kernel_rfl, rfl, rfl, by kernel_rfl⟩
theorem ok28 : FnOk Try.prog (28, i28) := ⟨Try.f28, _, Try.func28, rfl, by kernel_rfl, rfl, rfl, by kernel_rfl⟩
theorem ok29 : FnOk Try.prog (29, i29) := ⟨Try.f29, _, Try.func29, rfl, by kernel_rfl, rfl, rfl, by kernel_rfl⟩
theorem ok30 : FnOk Try.prog (30, i30) := ⟨Try.f30, _, Try.func30, rfl, by kernel_rfl, rfl, rfl, by kernel_rfl⟩
theorem ok31 : FnOk Try.prog (31, i31) := ⟨Try.f31, _, Try.func31, rfl, by kernel_rfl, rfl, rfl, by kernel_rfl⟩
theorem ok32 : FnOk Try.prog (32, i32) := ⟨Try.f32, _, Try.func32, rfl, by kernel_rfl, rfl, rfl, by kernel_rfl⟩
theorem ok33 : FnOk Try.prog (33, i33) := ⟨Try.f33, _, Try.func33, rfl, by kernel_rfl, rfl, rfl, by kernel_rfl⟩
theorem ok34 : FnOk Try.prog (34, i34) := ⟨Try.f34, _, Try.func34, rfl, by kernel_rfl, rfl, rfl, by kernel_rfl⟩
theorem ok35 : FnOk Try.prog (35, i35) := ⟨Try.f35, _, Try.func35, rfl, by kernel_rfl, rfl, rfl, by kernel_rfl⟩
theorem ok36 : FnOk Try.prog (36, i36) := ⟨Try.f36, _, Try.func36, rfl, by kernel_rfl, rfl, rfl, by kernel_rfl⟩
theorem ok41 : FnOk Try.prog (41, i41) := ⟨Try.f41, _, Try.func41, rfl, by kernel_rfl, rfl, rfl, by kernel_rfl⟩
theorem ok42 : FnOk Try.prog (42, i42) := ⟨Try.f42, _, Try.func42, rfl, by kernel_rfl, rfl, rfl, by kernel_rfl⟩
theorem ok43 : FnOk Try.prog (43, i43) := ⟨Try.f43, _, Try.func43, rfl, by kernel_rfl, rfl, rfl, by kernel_rfl⟩
theorem ok44 : FnOk Try.prog (44, i44) := ⟨Try.f44, _, Try.func44, rfl, by kernel_rfl, rfl, rfl, by kernel_rfl⟩
theorem ok45 : FnOk Try.prog (45, i45) := ⟨Try.f45, _, Try.func45, rfl, by kernel_rfl, rfl, rfl, by kernel_rfl⟩
theorem ok49 : FnOk Try.prog (49, i49) := ⟨Try.f49, _, Try.func49, rfl, by kernel_rfl, rfl, rfl, by kernel_rfl⟩
theorem ok51 : FnOk Try.prog (51, i51) := ⟨Try.f51, _, Try.func51, rfl, by kernel_rfl, rfl, rfl, by kernel_rfl⟩
theorem ok52 : FnOk Try.prog (52, i52) := ⟨Try.f52, _, Try.func52, rfl, by kernel_rfl, rfl, rfl, by kernel_rfl⟩
theorem ok53 : FnOk Try.prog (53, i53) := ⟨Try.f53, _, Try.func53, rfl, by kernel_rfl, rfl, rfl, by kernel_rfl⟩
theorem ok58 : FnOk Try.prog (58, i58) := ⟨Try.f58, _, Try.func58, rfl, by kernel_rfl, rfl, rfl, by kernel_rfl⟩
theorem ok61 : FnOk Try.prog (61, i61) := ⟨Try.f61, _, Try.func61, rfl, by kernel_rfl, rfl, rfl, by kernel_rfl⟩
theorem ok62 : FnOk Try.prog (62, i62) := ⟨Try.f62, _, Try.func62, rfl, by kernel_rfl, rfl, rfl, by kernel_rfl⟩
theorem ok63 : FnOk Try.prog (63, i63) := ⟨Try.f63, _, Try.func63, rfl, by kernel_rfl, rfl, rfl, by kernel_rfl⟩
theorem ok64 : FnOk Try.prog (64, i64) := ⟨Try.f64, _, Try.func64, rfl, by kernel_rfl, rfl, rfl, by kernel_rfl⟩
theorem ok67 : FnOk Try.prog (67, i67) := ⟨Try.f67, _, Try.func67, rfl, by kernel_rfl, rfl, rfl, by kernel_rfl⟩
theorem ok68 : FnOk Try.prog (68, i68) := ⟨Try.f68, _, Try.func68, rfl, by kernel_rfl, rfl, rfl, by kernel_rfl⟩
theorem ok69 : FnOk Try.prog (69, i69) := ⟨Try.f69, _, Try.func69, rfl, by kernel_rfl, rfl, rfl, by kernel_rfl⟩
theorem ok70 : FnOk Try.prog (70, i70) := ⟨Try.f70, _, Try.func70, rfl, by kernel_rfl, rfl, rfl, by kernel_rfl⟩
theorem ok76 : FnOk Try.prog (76, i76) := ⟨Try.f76, _, Try.func76, rfl, by kernel_rfl, rfl, rfl, by kernel_rfl⟩
theorem ok78 : FnOk Try.prog (78, i78) := ⟨Try.f78, _, Try.func78, rfl, by kernel_rfl, rfl, rfl, by kernel_rfl⟩
theorem ok79 : FnOk Try.prog (79, i79) := ⟨Try.f79, _, Try.func79, rfl, by kernel_rfl, rfl, rfl, by kernel_rfl⟩
theorem tab : TabOk Try.prog T := tabOk_of (by kernel_rfl) (.cons ok3 (.cons ok6 (.cons ok7 (.cons ok8 (.cons ok9 (.cons ok10 (.cons ok11 (.cons ok12 (.cons ok21 (.cons ok28 (.cons ok29 (.cons ok30 (.cons ok31 (.cons ok32 (.cons ok33 (.cons ok34 (.cons ok35 (.cons ok36 (.cons ok41 (.cons ok42 (.cons ok43 (.cons ok44 (.cons ok45 (.cons ok49 (.cons ok51 (.cons ok52 (.cons ok53 (.cons ok58 (.cons ok61 (.cons ok62 (.cons ok63 (.cons ok64 (.cons ok67 (.cons ok68 (.cons ok69 (.cons ok70 (.cons ok76 (.cons ok78 (.cons ok79 (.nil))))))))))))))))))))))))))))))))))))))))
theorem fn3 : T.fn 3 = some i3 := rfl
theorem fn6 : T.fn 6 = some i6 := rfl
theorem fn7 : T.fn 7 = some i7 := rfl
theorem fn8 : T.fn 8 = some i8 := rfl
theorem fn9 : T.fn 9 = some i9 := rfl
theorem fn10 : T.fn 10 = some i10 := rfl
theorem fn11 : T.fn 11 = some i11 := rfl
theorem fn12 : T.fn 12 = some i12 := rfl
theorem fn21 : T.fn 21 = some i21 := rfl
theorem fn28 : T.fn 28 = some i28 := rfl
theorem fn29 : T.fn 29 = some i29 := rfl
theorem fn30 : T.fn 30 = some i30 := rfl
theorem fn31 : T.fn 31 = some i31 := rfl
theorem fn32 : T.fn 32 = some i32 := rfl
theorem fn33 : T.fn 33 = some i33 := rfl
theorem fn34 : T.fn 34 = some i34 := rfl
theorem fn35 : T.fn 35 = some i35 := rfl
theorem fn36 : T.fn 36 = some i36 := rfl
theorem fn41 : T.fn 41 = some i41 := rfl
theorem fn42 : T.fn 42 = some i42 := rfl
theorem fn43 : T.fn 43 = some i43 := rfl
theorem fn44 : T.fn 44 = some i44 := rfl
theorem fn45 : T.fn 45 = some i45 := rfl
theorem fn49 : T.fn 49 = some i49 := rfl
theorem fn51 : T.fn 51 = some i51 := rfl
theorem fn52 : T.fn 52 = some i52 := rfl
theorem fn53 : T.fn 53 = some i53 := rfl
theorem fn58 : T.fn 58 = some i58 := rfl
theorem fn61 : T.fn 61 = some i61 := rfl
theorem fn62 : T.fn 62 = some i62 := rfl
theorem fn63 : T.fn 63 = some i63 := rfl
theorem fn64 : T.fn 64 = some i64 := rfl
theorem fn67 : T.fn 67 = some i67 := rfl
theorem fn68 : T.fn 68 = some i68 := rfl
theorem fn69 : T.fn 69 = some i69 := rfl
theorem fn70 : T.fn 70 = some i70 := rfl
theorem fn76 : T.fn 76 = some i76 := rfl
theorem fn78 : T.fn 78 = some i78 := rfl
theorem fn79 : T.fn 79 = some i79 := rfl
end Go.Pi.Ytnogicfhdgpdjaa.MatchPath
