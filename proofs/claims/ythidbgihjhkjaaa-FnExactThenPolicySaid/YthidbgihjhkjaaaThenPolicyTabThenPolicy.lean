/- What functions of the program answer, and that the law answers true at every input; no condition -/
import Derived.Test.YthidbgihjhkjaaaProg
import Derived.Test.YthidbgihjhkjaaaPiD
set_option linter.all false
/- The program's tables for Pi: types and functions, as they stand in the loaded program, with hints. -/
namespace Go.Pi.Ythidbgihjhkjaaa.ThenPolicy
open Go Go.Proofs Go.Pi
set_option maxRecDepth 100000

-- loop.example/g00344/laws.szRangeS
def r59_0 : List PO := [⟨(some 4), (.assign (.const (.int .i64 0))), none⟩]
attribute [go_sem] r59_0
def r59_1 : List PO := [⟨(some 5), (.move (.tmp 1)), none⟩,
  ⟨(some 6), (.move (.tmp 0)), none⟩,
  ⟨(some 7), (.call { callee := (.builtin .len), args := #[(.tmp 6)], argTypes := #[61] }), none⟩,
  ⟨(some 8), (.binOp .sub 3 (.tmp 5) (.tmp 7) 3), none⟩,
  ⟨(some 1), (.assign (.tmp 8)), none⟩]
attribute [go_sem] r59_1
def r59_2 : List PO := [⟨(some 9), (.move (.tmp 1)), none⟩,
  ⟨(some 10), (.binOp .lss 3 (.tmp 9) (.const (.int .i64 0)) 3), none⟩]
attribute [go_sem] r59_2
def r59_3 : List PO := [⟨(some 4), (.assign (.const (.int .i64 (-1)))), none⟩]
attribute [go_sem] r59_3
def r59_4 : List PO := [⟨(some 11), (.move (.tmp 1)), none⟩,
  ⟨(some 4), (.assign (.tmp 11)), none⟩]
attribute [go_sem] r59_4
def c59 : PC := (.seq (.reg r59_0) (.seq (.reg r59_1) (.seq (.seq (.reg r59_2) (.cond (.tmp 10) (.seq (.reg r59_3) .ret) .skip)) (.seq (.reg r59_4) .ret))))
def i59 : FnI := ⟨12, [(.tmp 4)], c59, 0, [[4], [0]], [[0]], false, false, 0, false⟩
-- loop.example/g00344/laws.szReCellS
def r60_0 : List PO := [⟨(some 4), (.assign (.const (.int .i64 0))), none⟩]
attribute [go_sem] r60_0
def r60_1 : List PO := [⟨(some 5), (.move (.tmp 1)), none⟩,
  ⟨(some 6), (.move (.tmp 0)), none⟩,
  ⟨(some 7), (.call { callee := (.builtin .len), args := #[(.tmp 6)], argTypes := #[62] }), none⟩,
  ⟨(some 8), (.binOp .sub 3 (.tmp 5) (.tmp 7) 3), none⟩,
  ⟨(some 1), (.assign (.tmp 8)), none⟩]
attribute [go_sem] r60_1
def r60_2 : List PO := [⟨(some 9), (.move (.tmp 1)), none⟩,
  ⟨(some 10), (.binOp .lss 3 (.tmp 9) (.const (.int .i64 0)) 3), none⟩]
attribute [go_sem] r60_2
def r60_3 : List PO := [⟨(some 4), (.assign (.const (.int .i64 (-1)))), none⟩]
attribute [go_sem] r60_3
def r60_4 : List PO := [⟨(some 11), (.move (.tmp 1)), none⟩,
  ⟨(some 4), (.assign (.tmp 11)), none⟩]
attribute [go_sem] r60_4
def c60 : PC := (.seq (.reg r60_0) (.seq (.reg r60_1) (.seq (.seq (.reg r60_2) (.cond (.tmp 10) (.seq (.reg r60_3) .ret) .skip)) (.seq (.reg r60_4) .ret))))
def i60 : FnI := ⟨12, [(.tmp 4)], c60, 0, [[2], [0]], [[0]], false, false, 0, false⟩
-- loop.example/g00344/laws.szActS
def r61_0 : List PO := [⟨(some 4), (.assign (.const (.int .i64 0))), none⟩]
attribute [go_sem] r61_0
def r61_1 : List PO := [⟨(some 5), (.move (.tmp 1)), none⟩,
  ⟨(some 6), (.move (.tmp 0)), none⟩,
  ⟨(some 7), (.call { callee := (.builtin .len), args := #[(.tmp 6)], argTypes := #[63] }), none⟩,
  ⟨(some 8), (.binOp .sub 3 (.tmp 5) (.tmp 7) 3), none⟩,
  ⟨(some 1), (.assign (.tmp 8)), none⟩]
attribute [go_sem] r61_1
def r61_2 : List PO := [⟨(some 9), (.move (.tmp 1)), none⟩,
  ⟨(some 10), (.binOp .lss 3 (.tmp 9) (.const (.int .i64 0)) 3), none⟩]
attribute [go_sem] r61_2
def r61_3 : List PO := [⟨(some 4), (.assign (.const (.int .i64 (-1)))), none⟩]
attribute [go_sem] r61_3
def r61_4 : List PO := [⟨(some 11), (.move (.tmp 1)), none⟩,
  ⟨(some 4), (.assign (.tmp 11)), none⟩]
attribute [go_sem] r61_4
def c61 : PC := (.seq (.reg r61_0) (.seq (.reg r61_1) (.seq (.seq (.reg r61_2) (.cond (.tmp 10) (.seq (.reg r61_3) .ret) .skip)) (.seq (.reg r61_4) .ret))))
def i61 : FnI := ⟨12, [(.tmp 4)], c61, 0, [[2], [0]], [[0]], false, false, 0, false⟩
-- loop.example/g00344/laws.szTerm
def r27_0 : List PO := [⟨(some 2), (.box 65 (.tmp 0)), none⟩,
  ⟨(some 4), (.assign (.const (.int .i64 0))), none⟩]
attribute [go_sem] r27_0
def r27_1 : List PO := [⟨(some 5), (.fieldAddr 65 (.tmp 2) 0), none⟩,
  ⟨(some 6), (.load 61 (.tmp 5)), none⟩,
  ⟨(some 7), (.move (.tmp 1)), none⟩,
  ⟨(some 8), (.call { callee := (.value (.func 59)), args := #[(.tmp 6), (.tmp 7)], argTypes := #[61, 3] }), none⟩,
  ⟨(some 1), (.assign (.tmp 8)), none⟩]
attribute [go_sem] r27_1
def r27_2 : List PO := [⟨(some 9), (.move (.tmp 1)), none⟩,
  ⟨(some 10), (.binOp .lss 3 (.tmp 9) (.const (.int .i64 0)) 3), none⟩]
attribute [go_sem] r27_2
def r27_3 : List PO := [⟨(some 4), (.assign (.const (.int .i64 (-1)))), none⟩]
attribute [go_sem] r27_3
def r27_4 : List PO := [⟨(some 11), (.fieldAddr 65 (.tmp 2) 1), none⟩,
  ⟨(some 12), (.load 62 (.tmp 11)), none⟩,
  ⟨(some 13), (.move (.tmp 1)), none⟩,
  ⟨(some 14), (.call { callee := (.value (.func 60)), args := #[(.tmp 12), (.tmp 13)], argTypes := #[62, 3] }), none⟩,
  ⟨(some 1), (.assign (.tmp 14)), none⟩]
attribute [go_sem] r27_4
def r27_5 : List PO := [⟨(some 15), (.move (.tmp 1)), none⟩,
  ⟨(some 16), (.binOp .lss 3 (.tmp 15) (.const (.int .i64 0)) 3), none⟩]
attribute [go_sem] r27_5
def r27_6 : List PO := [⟨(some 4), (.assign (.const (.int .i64 (-1)))), none⟩]
attribute [go_sem] r27_6
def r27_7 : List PO := [⟨(some 17), (.fieldAddr 65 (.tmp 2) 3), none⟩,
  ⟨(some 18), (.load 63 (.tmp 17)), none⟩,
  ⟨(some 19), (.move (.tmp 1)), none⟩,
  ⟨(some 20), (.call { callee := (.value (.func 61)), args := #[(.tmp 18), (.tmp 19)], argTypes := #[63, 3] }), none⟩,
  ⟨(some 1), (.assign (.tmp 20)), none⟩]
attribute [go_sem] r27_7
def r27_8 : List PO := [⟨(some 21), (.move (.tmp 1)), none⟩,
  ⟨(some 22), (.binOp .lss 3 (.tmp 21) (.const (.int .i64 0)) 3), none⟩]
attribute [go_sem] r27_8
def r27_9 : List PO := [⟨(some 4), (.assign (.const (.int .i64 (-1)))), none⟩]
attribute [go_sem] r27_9
def r27_10 : List PO := [⟨(some 23), (.move (.tmp 1)), none⟩,
  ⟨(some 4), (.assign (.tmp 23)), none⟩]
attribute [go_sem] r27_10
def c27 : PC := (.seq (.reg r27_0) (.seq (.reg r27_1) (.seq (.seq (.reg r27_2) (.cond (.tmp 10) (.seq (.reg r27_3) .ret) .skip)) (.seq (.reg r27_4) (.seq (.seq (.reg r27_5) (.cond (.tmp 16) (.seq (.reg r27_6) .ret) .skip)) (.seq (.reg r27_7) (.seq (.seq (.reg r27_8) (.cond (.tmp 22) (.seq (.reg r27_9) .ret) .skip)) (.seq (.reg r27_10) .ret))))))))
def i27 : FnI := ⟨24, [(.tmp 4)], c27, 0, [[4, 2, 0, 2, 0], [0]], [[0]], false, false, 0, false⟩
-- loop.example/g00344/laws.szTermS
def r41_5 : List PO := [⟨(some 12), (.move (.tmp 5)), none⟩,
  ⟨(some 13), (.move (.tmp 0)), none⟩,
  ⟨(some 14), (.call { callee := (.builtin .len), args := #[(.tmp 13)], argTypes := #[38] }), none⟩,
  ⟨(some 15), (.binOp .lss 3 (.tmp 12) (.tmp 14) 3), none⟩]
attribute [go_sem] r41_5
def r41_7 : List PO := [⟨(some 18), (.move (.tmp 0)), none⟩,
  ⟨(some 19), (.move (.tmp 5)), none⟩,
  ⟨(some 20), (.indexAddr 38 (.tmp 18) (.tmp 19)), none⟩,
  ⟨(some 21), (.load 65 (.tmp 20)), none⟩,
  ⟨(some 22), (.move (.tmp 1)), none⟩,
  ⟨(some 23), (.call { callee := (.value (.func 27)), args := #[(.tmp 21), (.tmp 22)], argTypes := #[65, 3] }), none⟩,
  ⟨(some 1), (.assign (.tmp 23)), none⟩]
attribute [go_sem] r41_7
def r41_8 : List PO := [⟨(some 24), (.move (.tmp 1)), none⟩,
  ⟨(some 25), (.binOp .lss 3 (.tmp 24) (.const (.int .i64 0)) 3), none⟩]
attribute [go_sem] r41_8
def r41_9 : List PO := [⟨(some 4), (.assign (.const (.int .i64 (-1)))), none⟩]
attribute [go_sem] r41_9
def r41_6 : List PO := [⟨(some 16), (.move (.tmp 5)), none⟩,
  ⟨(some 17), (.binOp .add 3 (.tmp 16) (.const (.int .i64 1)) 3), none⟩,
  ⟨(some 5), (.assign (.tmp 17)), none⟩]
attribute [go_sem] r41_6
def k41_1b : PC := (.seq (.seq (.reg r41_5) (.cond (.tmp 15) .skip (.pre ⟨[1], [], [], []⟩ (.exit 0)))) (.seq (.block 1 (.seq (.reg r41_7) (.seq (.reg r41_8) (.cond (.tmp 25) (.seq (.reg r41_9) (.pre ⟨[4], [], [], []⟩ .ret)) .skip)))) (.post (.reg r41_6) ⟨[0, 1, 5], [], [], []⟩)))
def r41_0 : List PO := [⟨(some 4), (.assign (.const (.int .i64 0))), none⟩]
attribute [go_sem] r41_0
def r41_1 : List PO := [⟨(some 6), (.move (.tmp 1)), none⟩,
  ⟨(some 7), (.move (.tmp 0)), none⟩,
  ⟨(some 8), (.call { callee := (.builtin .len), args := #[(.tmp 7)], argTypes := #[38] }), none⟩,
  ⟨(some 9), (.binOp .sub 3 (.tmp 6) (.tmp 8) 3), none⟩,
  ⟨(some 1), (.assign (.tmp 9)), none⟩]
attribute [go_sem] r41_1
def r41_2 : List PO := [⟨(some 10), (.move (.tmp 1)), none⟩,
  ⟨(some 11), (.binOp .lss 3 (.tmp 10) (.const (.int .i64 0)) 3), none⟩]
attribute [go_sem] r41_2
def r41_3 : List PO := [⟨(some 4), (.assign (.const (.int .i64 (-1)))), none⟩]
attribute [go_sem] r41_3
def r41_4 : List PO := [⟨(some 5), (.assign (.const (.int .i64 0))), none⟩]
attribute [go_sem] r41_4
def r41_10 : List PO := [⟨(some 26), (.move (.tmp 1)), none⟩,
  ⟨(some 4), (.assign (.tmp 26)), none⟩]
attribute [go_sem] r41_10
def c41 : PC := (.seq (.reg r41_0) (.seq (.reg r41_1) (.seq (.seq (.reg r41_2) (.cond (.tmp 11) (.seq (.reg r41_3) .ret) .skip)) (.seq (.seq (.reg r41_4) (.block 0 (.pre ⟨[0, 1, 5], [], [], []⟩ (.loop k41_1b)))) (.seq (.reg r41_10) .ret)))))
def i41 : FnI := ⟨27, [(.tmp 4)], c41, 0, [[5], [0]], [[0]], false, false, 0, false⟩
-- loop.example/g00344/laws.szPolicy
def r13_0 : List PO := [⟨(some 2), (.box 40 (.tmp 0)), none⟩,
  ⟨(some 4), (.assign (.const (.int .i64 0))), none⟩]
attribute [go_sem] r13_0
def r13_1 : List PO := [⟨(some 5), (.fieldAddr 40 (.tmp 2) 0), none⟩,
  ⟨(some 6), (.load 38 (.tmp 5)), none⟩,
  ⟨(some 7), (.move (.tmp 1)), none⟩,
  ⟨(some 8), (.call { callee := (.value (.func 41)), args := #[(.tmp 6), (.tmp 7)], argTypes := #[38, 3] }), none⟩,
  ⟨(some 1), (.assign (.tmp 8)), none⟩]
attribute [go_sem] r13_1
def r13_2 : List PO := [⟨(some 9), (.move (.tmp 1)), none⟩,
  ⟨(some 10), (.binOp .lss 3 (.tmp 9) (.const (.int .i64 0)) 3), none⟩]
attribute [go_sem] r13_2
def r13_3 : List PO := [⟨(some 4), (.assign (.const (.int .i64 (-1)))), none⟩]
attribute [go_sem] r13_3
def r13_4 : List PO := [⟨(some 11), (.move (.tmp 1)), none⟩,
  ⟨(some 4), (.assign (.tmp 11)), none⟩]
attribute [go_sem] r13_4
def c13 : PC := (.seq (.reg r13_0) (.seq (.reg r13_1) (.seq (.seq (.reg r13_2) (.cond (.tmp 10) (.seq (.reg r13_3) .ret) .skip)) (.seq (.reg r13_4) .ret))))
def i13 : FnI := ⟨12, [(.tmp 4)], c13, 0, [[5, 0], [0]], [[0]], false, false, 0, false⟩
-- loop.example/g00344/laws.toPrefix
def r35_0 : List PO := [⟨(some 1), (.box 23 (.tmp 0)), none⟩,
  ⟨(some 2), (.alloc 31), none⟩]
attribute [go_sem] r35_0
def r35_1 : List PO := [⟨(some 3), (.alloc 31), none⟩]
attribute [go_sem] r35_1
def r35_2 : List PO := [⟨(some 4), (.fieldAddr 23 (.tmp 1) 0), none⟩,
  ⟨(some 5), (.load 3 (.tmp 4)), none⟩,
  ⟨(some 6), (.fieldAddr 31 (.tmp 3) 0), none⟩,
  ⟨none, (.store 3 (.tmp 6) (.tmp 5)), none⟩]
attribute [go_sem] r35_2
def r35_3 : List PO := [⟨(some 7), (.fieldAddr 23 (.tmp 1) 1), none⟩,
  ⟨(some 8), (.load 3 (.tmp 7)), none⟩,
  ⟨(some 9), (.fieldAddr 31 (.tmp 3) 1), none⟩,
  ⟨none, (.store 3 (.tmp 9) (.tmp 8)), none⟩]
attribute [go_sem] r35_3
def r35_4 : List PO := [⟨(some 10), (.load 31 (.tmp 3)), none⟩,
  ⟨none, (.store 31 (.tmp 2) (.tmp 10)), none⟩]
attribute [go_sem] r35_4
def c35 : PC := (.seq (.reg r35_0) (.seq (.reg r35_1) (.seq (.reg r35_2) (.seq (.reg r35_3) (.seq (.reg r35_4) .ret)))))
def i35 : FnI := ⟨11, [(.cell 2 31)], c35, 0, [[0, 0]], [[0, 0]], false, false, 0, false⟩
-- loop.example/g00344/laws.toRange
def r111_0 : List PO := [⟨(some 1), (.box 138 (.tmp 0)), none⟩,
  ⟨(some 2), (.alloc 114), none⟩]
attribute [go_sem] r111_0
def r111_1 : List PO := [⟨(some 3), (.alloc 114), none⟩]
attribute [go_sem] r111_1
def r111_2 : List PO := [⟨(some 4), (.fieldAddr 138 (.tmp 1) 0), none⟩,
  ⟨(some 5), (.load 23 (.tmp 4)), none⟩,
  ⟨(some 6), (.call { callee := (.value (.func 35)), args := #[(.tmp 5)], argTypes := #[23] }), none⟩,
  ⟨(some 7), (.fieldAddr 114 (.tmp 3) 0), none⟩,
  ⟨none, (.store 31 (.tmp 7) (.tmp 6)), none⟩]
attribute [go_sem] r111_2
def r111_3 : List PO := [⟨(some 8), (.fieldAddr 138 (.tmp 1) 1), none⟩,
  ⟨(some 9), (.load 3 (.tmp 8)), none⟩,
  ⟨(some 10), (.fieldAddr 114 (.tmp 3) 1), none⟩,
  ⟨none, (.store 3 (.tmp 10) (.tmp 9)), none⟩]
attribute [go_sem] r111_3
def r111_4 : List PO := [⟨(some 11), (.fieldAddr 138 (.tmp 1) 2), none⟩,
  ⟨(some 12), (.load 3 (.tmp 11)), none⟩,
  ⟨(some 13), (.fieldAddr 114 (.tmp 3) 2), none⟩,
  ⟨none, (.store 3 (.tmp 13) (.tmp 12)), none⟩]
attribute [go_sem] r111_4
def r111_5 : List PO := [⟨(some 14), (.load 114 (.tmp 3)), none⟩,
  ⟨none, (.store 114 (.tmp 2) (.tmp 14)), none⟩]
attribute [go_sem] r111_5
def c111 : PC := (.seq (.reg r111_0) (.seq (.reg r111_1) (.seq (.reg r111_2) (.seq (.reg r111_3) (.seq (.reg r111_4) (.seq (.reg r111_5) .ret))))))
def i111 : FnI := ⟨15, [(.cell 2 114)], c111, 0, [[0, 0, 0, 0]], [[0, 0, 0, 0]], false, false, 0, false⟩
-- loop.example/g00344/laws.toRangeS
def r63_3 : List PO := [⟨(some 8), (.move (.tmp 4)), none⟩,
  ⟨(some 9), (.move (.tmp 0)), none⟩,
  ⟨(some 10), (.call { callee := (.builtin .len), args := #[(.tmp 9)], argTypes := #[61] }), none⟩,
  ⟨(some 11), (.binOp .lss 3 (.tmp 8) (.tmp 10) 3), none⟩]
attribute [go_sem] r63_3
def r63_5 : List PO := [⟨(some 14), (.move (.tmp 3)), none⟩,
  ⟨(some 15), (.move (.tmp 4)), none⟩,
  ⟨(some 16), (.move (.tmp 0)), none⟩,
  ⟨(some 17), (.move (.tmp 4)), none⟩,
  ⟨(some 18), (.indexAddr 61 (.tmp 16) (.tmp 17)), none⟩,
  ⟨(some 19), (.load 138 (.tmp 18)), none⟩,
  ⟨(some 20), (.call { callee := (.value (.func 111)), args := #[(.tmp 19)], argTypes := #[138] }), none⟩,
  ⟨(some 21), (.indexAddr 69 (.tmp 14) (.tmp 15)), none⟩,
  ⟨none, (.store 114 (.tmp 21) (.tmp 20)), none⟩]
attribute [go_sem] r63_5
def r63_4 : List PO := [⟨(some 12), (.move (.tmp 4)), none⟩,
  ⟨(some 13), (.binOp .add 3 (.tmp 12) (.const (.int .i64 1)) 3), none⟩,
  ⟨(some 4), (.assign (.tmp 13)), none⟩]
attribute [go_sem] r63_4
def k63_1b : PC := (.seq (.seq (.reg r63_3) (.cond (.tmp 11) .skip (.pre ⟨[3], [.old 0], [], []⟩ (.exit 0)))) (.seq (.block 1 (.reg r63_5)) (.post (.reg r63_4) ⟨[0, 3, 4], [.old 0], [], []⟩)))
def r63_0 : List PO := [⟨(some 2), (.assign (.const (.slice none 0 0))), none⟩]
attribute [go_sem] r63_0
def r63_1 : List PO := [⟨(some 5), (.move (.tmp 0)), none⟩,
  ⟨(some 6), (.call { callee := (.builtin .len), args := #[(.tmp 5)], argTypes := #[61] }), none⟩,
  ⟨(some 7), (.makeSlice 69 (.tmp 6) (.tmp 6)), none⟩,
  ⟨(some 3), (.assign (.tmp 7)), none⟩]
attribute [go_sem] r63_1
def r63_2 : List PO := [⟨(some 4), (.assign (.const (.int .i64 0))), none⟩]
attribute [go_sem] r63_2
def r63_6 : List PO := [⟨(some 22), (.move (.tmp 3)), none⟩,
  ⟨(some 2), (.assign (.tmp 22)), none⟩]
attribute [go_sem] r63_6
def c63 : PC := (.seq (.reg r63_0) (.seq (.reg r63_1) (.seq (.seq (.reg r63_2) (.block 0 (.pre ⟨[0, 3, 4], [.old 0], [], []⟩ (.loop k63_1b)))) (.seq (.reg r63_6) .ret))))
def i63 : FnI := ⟨23, [(.tmp 2)], c63, 0, [[4]], [[4]], false, false, 0, false⟩
-- loop.example/g00344/laws.toReCell
def r112_0 : List PO := [⟨(some 1), (.box 140 (.tmp 0)), none⟩,
  ⟨(some 2), (.alloc 129), none⟩]
attribute [go_sem] r112_0
def r112_1 : List PO := [⟨(some 3), (.alloc 129), none⟩]
attribute [go_sem] r112_1
def r112_2 : List PO := [⟨(some 4), (.fieldAddr 140 (.tmp 1) 0), none⟩,
  ⟨(some 5), (.load 3 (.tmp 4)), none⟩,
  ⟨(some 6), (.fieldAddr 129 (.tmp 3) 0), none⟩,
  ⟨none, (.store 3 (.tmp 6) (.tmp 5)), none⟩]
attribute [go_sem] r112_2
def r112_3 : List PO := [⟨(some 7), (.fieldAddr 140 (.tmp 1) 1), none⟩,
  ⟨(some 8), (.load 3 (.tmp 7)), none⟩,
  ⟨(some 9), (.fieldAddr 129 (.tmp 3) 1), none⟩,
  ⟨none, (.store 3 (.tmp 9) (.tmp 8)), none⟩]
attribute [go_sem] r112_3
def r112_4 : List PO := [⟨(some 10), (.load 129 (.tmp 3)), none⟩,
  ⟨none, (.store 129 (.tmp 2) (.tmp 10)), none⟩]
attribute [go_sem] r112_4
def c112 : PC := (.seq (.reg r112_0) (.seq (.reg r112_1) (.seq (.reg r112_2) (.seq (.reg r112_3) (.seq (.reg r112_4) .ret)))))
def i112 : FnI := ⟨11, [(.cell 2 129)], c112, 0, [[0, 0]], [[0, 0]], false, false, 0, false⟩
-- loop.example/g00344/laws.toReCellS
def r64_3 : List PO := [⟨(some 8), (.move (.tmp 4)), none⟩,
  ⟨(some 9), (.move (.tmp 0)), none⟩,
  ⟨(some 10), (.call { callee := (.builtin .len), args := #[(.tmp 9)], argTypes := #[62] }), none⟩,
  ⟨(some 11), (.binOp .lss 3 (.tmp 8) (.tmp 10) 3), none⟩]
attribute [go_sem] r64_3
def r64_5 : List PO := [⟨(some 14), (.move (.tmp 3)), none⟩,
  ⟨(some 15), (.move (.tmp 4)), none⟩,
  ⟨(some 16), (.move (.tmp 0)), none⟩,
  ⟨(some 17), (.move (.tmp 4)), none⟩,
  ⟨(some 18), (.indexAddr 62 (.tmp 16) (.tmp 17)), none⟩,
  ⟨(some 19), (.load 140 (.tmp 18)), none⟩,
  ⟨(some 20), (.call { callee := (.value (.func 112)), args := #[(.tmp 19)], argTypes := #[140] }), none⟩,
  ⟨(some 21), (.indexAddr 70 (.tmp 14) (.tmp 15)), none⟩,
  ⟨none, (.store 129 (.tmp 21) (.tmp 20)), none⟩]
attribute [go_sem] r64_5
def r64_4 : List PO := [⟨(some 12), (.move (.tmp 4)), none⟩,
  ⟨(some 13), (.binOp .add 3 (.tmp 12) (.const (.int .i64 1)) 3), none⟩,
  ⟨(some 4), (.assign (.tmp 13)), none⟩]
attribute [go_sem] r64_4
def k64_1b : PC := (.seq (.seq (.reg r64_3) (.cond (.tmp 11) .skip (.pre ⟨[3], [.old 0], [], []⟩ (.exit 0)))) (.seq (.block 1 (.reg r64_5)) (.post (.reg r64_4) ⟨[0, 3, 4], [.old 0], [], []⟩)))
def r64_0 : List PO := [⟨(some 2), (.assign (.const (.slice none 0 0))), none⟩]
attribute [go_sem] r64_0
def r64_1 : List PO := [⟨(some 5), (.move (.tmp 0)), none⟩,
  ⟨(some 6), (.call { callee := (.builtin .len), args := #[(.tmp 5)], argTypes := #[62] }), none⟩,
  ⟨(some 7), (.makeSlice 70 (.tmp 6) (.tmp 6)), none⟩,
  ⟨(some 3), (.assign (.tmp 7)), none⟩]
attribute [go_sem] r64_1
def r64_2 : List PO := [⟨(some 4), (.assign (.const (.int .i64 0))), none⟩]
attribute [go_sem] r64_2
def r64_6 : List PO := [⟨(some 22), (.move (.tmp 3)), none⟩,
  ⟨(some 2), (.assign (.tmp 22)), none⟩]
attribute [go_sem] r64_6
def c64 : PC := (.seq (.reg r64_0) (.seq (.reg r64_1) (.seq (.seq (.reg r64_2) (.block 0 (.pre ⟨[0, 3, 4], [.old 0], [], []⟩ (.loop k64_1b)))) (.seq (.reg r64_6) .ret))))
def i64 : FnI := ⟨23, [(.tmp 2)], c64, 0, [[2]], [[2]], false, false, 0, false⟩
-- loop.example/g00344/laws.toAct
def r19_0 : List PO := [⟨(some 1), (.box 50 (.tmp 0)), none⟩,
  ⟨(some 2), (.alloc 53), none⟩]
attribute [go_sem] r19_0
def r19_1 : List PO := [⟨(some 3), (.alloc 53), none⟩]
attribute [go_sem] r19_1
def r19_2 : List PO := [⟨(some 4), (.fieldAddr 50 (.tmp 1) 0), none⟩,
  ⟨(some 5), (.load 3 (.tmp 4)), none⟩,
  ⟨(some 6), (.fieldAddr 53 (.tmp 3) 0), none⟩,
  ⟨none, (.store 3 (.tmp 6) (.tmp 5)), none⟩]
attribute [go_sem] r19_2
def r19_3 : List PO := [⟨(some 7), (.fieldAddr 50 (.tmp 1) 1), none⟩,
  ⟨(some 8), (.load 3 (.tmp 7)), none⟩,
  ⟨(some 9), (.fieldAddr 53 (.tmp 3) 1), none⟩,
  ⟨none, (.store 3 (.tmp 9) (.tmp 8)), none⟩]
attribute [go_sem] r19_3
def r19_4 : List PO := [⟨(some 10), (.load 53 (.tmp 3)), none⟩,
  ⟨none, (.store 53 (.tmp 2) (.tmp 10)), none⟩]
attribute [go_sem] r19_4
def c19 : PC := (.seq (.reg r19_0) (.seq (.reg r19_1) (.seq (.reg r19_2) (.seq (.reg r19_3) (.seq (.reg r19_4) .ret)))))
def i19 : FnI := ⟨11, [(.cell 2 53)], c19, 0, [[0, 0]], [[0, 0]], false, false, 0, false⟩
-- loop.example/g00344/laws.toActS
def r65_3 : List PO := [⟨(some 8), (.move (.tmp 4)), none⟩,
  ⟨(some 9), (.move (.tmp 0)), none⟩,
  ⟨(some 10), (.call { callee := (.builtin .len), args := #[(.tmp 9)], argTypes := #[63] }), none⟩,
  ⟨(some 11), (.binOp .lss 3 (.tmp 8) (.tmp 10) 3), none⟩]
attribute [go_sem] r65_3
def r65_5 : List PO := [⟨(some 14), (.move (.tmp 3)), none⟩,
  ⟨(some 15), (.move (.tmp 4)), none⟩,
  ⟨(some 16), (.move (.tmp 0)), none⟩,
  ⟨(some 17), (.move (.tmp 4)), none⟩,
  ⟨(some 18), (.indexAddr 63 (.tmp 16) (.tmp 17)), none⟩,
  ⟨(some 19), (.load 50 (.tmp 18)), none⟩,
  ⟨(some 20), (.call { callee := (.value (.func 19)), args := #[(.tmp 19)], argTypes := #[50] }), none⟩,
  ⟨(some 21), (.indexAddr 71 (.tmp 14) (.tmp 15)), none⟩,
  ⟨none, (.store 53 (.tmp 21) (.tmp 20)), none⟩]
attribute [go_sem] r65_5
def r65_4 : List PO := [⟨(some 12), (.move (.tmp 4)), none⟩,
  ⟨(some 13), (.binOp .add 3 (.tmp 12) (.const (.int .i64 1)) 3), none⟩,
  ⟨(some 4), (.assign (.tmp 13)), none⟩]
attribute [go_sem] r65_4
def k65_1b : PC := (.seq (.seq (.reg r65_3) (.cond (.tmp 11) .skip (.pre ⟨[3], [.old 0], [], []⟩ (.exit 0)))) (.seq (.block 1 (.reg r65_5)) (.post (.reg r65_4) ⟨[0, 3, 4], [.old 0], [], []⟩)))
def r65_0 : List PO := [⟨(some 2), (.assign (.const (.slice none 0 0))), none⟩]
attribute [go_sem] r65_0
def r65_1 : List PO := [⟨(some 5), (.move (.tmp 0)), none⟩,
  ⟨(some 6), (.call { callee := (.builtin .len), args := #[(.tmp 5)], argTypes := #[63] }), none⟩,
  ⟨(some 7), (.makeSlice 71 (.tmp 6) (.tmp 6)), none⟩,
  ⟨(some 3), (.assign (.tmp 7)), none⟩]
attribute [go_sem] r65_1
def r65_2 : List PO := [⟨(some 4), (.assign (.const (.int .i64 0))), none⟩]
attribute [go_sem] r65_2
def r65_6 : List PO := [⟨(some 22), (.move (.tmp 3)), none⟩,
  ⟨(some 2), (.assign (.tmp 22)), none⟩]
attribute [go_sem] r65_6
def c65 : PC := (.seq (.reg r65_0) (.seq (.reg r65_1) (.seq (.seq (.reg r65_2) (.block 0 (.pre ⟨[0, 3, 4], [.old 0], [], []⟩ (.loop k65_1b)))) (.seq (.reg r65_6) .ret))))
def i65 : FnI := ⟨23, [(.tmp 2)], c65, 0, [[2]], [[2]], false, false, 0, false⟩
-- loop.example/g00344/laws.toTerm
def r29_0 : List PO := [⟨(some 1), (.box 65 (.tmp 0)), none⟩,
  ⟨(some 2), (.alloc 73), none⟩]
attribute [go_sem] r29_0
def r29_1 : List PO := [⟨(some 3), (.alloc 73), none⟩]
attribute [go_sem] r29_1
def r29_2 : List PO := [⟨(some 4), (.fieldAddr 65 (.tmp 1) 0), none⟩,
  ⟨(some 5), (.load 61 (.tmp 4)), none⟩,
  ⟨(some 6), (.call { callee := (.value (.func 63)), args := #[(.tmp 5)], argTypes := #[61] }), none⟩,
  ⟨(some 7), (.fieldAddr 73 (.tmp 3) 0), none⟩,
  ⟨none, (.store 69 (.tmp 7) (.tmp 6)), none⟩]
attribute [go_sem] r29_2
def r29_3 : List PO := [⟨(some 8), (.fieldAddr 65 (.tmp 1) 1), none⟩,
  ⟨(some 9), (.load 62 (.tmp 8)), none⟩,
  ⟨(some 10), (.call { callee := (.value (.func 64)), args := #[(.tmp 9)], argTypes := #[62] }), none⟩,
  ⟨(some 11), (.fieldAddr 73 (.tmp 3) 1), none⟩,
  ⟨none, (.store 70 (.tmp 11) (.tmp 10)), none⟩]
attribute [go_sem] r29_3
def r29_4 : List PO := [⟨(some 12), (.fieldAddr 65 (.tmp 1) 2), none⟩,
  ⟨(some 13), (.load 3 (.tmp 12)), none⟩,
  ⟨(some 14), (.fieldAddr 73 (.tmp 3) 2), none⟩,
  ⟨none, (.store 3 (.tmp 14) (.tmp 13)), none⟩]
attribute [go_sem] r29_4
def r29_5 : List PO := [⟨(some 15), (.fieldAddr 65 (.tmp 1) 3), none⟩,
  ⟨(some 16), (.load 63 (.tmp 15)), none⟩,
  ⟨(some 17), (.call { callee := (.value (.func 65)), args := #[(.tmp 16)], argTypes := #[63] }), none⟩,
  ⟨(some 18), (.fieldAddr 73 (.tmp 3) 3), none⟩,
  ⟨none, (.store 71 (.tmp 18) (.tmp 17)), none⟩]
attribute [go_sem] r29_5
def r29_6 : List PO := [⟨(some 19), (.fieldAddr 65 (.tmp 1) 4), none⟩,
  ⟨(some 20), (.load 3 (.tmp 19)), none⟩,
  ⟨(some 21), (.fieldAddr 73 (.tmp 3) 4), none⟩,
  ⟨none, (.store 3 (.tmp 21) (.tmp 20)), none⟩]
attribute [go_sem] r29_6
def r29_7 : List PO := [⟨(some 22), (.load 73 (.tmp 3)), none⟩,
  ⟨none, (.store 73 (.tmp 2) (.tmp 22)), none⟩]
attribute [go_sem] r29_7
def c29 : PC := (.seq (.reg r29_0) (.seq (.reg r29_1) (.seq (.reg r29_2) (.seq (.reg r29_3) (.seq (.reg r29_4) (.seq (.reg r29_5) (.seq (.reg r29_6) (.seq (.reg r29_7) .ret))))))))
def i29 : FnI := ⟨23, [(.cell 2 73)], c29, 0, [[4, 2, 0, 2, 0]], [[4, 2, 0, 2, 0]], false, false, 0, false⟩
-- loop.example/g00344/laws.toTermS
def r43_3 : List PO := [⟨(some 8), (.move (.tmp 4)), none⟩,
  ⟨(some 9), (.move (.tmp 0)), none⟩,
  ⟨(some 10), (.call { callee := (.builtin .len), args := #[(.tmp 9)], argTypes := #[38] }), none⟩,
  ⟨(some 11), (.binOp .lss 3 (.tmp 8) (.tmp 10) 3), none⟩]
attribute [go_sem] r43_3
def r43_5 : List PO := [⟨(some 14), (.move (.tmp 3)), none⟩,
  ⟨(some 15), (.move (.tmp 4)), none⟩,
  ⟨(some 16), (.move (.tmp 0)), none⟩,
  ⟨(some 17), (.move (.tmp 4)), none⟩,
  ⟨(some 18), (.indexAddr 38 (.tmp 16) (.tmp 17)), none⟩,
  ⟨(some 19), (.load 65 (.tmp 18)), none⟩,
  ⟨(some 20), (.call { callee := (.value (.func 29)), args := #[(.tmp 19)], argTypes := #[65] }), none⟩,
  ⟨(some 21), (.indexAddr 43 (.tmp 14) (.tmp 15)), none⟩,
  ⟨none, (.store 73 (.tmp 21) (.tmp 20)), none⟩]
attribute [go_sem] r43_5
def r43_4 : List PO := [⟨(some 12), (.move (.tmp 4)), none⟩,
  ⟨(some 13), (.binOp .add 3 (.tmp 12) (.const (.int .i64 1)) 3), none⟩,
  ⟨(some 4), (.assign (.tmp 13)), none⟩]
attribute [go_sem] r43_4
def k43_1b : PC := (.seq (.seq (.reg r43_3) (.cond (.tmp 11) .skip (.pre ⟨[3], [.old 0], [], []⟩ (.exit 0)))) (.seq (.block 1 (.reg r43_5)) (.post (.reg r43_4) ⟨[0, 3, 4], [.old 0], [], []⟩)))
def r43_0 : List PO := [⟨(some 2), (.assign (.const (.slice none 0 0))), none⟩]
attribute [go_sem] r43_0
def r43_1 : List PO := [⟨(some 5), (.move (.tmp 0)), none⟩,
  ⟨(some 6), (.call { callee := (.builtin .len), args := #[(.tmp 5)], argTypes := #[38] }), none⟩,
  ⟨(some 7), (.makeSlice 43 (.tmp 6) (.tmp 6)), none⟩,
  ⟨(some 3), (.assign (.tmp 7)), none⟩]
attribute [go_sem] r43_1
def r43_2 : List PO := [⟨(some 4), (.assign (.const (.int .i64 0))), none⟩]
attribute [go_sem] r43_2
def r43_6 : List PO := [⟨(some 22), (.move (.tmp 3)), none⟩,
  ⟨(some 2), (.assign (.tmp 22)), none⟩]
attribute [go_sem] r43_6
def c43 : PC := (.seq (.reg r43_0) (.seq (.reg r43_1) (.seq (.seq (.reg r43_2) (.block 0 (.pre ⟨[0, 3, 4], [.old 0], [], []⟩ (.loop k43_1b)))) (.seq (.reg r43_6) .ret))))
def i43 : FnI := ⟨23, [(.tmp 2)], c43, 0, [[5]], [[5]], false, false, 0, false⟩
-- loop.example/g00344/laws.toPolicy
def r15_0 : List PO := [⟨(some 1), (.box 40 (.tmp 0)), none⟩,
  ⟨(some 2), (.alloc 45), none⟩]
attribute [go_sem] r15_0
def r15_1 : List PO := [⟨(some 3), (.alloc 45), none⟩]
attribute [go_sem] r15_1
def r15_2 : List PO := [⟨(some 4), (.fieldAddr 40 (.tmp 1) 0), none⟩,
  ⟨(some 5), (.load 38 (.tmp 4)), none⟩,
  ⟨(some 6), (.call { callee := (.value (.func 43)), args := #[(.tmp 5)], argTypes := #[38] }), none⟩,
  ⟨(some 7), (.fieldAddr 45 (.tmp 3) 0), none⟩,
  ⟨none, (.store 43 (.tmp 7) (.tmp 6)), none⟩]
attribute [go_sem] r15_2
def r15_3 : List PO := [⟨(some 8), (.fieldAddr 40 (.tmp 1) 1), none⟩,
  ⟨(some 9), (.load 4 (.tmp 8)), none⟩,
  ⟨(some 10), (.fieldAddr 45 (.tmp 3) 1), none⟩,
  ⟨none, (.store 4 (.tmp 10) (.tmp 9)), none⟩]
attribute [go_sem] r15_3
def r15_4 : List PO := [⟨(some 11), (.load 45 (.tmp 3)), none⟩,
  ⟨none, (.store 45 (.tmp 2) (.tmp 11)), none⟩]
attribute [go_sem] r15_4
def c15 : PC := (.seq (.reg r15_0) (.seq (.reg r15_1) (.seq (.reg r15_2) (.seq (.reg r15_3) (.seq (.reg r15_4) .ret)))))
def i15 : FnI := ⟨12, [(.cell 2 45)], c15, 0, [[5, 0]], [[5, 0]], false, false, 0, false⟩
-- loop.example/g00344/spec.l1In
def r71_1 : List PO := [⟨(some 7), (.move (.tmp 0)), none⟩,
  ⟨(some 8), (.move (.tmp 1)), none⟩,
  ⟨(some 9), (.binOp .geq 3 (.tmp 7) (.tmp 8) 3), none⟩,
  ⟨(some 10), (.move (.tmp 9)), none⟩,
  ⟨(some 11), (.move (.tmp 0)), (some (10, true))⟩,
  ⟨(some 12), (.move (.tmp 2)), (some (10, true))⟩,
  ⟨(some 13), (.binOp .leq 3 (.tmp 11) (.tmp 12) 3), (some (10, true))⟩,
  ⟨(some 14), (.pick (.tmp 10) (.tmp 13) (.const (.bool false))), none⟩,
  ⟨(some 6), (.assign (.tmp 14)), none⟩]
attribute [go_sem] r71_1
def k71_1 : PC := (.post (.reg r71_1) ⟨[6], [], [], []⟩)
def r71_0 : List PO := [⟨(some 6), (.assign (.const (.bool false))), none⟩]
attribute [go_sem] r71_0
def c71 : PC := (.seq (.reg r71_0) (.seq (.pre ⟨[0, 1, 2], [], [], []⟩ k71_1) .ret))
def i71 : FnI := ⟨15, [(.tmp 6)], c71, 0, [[0], [0], [0]], [[0]], false, false, 0, false⟩
-- loop.example/g00344/spec.l1Addr
def r72_0 : List PO := [⟨(some 2), (.assign (.const (.bool false))), none⟩]
attribute [go_sem] r72_0
def r72_1 : List PO := [⟨(some 3), (.move (.tmp 0)), none⟩,
  ⟨(some 4), (.call { callee := (.value (.func 71)), args := #[(.tmp 3), (.const (.int .i64 0)), (.const (.int .i64 4294967295))], argTypes := #[3, 3, 3] }), none⟩,
  ⟨(some 2), (.assign (.tmp 4)), none⟩]
attribute [go_sem] r72_1
def c72 : PC := (.seq (.reg r72_0) (.seq (.reg r72_1) .ret))
def i72 : FnI := ⟨5, [(.tmp 2)], c72, 0, [[0]], [[0]], false, false, 0, false⟩
-- loop.example/g00344/spec.l1Size
def r73_0 : List PO := [⟨(some 1), (.box 31 (.tmp 0)), none⟩,
  ⟨(some 2), (.assign (.const (.int .i64 0))), none⟩]
attribute [go_sem] r73_0
def r73_1 : List PO := [⟨(some 3), (.fieldAddr 31 (.tmp 1) 1), none⟩,
  ⟨(some 4), (.load 3 (.tmp 3)), none⟩,
  ⟨(some 5), (.binOp .sub 3 (.const (.int .i64 32)) (.tmp 4) 3), none⟩,
  ⟨(some 6), (.convert 3 145 (.tmp 5)), none⟩,
  ⟨(some 7), (.binOp .shl 3 (.const (.int .i64 1)) (.tmp 6) 145), none⟩,
  ⟨(some 2), (.assign (.tmp 7)), none⟩]
attribute [go_sem] r73_1
def c73 : PC := (.seq (.reg r73_0) (.seq (.reg r73_1) .ret))
def i73 : FnI := ⟨8, [(.tmp 2)], c73, 0, [[0, 0]], [[0]], false, false, 0, false⟩
-- loop.example/g00344/spec.GoodPrefix
def r33_1 : List PO := [⟨(some 3), (.fieldAddr 31 (.tmp 1) 1), none⟩,
  ⟨(some 4), (.load 3 (.tmp 3)), none⟩,
  ⟨(some 5), (.call { callee := (.value (.func 71)), args := #[(.tmp 4), (.const (.int .i64 0)), (.const (.int .i64 32))], argTypes := #[3, 3, 3] }), none⟩,
  ⟨(some 6), (.move (.tmp 5)), none⟩,
  ⟨(some 7), (.fieldAddr 31 (.tmp 1) 0), (some (6, true))⟩,
  ⟨(some 8), (.load 3 (.tmp 7)), (some (6, true))⟩,
  ⟨(some 9), (.call { callee := (.value (.func 72)), args := #[(.tmp 8)], argTypes := #[3] }), (some (6, true))⟩,
  ⟨(some 10), (.pick (.tmp 6) (.tmp 9) (.const (.bool false))), none⟩,
  ⟨(some 11), (.move (.tmp 10)), none⟩,
  ⟨(some 12), (.fieldAddr 31 (.tmp 1) 0), (some (11, true))⟩,
  ⟨(some 13), (.load 3 (.tmp 12)), (some (11, true))⟩,
  ⟨(some 14), (.load 31 (.tmp 1)), (some (11, true))⟩,
  ⟨(some 15), (.call { callee := (.value (.func 73)), args := #[(.tmp 14)], argTypes := #[31] }), (some (11, true))⟩,
  ⟨(some 16), (.binOp .rem 3 (.tmp 13) (.tmp 15) 3), (some (11, true))⟩,
  ⟨(some 17), (.binOp .eql 3 (.tmp 16) (.const (.int .i64 0)) 3), (some (11, true))⟩,
  ⟨(some 18), (.pick (.tmp 11) (.tmp 17) (.const (.bool false))), none⟩,
  ⟨(some 2), (.assign (.tmp 18)), none⟩]
attribute [go_sem] r33_1
def k33_1 : PC := (.post (.fz r33_1) ⟨[2], [], [], []⟩)
def r33_0 : List PO := [⟨(some 1), (.box 31 (.tmp 0)), none⟩,
  ⟨(some 2), (.assign (.const (.bool false))), none⟩]
attribute [go_sem] r33_0
def c33 : PC := (.seq (.reg r33_0) (.seq (.pre ⟨[1], [.old 0], [], []⟩ k33_1) .ret))
def i33 : FnI := ⟨19, [(.tmp 2)], c33, 0, [[0, 0]], [[0]], false, false, 0, false⟩
-- loop.example/g00344/spec.l7Act
def r48_5 : List PO := [⟨(some 9), (.binOp .eql 3 (.tmp 4) (.const (.int .i64 4)) 3), none⟩,
  ⟨(some 5), (.assign (.tmp 9)), none⟩]
attribute [go_sem] r48_5
def k48_3 : PC := (.cond (.tmp 5) (.post .skip ⟨[1, 5], [.old 0], [], []⟩) (.post (.reg r48_5) ⟨[1, 5], [.old 0], [], []⟩))
def r48_4 : List PO := [⟨(some 8), (.binOp .eql 3 (.tmp 4) (.const (.int .i64 3)) 3), none⟩,
  ⟨(some 5), (.assign (.tmp 8)), none⟩]
attribute [go_sem] r48_4
def k48_2 : PC := (.cond (.tmp 5) (.post .skip ⟨[1, 5], [.old 0], [], []⟩) (.seq (.reg r48_4) (.post (.pre ⟨[1, 4, 5], [.old 0], [], []⟩ k48_3) ⟨[1, 5], [.old 0], [], []⟩)))
def r48_3 : List PO := [⟨(some 7), (.binOp .eql 3 (.tmp 4) (.const (.int .i64 2)) 3), none⟩,
  ⟨(some 5), (.assign (.tmp 7)), none⟩]
attribute [go_sem] r48_3
def k48_1 : PC := (.cond (.tmp 5) (.post .skip ⟨[1, 5], [.old 0], [], []⟩) (.seq (.reg r48_3) (.post (.pre ⟨[1, 4, 5], [.old 0], [], []⟩ k48_2) ⟨[1, 5], [.old 0], [], []⟩)))
def r48_7 : List PO := [⟨(some 13), (.fieldAddr 53 (.tmp 1) 0), none⟩,
  ⟨(some 14), (.load 3 (.tmp 13)), none⟩,
  ⟨(some 15), (.binOp .eql 3 (.tmp 14) (.const (.int .i64 5)) 3), none⟩,
  ⟨(some 16), (.move (.tmp 15)), none⟩,
  ⟨(some 17), (.fieldAddr 53 (.tmp 1) 1), (some (16, true))⟩,
  ⟨(some 18), (.load 3 (.tmp 17)), (some (16, true))⟩,
  ⟨(some 19), (.call { callee := (.value (.func 71)), args := #[(.tmp 18), (.const (.int .i64 1)), (.const (.int .i64 65535))], argTypes := #[3, 3, 3] }), (some (16, true))⟩,
  ⟨(some 20), (.pick (.tmp 16) (.tmp 19) (.const (.bool false))), none⟩,
  ⟨(some 2), (.assign (.tmp 20)), none⟩]
attribute [go_sem] r48_7
def k48_4 : PC := (.post (.reg r48_7) ⟨[2], [], [], []⟩)
def r48_0 : List PO := [⟨(some 1), (.box 53 (.tmp 0)), none⟩,
  ⟨(some 2), (.assign (.const (.bool false))), none⟩]
attribute [go_sem] r48_0
def r48_1 : List PO := [⟨(some 3), (.fieldAddr 53 (.tmp 1) 0), none⟩,
  ⟨(some 4), (.load 3 (.tmp 3)), none⟩]
attribute [go_sem] r48_1
def r48_2 : List PO := [⟨(some 6), (.binOp .eql 3 (.tmp 4) (.const (.int .i64 1)) 3), none⟩,
  ⟨(some 5), (.assign (.tmp 6)), none⟩]
attribute [go_sem] r48_2
def r48_6 : List PO := [⟨(some 10), (.fieldAddr 53 (.tmp 1) 1), none⟩,
  ⟨(some 11), (.load 3 (.tmp 10)), none⟩,
  ⟨(some 12), (.call { callee := (.value (.func 71)), args := #[(.tmp 11), (.const (.int .i64 0)), (.const (.int .i64 1000000))], argTypes := #[3, 3, 3] }), none⟩,
  ⟨(some 2), (.assign (.tmp 12)), none⟩]
attribute [go_sem] r48_6
def c48 : PC := (.seq (.reg r48_0) (.seq (.seq (.reg r48_1) (.block 0 (.seq (.seq (.reg r48_2) (.pre ⟨[1, 4, 5], [.old 0], [], []⟩ k48_1)) (.cond (.tmp 5) (.seq (.reg r48_6) .ret) .skip)))) (.seq (.pre ⟨[1], [.old 0], [], []⟩ k48_4) .ret)))
def i48 : FnI := ⟨21, [(.tmp 2)], c48, 0, [[0, 0]], [[0]], false, false, 0, false⟩
-- loop.example/g00344/spec.l6Arity
def r154_5 : List PO := [⟨(some 8), (.binOp .eql 3 (.tmp 3) (.const (.int .i64 4)) 3), none⟩,
  ⟨(some 4), (.assign (.tmp 8)), none⟩]
attribute [go_sem] r154_5
def k154_3 : PC := (.cond (.tmp 4) (.post .skip ⟨[3, 4], [], [], []⟩) (.post (.reg r154_5) ⟨[3, 4], [], [], []⟩))
def r154_4 : List PO := [⟨(some 7), (.binOp .eql 3 (.tmp 3) (.const (.int .i64 3)) 3), none⟩,
  ⟨(some 4), (.assign (.tmp 7)), none⟩]
attribute [go_sem] r154_4
def k154_2 : PC := (.cond (.tmp 4) (.post .skip ⟨[3, 4], [], [], []⟩) (.seq (.reg r154_4) (.post (.pre ⟨[3, 4], [], [], []⟩ k154_3) ⟨[3, 4], [], [], []⟩)))
def r154_3 : List PO := [⟨(some 6), (.binOp .eql 3 (.tmp 3) (.const (.int .i64 2)) 3), none⟩,
  ⟨(some 4), (.assign (.tmp 6)), none⟩]
attribute [go_sem] r154_3
def k154_1 : PC := (.cond (.tmp 4) (.post .skip ⟨[3, 4], [], [], []⟩) (.seq (.reg r154_3) (.post (.pre ⟨[3, 4], [], [], []⟩ k154_2) ⟨[3, 4], [], [], []⟩)))
def r154_8 : List PO := [⟨(some 11), (.binOp .eql 3 (.tmp 3) (.const (.int .i64 6)) 3), none⟩,
  ⟨(some 9), (.assign (.tmp 11)), none⟩]
attribute [go_sem] r154_8
def k154_4 : PC := (.cond (.tmp 9) (.post .skip ⟨[3, 9], [], [], []⟩) (.post (.reg r154_8) ⟨[3, 9], [], [], []⟩))
def r154_0 : List PO := [⟨(some 2), (.assign (.const (.int .i64 0))), none⟩]
attribute [go_sem] r154_0
def r154_1 : List PO := [⟨(some 3), (.move (.tmp 0)), none⟩]
attribute [go_sem] r154_1
def r154_2 : List PO := [⟨(some 5), (.binOp .eql 3 (.tmp 3) (.const (.int .i64 1)) 3), none⟩,
  ⟨(some 4), (.assign (.tmp 5)), none⟩]
attribute [go_sem] r154_2
def r154_6 : List PO := [⟨(some 2), (.assign (.const (.int .i64 0))), none⟩]
attribute [go_sem] r154_6
def r154_7 : List PO := [⟨(some 10), (.binOp .eql 3 (.tmp 3) (.const (.int .i64 5)) 3), none⟩,
  ⟨(some 9), (.assign (.tmp 10)), none⟩]
attribute [go_sem] r154_7
def r154_9 : List PO := [⟨(some 2), (.assign (.const (.int .i64 2))), none⟩]
attribute [go_sem] r154_9
def r154_10 : List PO := [⟨(some 13), (.binOp .eql 3 (.tmp 3) (.const (.int .i64 7)) 3), none⟩,
  ⟨(some 12), (.assign (.tmp 13)), none⟩]
attribute [go_sem] r154_10
def r154_11 : List PO := [⟨(some 2), (.assign (.const (.int .i64 1))), none⟩]
attribute [go_sem] r154_11
def r154_12 : List PO := [⟨(some 2), (.assign (.const (.int .i64 (-1)))), none⟩]
attribute [go_sem] r154_12
def c154 : PC := (.seq (.reg r154_0) (.seq (.seq (.reg r154_1) (.block 0 (.seq (.seq (.reg r154_2) (.pre ⟨[3, 4], [], [], []⟩ k154_1)) (.cond (.tmp 4) (.seq (.reg r154_6) .ret) (.seq (.seq (.reg r154_7) (.pre ⟨[3, 9], [], [], []⟩ k154_4)) (.cond (.tmp 9) (.seq (.reg r154_9) .ret) (.seq (.reg r154_10) (.cond (.tmp 12) (.seq (.reg r154_11) .ret) .skip)))))))) (.seq (.reg r154_12) .ret)))
def i154 : FnI := ⟨14, [(.tmp 2)], c154, 0, [[0]], [[0]], false, false, 0, false⟩
-- loop.example/g00344/spec.l6Read
def r143_5 : List PO := [⟨(some 23), (.move (.tmp 7)), none⟩,
  ⟨(some 24), (.binOp .lss 3 (.tmp 23) (.const (.int .i64 0)) 3), none⟩,
  ⟨(some 25), (.move (.tmp 24)), none⟩,
  ⟨(some 26), (.fieldAddr 129 (.tmp 6) 0), (some (25, false))⟩,
  ⟨(some 27), (.load 3 (.tmp 26)), (some (25, false))⟩,
  ⟨(some 28), (.binOp .eql 3 (.tmp 27) (.const (.int .i64 3)) 3), (some (25, false))⟩,
  ⟨(some 29), (.move (.tmp 28)), (some (25, false))⟩,
  ⟨(some 30), (.fieldAddr 129 (.tmp 6) 1), (some (29, true))⟩,
  ⟨(some 31), (.load 3 (.tmp 30)), (some (29, true))⟩,
  ⟨(some 32), (.call { callee := (.value (.func 71)), args := #[(.tmp 31), (.const (.int .i64 1)), (.const (.int .i64 65535))], argTypes := #[3, 3, 3] }), (some (29, true))⟩,
  ⟨(some 33), (.unOp .not 4 (.tmp 32)), (some (29, true))⟩,
  ⟨(some 34), (.pick (.tmp 29) (.tmp 33) (.const (.bool false))), (some (25, false))⟩,
  ⟨(some 35), (.pick (.tmp 25) (.const (.bool true)) (.tmp 34)), none⟩,
  ⟨(some 36), (.move (.tmp 35)), none⟩,
  ⟨(some 37), (.fieldAddr 129 (.tmp 6) 0), (some (36, false))⟩,
  ⟨(some 38), (.load 3 (.tmp 37)), (some (36, false))⟩,
  ⟨(some 39), (.binOp .neq 3 (.tmp 38) (.const (.int .i64 3)) 3), (some (36, false))⟩,
  ⟨(some 40), (.move (.tmp 39)), (some (36, false))⟩,
  ⟨(some 41), (.fieldAddr 129 (.tmp 6) 1), (some (40, true))⟩,
  ⟨(some 42), (.load 3 (.tmp 41)), (some (40, true))⟩,
  ⟨(some 43), (.binOp .neq 3 (.tmp 42) (.const (.int .i64 0)) 3), (some (40, true))⟩,
  ⟨(some 44), (.pick (.tmp 40) (.tmp 43) (.const (.bool false))), (some (36, false))⟩,
  ⟨(some 45), (.pick (.tmp 36) (.const (.bool true)) (.tmp 44)), none⟩]
attribute [go_sem] r143_5
def k143_1 : PC := (.post (.reg r143_5) ⟨[0, 1, 4, 6, 7, 45], [.old 0, .old 1, .old 2], [], []⟩)
def r143_9 : List PO := [⟨(some 54), (.move (.tmp 7)), none⟩,
  ⟨(some 55), (.binOp .gtr 3 (.tmp 54) (.const (.int .i64 0)) 3), none⟩]
attribute [go_sem] r143_9
def r143_11 : List PO := [⟨(some 59), (.move (.tmp 0)), none⟩,
  ⟨(some 60), (.move (.tmp 1)), none⟩,
  ⟨(some 61), (.call { callee := (.value (.func 143)), args := #[(.tmp 59), (.tmp 60)], argTypes := #[70, 3] }), none⟩,
  ⟨(some 58), (.move (.tmp 61)), none⟩,
  ⟨(some 62), (.extract (.tmp 58) 0), none⟩,
  ⟨(some 63), (.extract (.tmp 58) 1), none⟩,
  ⟨(some 9), (.alloc 149), none⟩,
  ⟨none, (.store 149 (.tmp 9) (.tmp 62)), none⟩,
  ⟨(some 10), (.assign (.tmp 63)), none⟩]
attribute [go_sem] r143_11
def r143_12 : List PO := [⟨(some 64), (.move (.tmp 10)), none⟩,
  ⟨(some 65), (.binOp .eql 3 (.tmp 64) (.const (.int .i64 0)) 3), none⟩]
attribute [go_sem] r143_12
def r143_13 : List PO := [⟨(some 66), (.build 149 #[]), none⟩,
  ⟨none, (.store 149 (.tmp 4) (.tmp 66)), none⟩,
  ⟨(some 5), (.assign (.const (.int .i64 0))), none⟩]
attribute [go_sem] r143_13
def r143_14 : List PO := [⟨(some 67), (.fieldAddr 149 (.tmp 8) 2), none⟩,
  ⟨(some 68), (.load 147 (.tmp 67)), none⟩,
  ⟨(some 69), (.load 149 (.tmp 9)), none⟩,
  ⟨(some 70), (.buildSlice 147 1 #[(0, (.tmp 69))]), none⟩,
  ⟨(some 71), (.call { callee := (.builtin .append), args := #[(.tmp 68), (.tmp 70)], argTypes := #[147, 147] }), none⟩,
  ⟨(some 72), (.fieldAddr 149 (.tmp 8) 2), none⟩,
  ⟨none, (.store 147 (.tmp 72) (.tmp 71)), none⟩]
attribute [go_sem] r143_14
def r143_15 : List PO := [⟨(some 73), (.move (.tmp 10)), none⟩,
  ⟨(some 1), (.assign (.tmp 73)), none⟩]
attribute [go_sem] r143_15
def r143_10 : List PO := [⟨(some 56), (.move (.tmp 7)), none⟩,
  ⟨(some 57), (.binOp .sub 3 (.tmp 56) (.const (.int .i64 1)) 3), none⟩,
  ⟨(some 7), (.assign (.tmp 57)), none⟩]
attribute [go_sem] r143_10
def k143_2b : PC := (.seq (.seq (.reg r143_9) (.cond (.tmp 55) .skip (.pre ⟨[1, 4, 8], [.old 0, .old 1, .old 2, .old 3], [], []⟩ (.exit 0)))) (.seq (.block 1 (.seq (.reg r143_11) (.seq (.seq (.reg r143_12) (.cond (.tmp 65) (.seq (.reg r143_13) (.pre ⟨[4, 5], [.old 0, .nilB 0 2 3], [], []⟩ .ret)) .skip)) (.seq (.reg r143_14) (.reg r143_15))))) (.post (.reg r143_10) ⟨[0, 1, 4, 7, 8], [.old 0, .old 1, .old 2, .old 7], [], []⟩)))
def r143_0 : List PO := [⟨(some 4), (.alloc 149), none⟩,
  ⟨(some 5), (.assign (.const (.int .i64 0))), none⟩]
attribute [go_sem] r143_0
def r143_1 : List PO := [⟨(some 11), (.move (.tmp 1)), none⟩,
  ⟨(some 12), (.move (.tmp 0)), none⟩,
  ⟨(some 13), (.call { callee := (.builtin .len), args := #[(.tmp 12)], argTypes := #[70] }), none⟩,
  ⟨(some 14), (.binOp .geq 3 (.tmp 11) (.tmp 13) 3), none⟩]
attribute [go_sem] r143_1
def r143_2 : List PO := [⟨(some 15), (.build 149 #[]), none⟩,
  ⟨none, (.store 149 (.tmp 4) (.tmp 15)), none⟩,
  ⟨(some 5), (.assign (.const (.int .i64 0))), none⟩]
attribute [go_sem] r143_2
def r143_3 : List PO := [⟨(some 16), (.move (.tmp 0)), none⟩,
  ⟨(some 17), (.move (.tmp 1)), none⟩,
  ⟨(some 18), (.indexAddr 70 (.tmp 16) (.tmp 17)), none⟩,
  ⟨(some 19), (.load 129 (.tmp 18)), none⟩,
  ⟨(some 6), (.alloc 129), none⟩,
  ⟨none, (.store 129 (.tmp 6) (.tmp 19)), none⟩]
attribute [go_sem] r143_3
def r143_4 : List PO := [⟨(some 20), (.fieldAddr 129 (.tmp 6) 0), none⟩,
  ⟨(some 21), (.load 3 (.tmp 20)), none⟩,
  ⟨(some 22), (.call { callee := (.value (.func 154)), args := #[(.tmp 21)], argTypes := #[3] }), none⟩,
  ⟨(some 7), (.assign (.tmp 22)), none⟩]
attribute [go_sem] r143_4
def r143_6 : List PO := [⟨(some 46), (.build 149 #[]), none⟩,
  ⟨none, (.store 149 (.tmp 4) (.tmp 46)), none⟩,
  ⟨(some 5), (.assign (.const (.int .i64 0))), none⟩]
attribute [go_sem] r143_6
def r143_7 : List PO := [⟨(some 47), (.fieldAddr 129 (.tmp 6) 0), none⟩,
  ⟨(some 48), (.load 3 (.tmp 47)), none⟩,
  ⟨(some 49), (.fieldAddr 129 (.tmp 6) 1), none⟩,
  ⟨(some 50), (.load 3 (.tmp 49)), none⟩,
  ⟨(some 51), (.build 149 #[(0, (.tmp 48)), (1, (.tmp 50))]), none⟩,
  ⟨(some 8), (.alloc 149), none⟩,
  ⟨none, (.store 149 (.tmp 8) (.tmp 51)), none⟩]
attribute [go_sem] r143_7
def r143_8 : List PO := [⟨(some 52), (.move (.tmp 1)), none⟩,
  ⟨(some 53), (.binOp .add 3 (.tmp 52) (.const (.int .i64 1)) 3), none⟩,
  ⟨(some 1), (.assign (.tmp 53)), none⟩]
attribute [go_sem] r143_8
def r143_16 : List PO := [⟨(some 74), (.load 149 (.tmp 8)), none⟩,
  ⟨(some 75), (.move (.tmp 1)), none⟩,
  ⟨none, (.store 149 (.tmp 4) (.tmp 74)), none⟩,
  ⟨(some 5), (.assign (.tmp 75)), none⟩]
attribute [go_sem] r143_16
def c143 : PC := (.seq (.reg r143_0) (.seq (.seq (.reg r143_1) (.cond (.tmp 14) (.seq (.reg r143_2) .ret) .skip)) (.seq (.reg r143_3) (.seq (.reg r143_4) (.seq (.seq (.pre ⟨[0, 1, 4, 6, 7], [.old 0, .nilB 0 2 3, .old 1], [], []⟩ k143_1) (.cond (.tmp 45) (.seq (.reg r143_6) .ret) .skip)) (.seq (.reg r143_7) (.seq (.reg r143_8) (.seq (.block 0 (.pre ⟨[0, 1, 4, 7, 8], [.old 0, .old 1, .old 3, .nilB 3 2 3], [], []⟩ (.loop k143_2b))) (.seq (.reg r143_16) .ret)))))))))
def i143 : FnI := ⟨76, [(.cell 4 149), (.tmp 5)], c143, 0, [[2], [0]], [[0, 0, 3], [0]], false, false, 0, false⟩
-- loop.example/g00344/spec.l6Tree
def r122_4 : List PO := [⟨(some 15), (.load 149 (.tmp 4)), none⟩,
  ⟨(some 16), (.move (.tmp 5)), none⟩,
  ⟨(some 17), (.binOp .gtr 3 (.tmp 16) (.const (.int .i64 0)) 3), none⟩,
  ⟨(some 18), (.move (.tmp 17)), none⟩,
  ⟨(some 19), (.move (.tmp 5)), (some (18, true))⟩,
  ⟨(some 20), (.move (.tmp 0)), (some (18, true))⟩,
  ⟨(some 21), (.call { callee := (.builtin .len), args := #[(.tmp 20)], argTypes := #[70] }), (some (18, true))⟩,
  ⟨(some 22), (.binOp .eql 3 (.tmp 19) (.tmp 21) 3), (some (18, true))⟩,
  ⟨(some 23), (.pick (.tmp 18) (.tmp 22) (.const (.bool false))), none⟩,
  ⟨none, (.store 149 (.tmp 2) (.tmp 15)), none⟩,
  ⟨(some 3), (.assign (.tmp 23)), none⟩]
attribute [go_sem] r122_4
def k122_1 : PC := (.post (.reg r122_4) ⟨[2, 3], [.old 0, .old 3], [], []⟩)
def r122_0 : List PO := [⟨(some 2), (.alloc 149), none⟩,
  ⟨(some 3), (.assign (.const (.bool false))), none⟩]
attribute [go_sem] r122_0
def r122_1 : List PO := [⟨(some 6), (.move (.tmp 0)), none⟩,
  ⟨(some 7), (.call { callee := (.builtin .len), args := #[(.tmp 6)], argTypes := #[70] }), none⟩,
  ⟨(some 8), (.binOp .gtr 3 (.tmp 7) (.const (.int .i64 30)) 3), none⟩]
attribute [go_sem] r122_1
def r122_2 : List PO := [⟨(some 9), (.build 149 #[]), none⟩,
  ⟨none, (.store 149 (.tmp 2) (.tmp 9)), none⟩,
  ⟨(some 3), (.assign (.const (.bool false))), none⟩]
attribute [go_sem] r122_2
def r122_3 : List PO := [⟨(some 11), (.move (.tmp 0)), none⟩,
  ⟨(some 12), (.call { callee := (.value (.func 143)), args := #[(.tmp 11), (.const (.int .i64 0))], argTypes := #[70, 3] }), none⟩,
  ⟨(some 10), (.move (.tmp 12)), none⟩,
  ⟨(some 13), (.extract (.tmp 10) 0), none⟩,
  ⟨(some 14), (.extract (.tmp 10) 1), none⟩,
  ⟨(some 4), (.alloc 149), none⟩,
  ⟨none, (.store 149 (.tmp 4) (.tmp 13)), none⟩,
  ⟨(some 5), (.assign (.tmp 14)), none⟩]
attribute [go_sem] r122_3
def c122 : PC := (.seq (.reg r122_0) (.seq (.seq (.reg r122_1) (.cond (.tmp 8) (.seq (.reg r122_2) .ret) .skip)) (.seq (.reg r122_3) (.seq (.pre ⟨[0, 2, 4, 5], [.old 0, .nilB 0 2 3, .old 2, .old 1], [], []⟩ k122_1) .ret))))
def i122 : FnI := ⟨24, [(.cell 2 149), (.tmp 3)], c122, 0, [[2]], [[0, 0, 3], [0]], false, false, 0, false⟩
-- loop.example/g00344/spec.GoodRegex
def r82_0 : List PO := [⟨(some 2), (.assign (.const (.bool false))), none⟩]
attribute [go_sem] r82_0
def r82_1 : List PO := [⟨(some 6), (.move (.tmp 0)), none⟩,
  ⟨(some 7), (.call { callee := (.value (.func 122)), args := #[(.tmp 6)], argTypes := #[70] }), none⟩,
  ⟨(some 5), (.move (.tmp 7)), none⟩,
  ⟨(some 8), (.extract (.tmp 5) 0), none⟩,
  ⟨(some 9), (.extract (.tmp 5) 1), none⟩,
  ⟨(some 3), (.alloc 149), none⟩,
  ⟨none, (.store 149 (.tmp 3) (.tmp 8)), none⟩,
  ⟨(some 4), (.assign (.tmp 9)), none⟩]
attribute [go_sem] r82_1
def r82_2 : List PO := [⟨(some 10), (.move (.tmp 4)), none⟩,
  ⟨(some 2), (.assign (.tmp 10)), none⟩]
attribute [go_sem] r82_2
def c82 : PC := (.seq (.reg r82_0) (.seq (.reg r82_1) (.seq (.reg r82_2) .ret)))
def i82 : FnI := ⟨11, [(.tmp 2)], c82, 0, [[2]], [[0]], false, false, 0, false⟩
-- loop.example/g00344/spec.l7Term
def r42_4 : List PO := [⟨(some 14), (.fieldAddr 114 (.tmp 4) 0), none⟩,
  ⟨(some 15), (.load 31 (.tmp 14)), none⟩,
  ⟨(some 16), (.call { callee := (.value (.func 33)), args := #[(.tmp 15)], argTypes := #[31] }), none⟩,
  ⟨(some 17), (.unOp .not 4 (.tmp 16)), none⟩,
  ⟨(some 18), (.move (.tmp 17)), none⟩,
  ⟨(some 19), (.fieldAddr 114 (.tmp 4) 1), (some (18, false))⟩,
  ⟨(some 20), (.load 3 (.tmp 19)), (some (18, false))⟩,
  ⟨(some 21), (.fieldAddr 114 (.tmp 4) 0), (some (18, false))⟩,
  ⟨(some 22), (.fieldAddr 31 (.tmp 21) 1), (some (18, false))⟩,
  ⟨(some 23), (.load 3 (.tmp 22)), (some (18, false))⟩,
  ⟨(some 24), (.call { callee := (.value (.func 71)), args := #[(.tmp 20), (.tmp 23), (.const (.int .i64 32))], argTypes := #[3, 3, 3] }), (some (18, false))⟩,
  ⟨(some 25), (.unOp .not 4 (.tmp 24)), (some (18, false))⟩,
  ⟨(some 26), (.pick (.tmp 18) (.const (.bool true)) (.tmp 25)), none⟩,
  ⟨(some 27), (.move (.tmp 26)), none⟩,
  ⟨(some 28), (.fieldAddr 114 (.tmp 4) 2), (some (27, false))⟩,
  ⟨(some 29), (.load 3 (.tmp 28)), (some (27, false))⟩,
  ⟨(some 30), (.fieldAddr 114 (.tmp 4) 1), (some (27, false))⟩,
  ⟨(some 31), (.load 3 (.tmp 30)), (some (27, false))⟩,
  ⟨(some 32), (.call { callee := (.value (.func 71)), args := #[(.tmp 29), (.tmp 31), (.const (.int .i64 32))], argTypes := #[3, 3, 3] }), (some (27, false))⟩,
  ⟨(some 33), (.unOp .not 4 (.tmp 32)), (some (27, false))⟩,
  ⟨(some 34), (.pick (.tmp 27) (.const (.bool true)) (.tmp 33)), none⟩]
attribute [go_sem] r42_4
def k42_3 : PC := (.post (.reg r42_4) ⟨[1, 8, 9, 10, 34], [.old 0], [], []⟩)
def r42_2 : List PO := [⟨(some 11), (.binOp .lss 3 (.tmp 10) (.tmp 9) 3), none⟩]
attribute [go_sem] r42_2
def r42_3 : List PO := [⟨(some 12), (.indexAddr 69 (.tmp 8) (.tmp 10)), none⟩,
  ⟨(some 13), (.load 114 (.tmp 12)), none⟩,
  ⟨(some 4), (.alloc 114), none⟩,
  ⟨none, (.store 114 (.tmp 4) (.tmp 13)), none⟩]
attribute [go_sem] r42_3
def r42_5 : List PO := [⟨(some 2), (.assign (.const (.bool false))), none⟩]
attribute [go_sem] r42_5
def r42_6 : List PO := [⟨(some 35), (.binOp .add 3 (.tmp 10) (.const (.int .i64 1)) 3), none⟩,
  ⟨(some 10), (.move (.tmp 35)), none⟩]
attribute [go_sem] r42_6
def k42_1b : PC := (.seq (.reg r42_2) (.seq (.cond (.tmp 11) .skip (.pre ⟨[1], [.old 0], [], []⟩ (.exit 0))) (.seq (.block 1 (.seq (.reg r42_3) (.seq (.pre ⟨[1, 4, 8, 9, 10], [.old 0, .old 1], [], []⟩ k42_3) (.cond (.tmp 34) (.seq (.reg r42_5) (.pre ⟨[2], [], [], []⟩ .ret)) .skip)))) (.post (.reg r42_6) ⟨[1, 8, 9, 10], [.old 0], [], []⟩))))
def r42_8 : List PO := [⟨(some 40), (.binOp .lss 3 (.tmp 39) (.tmp 38) 3), none⟩]
attribute [go_sem] r42_8
def r42_9 : List PO := [⟨(some 41), (.indexAddr 71 (.tmp 37) (.tmp 39)), none⟩,
  ⟨(some 42), (.load 53 (.tmp 41)), none⟩,
  ⟨(some 6), (.alloc 53), none⟩,
  ⟨none, (.store 53 (.tmp 6) (.tmp 42)), none⟩]
attribute [go_sem] r42_9
def r42_10 : List PO := [⟨(some 43), (.load 53 (.tmp 6)), none⟩,
  ⟨(some 44), (.call { callee := (.value (.func 48)), args := #[(.tmp 43)], argTypes := #[53] }), none⟩,
  ⟨(some 45), (.unOp .not 4 (.tmp 44)), none⟩]
attribute [go_sem] r42_10
def r42_11 : List PO := [⟨(some 2), (.assign (.const (.bool false))), none⟩]
attribute [go_sem] r42_11
def r42_12 : List PO := [⟨(some 46), (.binOp .add 3 (.tmp 39) (.const (.int .i64 1)) 3), none⟩,
  ⟨(some 39), (.move (.tmp 46)), none⟩]
attribute [go_sem] r42_12
def k42_4b : PC := (.seq (.reg r42_8) (.seq (.cond (.tmp 40) .skip (.pre ⟨[1], [.old 0], [], []⟩ (.exit 2))) (.seq (.block 3 (.seq (.reg r42_9) (.seq (.reg r42_10) (.cond (.tmp 45) (.seq (.reg r42_11) (.pre ⟨[2], [], [], []⟩ .ret)) .skip)))) (.post (.reg r42_12) ⟨[1, 37, 38, 39], [.old 0], [], []⟩))))
def r42_13 : List PO := [⟨(some 47), (.fieldAddr 73 (.tmp 1) 0), none⟩,
  ⟨(some 48), (.load 69 (.tmp 47)), none⟩,
  ⟨(some 49), (.call { callee := (.builtin .len), args := #[(.tmp 48)], argTypes := #[69] }), none⟩,
  ⟨(some 50), (.binOp .leq 3 (.tmp 49) (.const (.int .i64 6)) 3), none⟩,
  ⟨(some 51), (.move (.tmp 50)), none⟩,
  ⟨(some 52), (.fieldAddr 73 (.tmp 1) 3), (some (51, true))⟩,
  ⟨(some 53), (.load 71 (.tmp 52)), (some (51, true))⟩,
  ⟨(some 54), (.call { callee := (.builtin .len), args := #[(.tmp 53)], argTypes := #[71] }), (some (51, true))⟩,
  ⟨(some 55), (.binOp .leq 3 (.tmp 54) (.const (.int .i64 5)) 3), (some (51, true))⟩,
  ⟨(some 56), (.pick (.tmp 51) (.tmp 55) (.const (.bool false))), none⟩,
  ⟨(some 57), (.move (.tmp 56)), none⟩,
  ⟨(some 58), (.fieldAddr 73 (.tmp 1) 1), (some (57, true))⟩,
  ⟨(some 59), (.load 70 (.tmp 58)), (some (57, true))⟩,
  ⟨(some 60), (.call { callee := (.builtin .len), args := #[(.tmp 59)], argTypes := #[70] }), (some (57, true))⟩,
  ⟨(some 61), (.binOp .eql 3 (.tmp 60) (.const (.int .i64 0)) 3), (some (57, true))⟩,
  ⟨(some 62), (.move (.tmp 61)), (some (57, true))⟩,
  ⟨(some 63), (.fieldAddr 73 (.tmp 1) 1), (some (62, false))⟩,
  ⟨(some 64), (.load 70 (.tmp 63)), (some (62, false))⟩,
  ⟨(some 65), (.call { callee := (.value (.func 82)), args := #[(.tmp 64)], argTypes := #[70] }), (some (62, false))⟩,
  ⟨(some 66), (.pick (.tmp 62) (.const (.bool true)) (.tmp 65)), (some (57, true))⟩,
  ⟨(some 67), (.pick (.tmp 57) (.tmp 66) (.const (.bool false))), none⟩,
  ⟨(some 68), (.move (.tmp 67)), none⟩,
  ⟨(some 69), (.fieldAddr 73 (.tmp 1) 2), (some (68, true))⟩,
  ⟨(some 70), (.load 3 (.tmp 69)), (some (68, true))⟩,
  ⟨(some 71), (.call { callee := (.value (.func 71)), args := #[(.tmp 70), (.const (.int .i64 (-1))), (.const (.int .i64 1000000))], argTypes := #[3, 3, 3] }), (some (68, true))⟩,
  ⟨(some 72), (.pick (.tmp 68) (.tmp 71) (.const (.bool false))), none⟩,
  ⟨(some 73), (.move (.tmp 72)), none⟩,
  ⟨(some 74), (.fieldAddr 73 (.tmp 1) 4), (some (73, true))⟩,
  ⟨(some 75), (.load 3 (.tmp 74)), (some (73, true))⟩,
  ⟨(some 76), (.call { callee := (.value (.func 71)), args := #[(.tmp 75), (.const (.int .i64 0)), (.const (.int .i64 2))], argTypes := #[3, 3, 3] }), (some (73, true))⟩,
  ⟨(some 77), (.pick (.tmp 73) (.tmp 76) (.const (.bool false))), none⟩,
  ⟨(some 2), (.assign (.tmp 77)), none⟩]
attribute [go_sem] r42_13
def k42_5 : PC := (.post (.reg r42_13) ⟨[2], [], [], []⟩)
def r42_0 : List PO := [⟨(some 1), (.box 73 (.tmp 0)), none⟩,
  ⟨(some 2), (.assign (.const (.bool false))), none⟩]
attribute [go_sem] r42_0
def r42_1 : List PO := [⟨(some 7), (.fieldAddr 73 (.tmp 1) 0), none⟩,
  ⟨(some 8), (.load 69 (.tmp 7)), none⟩,
  ⟨(some 9), (.call { callee := (.builtin .len), args := #[(.tmp 8)], argTypes := #[69] }), none⟩,
  ⟨(some 10), (.move (.const (.int .i64 0))), none⟩]
attribute [go_sem] r42_1
def r42_7 : List PO := [⟨(some 36), (.fieldAddr 73 (.tmp 1) 3), none⟩,
  ⟨(some 37), (.load 71 (.tmp 36)), none⟩,
  ⟨(some 38), (.call { callee := (.builtin .len), args := #[(.tmp 37)], argTypes := #[71] }), none⟩,
  ⟨(some 39), (.move (.const (.int .i64 0))), none⟩]
attribute [go_sem] r42_7
def c42 : PC := (.seq (.reg r42_0) (.seq (.seq (.reg r42_1) (.block 0 (.pre ⟨[1, 8, 9, 10], [.old 0], [], []⟩ (.loop k42_1b)))) (.seq (.seq (.reg r42_7) (.block 2 (.pre ⟨[1, 37, 38, 39], [.old 0], [], []⟩ (.loop k42_4b)))) (.seq (.pre ⟨[1], [.old 0], [], []⟩ k42_5) .ret))))
def i42 : FnI := ⟨78, [(.tmp 2)], c42, 0, [[4, 2, 0, 2, 0]], [[0]], false, false, 0, false⟩
-- loop.example/g00344/spec.GoodPolicy
def r14_2 : List PO := [⟨(some 9), (.binOp .lss 3 (.tmp 8) (.tmp 7) 3), none⟩]
attribute [go_sem] r14_2
def r14_3 : List PO := [⟨(some 10), (.indexAddr 43 (.tmp 6) (.tmp 8)), none⟩,
  ⟨(some 11), (.load 73 (.tmp 10)), none⟩,
  ⟨(some 4), (.alloc 73), none⟩,
  ⟨none, (.store 73 (.tmp 4) (.tmp 11)), none⟩]
attribute [go_sem] r14_3
def r14_4 : List PO := [⟨(some 12), (.load 73 (.tmp 4)), none⟩,
  ⟨(some 13), (.call { callee := (.value (.func 42)), args := #[(.tmp 12)], argTypes := #[73] }), none⟩,
  ⟨(some 14), (.unOp .not 4 (.tmp 13)), none⟩]
attribute [go_sem] r14_4
def r14_5 : List PO := [⟨(some 2), (.assign (.const (.bool false))), none⟩]
attribute [go_sem] r14_5
def r14_6 : List PO := [⟨(some 15), (.binOp .add 3 (.tmp 8) (.const (.int .i64 1)) 3), none⟩,
  ⟨(some 8), (.move (.tmp 15)), none⟩]
attribute [go_sem] r14_6
def k14_1b : PC := (.seq (.reg r14_2) (.seq (.cond (.tmp 9) .skip (.pre ⟨[1], [.old 0], [], []⟩ (.exit 0))) (.seq (.block 1 (.seq (.reg r14_3) (.seq (.reg r14_4) (.cond (.tmp 14) (.seq (.reg r14_5) (.pre ⟨[2], [], [], []⟩ .ret)) .skip)))) (.post (.reg r14_6) ⟨[1, 6, 7, 8], [.old 0], [], []⟩))))
def r14_0 : List PO := [⟨(some 1), (.box 45 (.tmp 0)), none⟩,
  ⟨(some 2), (.assign (.const (.bool false))), none⟩]
attribute [go_sem] r14_0
def r14_1 : List PO := [⟨(some 5), (.fieldAddr 45 (.tmp 1) 0), none⟩,
  ⟨(some 6), (.load 43 (.tmp 5)), none⟩,
  ⟨(some 7), (.call { callee := (.builtin .len), args := #[(.tmp 6)], argTypes := #[43] }), none⟩,
  ⟨(some 8), (.move (.const (.int .i64 0))), none⟩]
attribute [go_sem] r14_1
def r14_7 : List PO := [⟨(some 16), (.fieldAddr 45 (.tmp 1) 0), none⟩,
  ⟨(some 17), (.load 43 (.tmp 16)), none⟩,
  ⟨(some 18), (.call { callee := (.builtin .len), args := #[(.tmp 17)], argTypes := #[43] }), none⟩,
  ⟨(some 19), (.binOp .leq 3 (.tmp 18) (.const (.int .i64 8)) 3), none⟩,
  ⟨(some 2), (.assign (.tmp 19)), none⟩]
attribute [go_sem] r14_7
def c14 : PC := (.seq (.reg r14_0) (.seq (.seq (.reg r14_1) (.block 0 (.pre ⟨[1, 6, 7, 8], [.old 0], [], []⟩ (.loop k14_1b)))) (.seq (.reg r14_7) .ret)))
def i14 : FnI := ⟨20, [(.tmp 2)], c14, 0, [[5, 0]], [[0]], false, false, 0, false⟩
-- loop.example/g00344/spec.l7OwnTerm
def r54_0 : List PO := [⟨(some 1), (.box 73 (.tmp 0)), none⟩,
  ⟨(some 2), (.alloc 73), none⟩]
attribute [go_sem] r54_0
def r54_1 : List PO := [⟨(some 3), (.buildSlice 69 0 #[]), none⟩,
  ⟨(some 4), (.fieldAddr 73 (.tmp 1) 0), none⟩,
  ⟨(some 5), (.load 69 (.tmp 4)), none⟩,
  ⟨(some 6), (.call { callee := (.builtin .append), args := #[(.tmp 3), (.tmp 5)], argTypes := #[69, 69] }), none⟩,
  ⟨(some 7), (.fieldAddr 73 (.tmp 1) 0), none⟩,
  ⟨none, (.store 69 (.tmp 7) (.tmp 6)), none⟩]
attribute [go_sem] r54_1
def r54_2 : List PO := [⟨(some 8), (.buildSlice 70 0 #[]), none⟩,
  ⟨(some 9), (.fieldAddr 73 (.tmp 1) 1), none⟩,
  ⟨(some 10), (.load 70 (.tmp 9)), none⟩,
  ⟨(some 11), (.call { callee := (.builtin .append), args := #[(.tmp 8), (.tmp 10)], argTypes := #[70, 70] }), none⟩,
  ⟨(some 12), (.fieldAddr 73 (.tmp 1) 1), none⟩,
  ⟨none, (.store 70 (.tmp 12) (.tmp 11)), none⟩]
attribute [go_sem] r54_2
def r54_3 : List PO := [⟨(some 13), (.buildSlice 71 0 #[]), none⟩,
  ⟨(some 14), (.fieldAddr 73 (.tmp 1) 3), none⟩,
  ⟨(some 15), (.load 71 (.tmp 14)), none⟩,
  ⟨(some 16), (.call { callee := (.builtin .append), args := #[(.tmp 13), (.tmp 15)], argTypes := #[71, 71] }), none⟩,
  ⟨(some 17), (.fieldAddr 73 (.tmp 1) 3), none⟩,
  ⟨none, (.store 71 (.tmp 17) (.tmp 16)), none⟩]
attribute [go_sem] r54_3
def r54_4 : List PO := [⟨(some 18), (.load 73 (.tmp 1)), none⟩,
  ⟨none, (.store 73 (.tmp 2) (.tmp 18)), none⟩]
attribute [go_sem] r54_4
def c54 : PC := (.seq (.reg r54_0) (.seq (.reg r54_1) (.seq (.reg r54_2) (.seq (.reg r54_3) (.seq (.reg r54_4) .ret)))))
def i54 : FnI := ⟨19, [(.cell 2 73)], c54, 0, [[4, 2, 0, 2, 0]], [[4, 2, 0, 2, 0]], false, false, 0, false⟩
-- loop.example/g00344/spec.ThenPolicy
def r23_1 : List PO := [⟨(some 11), (.load 45 (.tmp 2)), none⟩,
  ⟨(some 12), (.call { callee := (.value (.func 14)), args := #[(.tmp 11)], argTypes := #[45] }), none⟩,
  ⟨(some 13), (.unOp .not 4 (.tmp 12)), none⟩,
  ⟨(some 14), (.move (.tmp 13)), none⟩,
  ⟨(some 15), (.load 45 (.tmp 3)), (some (14, false))⟩,
  ⟨(some 16), (.call { callee := (.value (.func 14)), args := #[(.tmp 15)], argTypes := #[45] }), (some (14, false))⟩,
  ⟨(some 17), (.unOp .not 4 (.tmp 16)), (some (14, false))⟩,
  ⟨(some 18), (.pick (.tmp 14) (.const (.bool true)) (.tmp 17)), none⟩,
  ⟨(some 19), (.move (.tmp 18)), none⟩,
  ⟨(some 20), (.fieldAddr 45 (.tmp 2) 1), (some (19, false))⟩,
  ⟨(some 21), (.load 4 (.tmp 20)), (some (19, false))⟩,
  ⟨(some 22), (.unOp .not 4 (.tmp 21)), (some (19, false))⟩,
  ⟨(some 23), (.pick (.tmp 19) (.const (.bool true)) (.tmp 22)), none⟩,
  ⟨(some 24), (.move (.tmp 23)), none⟩,
  ⟨(some 25), (.fieldAddr 45 (.tmp 2) 0), (some (24, false))⟩,
  ⟨(some 26), (.load 43 (.tmp 25)), (some (24, false))⟩,
  ⟨(some 27), (.call { callee := (.builtin .len), args := #[(.tmp 26)], argTypes := #[43] }), (some (24, false))⟩,
  ⟨(some 28), (.fieldAddr 45 (.tmp 3) 0), (some (24, false))⟩,
  ⟨(some 29), (.load 43 (.tmp 28)), (some (24, false))⟩,
  ⟨(some 30), (.call { callee := (.builtin .len), args := #[(.tmp 29)], argTypes := #[43] }), (some (24, false))⟩,
  ⟨(some 31), (.binOp .add 3 (.tmp 27) (.tmp 30) 3), (some (24, false))⟩,
  ⟨(some 32), (.binOp .gtr 3 (.tmp 31) (.const (.int .i64 8)) 3), (some (24, false))⟩,
  ⟨(some 33), (.pick (.tmp 24) (.const (.bool true)) (.tmp 32)), none⟩]
attribute [go_sem] r23_1
def k23_1 : PC := (.post (.reg r23_1) ⟨[2, 3, 4, 33], [.old 0, .old 1, .old 2, .old 3], [], []⟩)
def r23_5 : List PO := [⟨(some 42), (.binOp .lss 3 (.tmp 41) (.tmp 40) 3), none⟩]
attribute [go_sem] r23_5
def r23_6 : List PO := [⟨(some 43), (.indexAddr 43 (.tmp 39) (.tmp 41)), none⟩,
  ⟨(some 44), (.load 73 (.tmp 43)), none⟩,
  ⟨(some 8), (.alloc 73), none⟩,
  ⟨none, (.store 73 (.tmp 8) (.tmp 44)), none⟩]
attribute [go_sem] r23_6
def r23_7 : List PO := [⟨(some 45), (.fieldAddr 73 (.tmp 8) 4), none⟩,
  ⟨(some 46), (.load 3 (.tmp 45)), none⟩,
  ⟨(some 47), (.binOp .eql 3 (.tmp 46) (.const (.int .i64 1)) 3), none⟩]
attribute [go_sem] r23_7
def r23_8 : List PO := [⟨(some 48), (.build 45 #[]), none⟩,
  ⟨none, (.store 45 (.tmp 4) (.tmp 48)), none⟩,
  ⟨(some 5), (.assign (.const (.bool false))), none⟩]
attribute [go_sem] r23_8
def r23_9 : List PO := [⟨(some 49), (.fieldAddr 45 (.tmp 6) 0), none⟩,
  ⟨(some 50), (.load 43 (.tmp 49)), none⟩,
  ⟨(some 51), (.load 73 (.tmp 8)), none⟩,
  ⟨(some 52), (.call { callee := (.value (.func 54)), args := #[(.tmp 51)], argTypes := #[73] }), none⟩,
  ⟨(some 53), (.buildSlice 43 1 #[(0, (.tmp 52))]), none⟩,
  ⟨(some 54), (.call { callee := (.builtin .append), args := #[(.tmp 50), (.tmp 53)], argTypes := #[43, 43] }), none⟩,
  ⟨(some 55), (.fieldAddr 45 (.tmp 6) 0), none⟩,
  ⟨none, (.store 43 (.tmp 55) (.tmp 54)), none⟩]
attribute [go_sem] r23_9
def x23_9 : FxI := ⟨[3, 4, 5, 7], [none, none, none, none, none, none, none, none], 0, [[], [3], [3, 4], [3, 4, 5], [3, 4, 5, 7]], [], [(1, 1, 1), (1, 2, 2)]⟩
attribute [go_sem] x23_9
def r23_10 : List PO := [⟨(some 56), (.binOp .add 3 (.tmp 41) (.const (.int .i64 1)) 3), none⟩,
  ⟨(some 41), (.move (.tmp 56)), none⟩]
attribute [go_sem] r23_10
def k23_2b : PC := (.seq (.reg r23_5) (.seq (.cond (.tmp 42) .skip (.pre ⟨[3, 4, 6], [.old 0, .old 1, .old 2, .old 3, .old 4], [], []⟩ (.exit 0))) (.seq (.block 1 (.seq (.reg r23_6) (.seq (.seq (.reg r23_7) (.cond (.tmp 47) (.seq (.reg r23_8) (.pre ⟨[4, 5], [.old 1, .nilB 1 0 5], [], []⟩ .ret)) .skip)) (.fx r23_9 x23_9)))) (.post (.reg r23_10) ⟨[3, 4, 6, 39, 40, 41], [.old 0, .old 1, .old 2, .old 3, .old 10], [], []⟩))))
def r23_12 : List PO := [⟨(some 61), (.binOp .lss 3 (.tmp 60) (.tmp 59) 3), none⟩]
attribute [go_sem] r23_12
def r23_13 : List PO := [⟨(some 62), (.indexAddr 43 (.tmp 58) (.tmp 60)), none⟩,
  ⟨(some 63), (.load 73 (.tmp 62)), none⟩,
  ⟨(some 10), (.alloc 73), none⟩,
  ⟨none, (.store 73 (.tmp 10) (.tmp 63)), none⟩]
attribute [go_sem] r23_13
def r23_14 : List PO := [⟨(some 64), (.fieldAddr 45 (.tmp 6) 0), none⟩,
  ⟨(some 65), (.load 43 (.tmp 64)), none⟩,
  ⟨(some 66), (.load 73 (.tmp 10)), none⟩,
  ⟨(some 67), (.call { callee := (.value (.func 54)), args := #[(.tmp 66)], argTypes := #[73] }), none⟩,
  ⟨(some 68), (.buildSlice 43 1 #[(0, (.tmp 67))]), none⟩,
  ⟨(some 69), (.call { callee := (.builtin .append), args := #[(.tmp 65), (.tmp 68)], argTypes := #[43, 43] }), none⟩,
  ⟨(some 70), (.fieldAddr 45 (.tmp 6) 0), none⟩,
  ⟨none, (.store 43 (.tmp 70) (.tmp 69)), none⟩]
attribute [go_sem] r23_14
def x23_14 : FxI := ⟨[3, 4, 5, 7], [none, none, none, none, none, none, none, none], 0, [[], [3], [3, 4], [3, 4, 5], [3, 4, 5, 7]], [], [(1, 1, 1), (1, 2, 2)]⟩
attribute [go_sem] x23_14
def r23_15 : List PO := [⟨(some 71), (.binOp .add 3 (.tmp 60) (.const (.int .i64 1)) 3), none⟩,
  ⟨(some 60), (.move (.tmp 71)), none⟩]
attribute [go_sem] r23_15
def k23_3b : PC := (.seq (.reg r23_12) (.seq (.cond (.tmp 61) .skip (.pre ⟨[4, 6], [.old 0, .old 1, .old 2, .old 3], [], []⟩ (.exit 2))) (.seq (.block 3 (.seq (.reg r23_13) (.fx r23_14 x23_14))) (.post (.reg r23_15) ⟨[4, 6, 58, 59, 60], [.old 0, .old 1, .old 2, .old 9], [], []⟩))))
def r23_0 : List PO := [⟨(some 2), (.box 45 (.tmp 0)), none⟩,
  ⟨(some 3), (.box 45 (.tmp 1)), none⟩,
  ⟨(some 4), (.alloc 45), none⟩,
  ⟨(some 5), (.assign (.const (.bool false))), none⟩]
attribute [go_sem] r23_0
def r23_2 : List PO := [⟨(some 34), (.build 45 #[]), none⟩,
  ⟨none, (.store 45 (.tmp 4) (.tmp 34)), none⟩,
  ⟨(some 5), (.assign (.const (.bool false))), none⟩]
attribute [go_sem] r23_2
def r23_3 : List PO := [⟨(some 35), (.fieldAddr 45 (.tmp 3) 1), none⟩,
  ⟨(some 36), (.load 4 (.tmp 35)), none⟩,
  ⟨(some 37), (.build 45 #[(1, (.tmp 36))]), none⟩,
  ⟨(some 6), (.alloc 45), none⟩,
  ⟨none, (.store 45 (.tmp 6) (.tmp 37)), none⟩]
attribute [go_sem] r23_3
def r23_4 : List PO := [⟨(some 38), (.fieldAddr 45 (.tmp 2) 0), none⟩,
  ⟨(some 39), (.load 43 (.tmp 38)), none⟩,
  ⟨(some 40), (.call { callee := (.builtin .len), args := #[(.tmp 39)], argTypes := #[43] }), none⟩,
  ⟨(some 41), (.move (.const (.int .i64 0))), none⟩]
attribute [go_sem] r23_4
def r23_11 : List PO := [⟨(some 57), (.fieldAddr 45 (.tmp 3) 0), none⟩,
  ⟨(some 58), (.load 43 (.tmp 57)), none⟩,
  ⟨(some 59), (.call { callee := (.builtin .len), args := #[(.tmp 58)], argTypes := #[43] }), none⟩,
  ⟨(some 60), (.move (.const (.int .i64 0))), none⟩]
attribute [go_sem] r23_11
def r23_16 : List PO := [⟨(some 72), (.load 45 (.tmp 6)), none⟩,
  ⟨none, (.store 45 (.tmp 4) (.tmp 72)), none⟩,
  ⟨(some 5), (.assign (.const (.bool true))), none⟩]
attribute [go_sem] r23_16
def c23 : PC := (.seq (.reg r23_0) (.seq (.seq (.pre ⟨[2, 3, 4], [.old 0, .old 1, .old 2, .nilB 2 0 5], [], []⟩ k23_1) (.cond (.tmp 33) (.seq (.reg r23_2) .ret) .skip)) (.seq (.reg r23_3) (.seq (.seq (.reg r23_4) (.block 0 (.pre ⟨[3, 4, 6, 39, 40, 41], [.old 1, .old 2, .old 3, .old 4, .nilB 4 0 5], [], []⟩ (.loop k23_2b)))) (.seq (.seq (.reg r23_11) (.block 2 (.pre ⟨[4, 6, 58, 59, 60], [.old 1, .old 2, .old 3, .old 4], [], []⟩ (.loop k23_3b)))) (.seq (.reg r23_16) .ret))))))
def i23 : FnI := ⟨73, [(.cell 4 45), (.tmp 5)], c23, 0, [[5, 0], [5, 0]], [[5, 0], [0]], false, false, 0, false⟩
-- slices.IndexFunc[[]loop.example/g00344/impl.Term,loop.example/g00344/impl.Term]
def r83_2 : List PO := [⟨(some 9), (.binOp .lss 3 (.tmp 8) (.tmp 7) 3), none⟩]
attribute [go_sem] r83_2
def r83_3 : List PO := [⟨(some 10), (.move (.tmp 8)), none⟩,
  ⟨(some 5), (.assign (.tmp 10)), none⟩]
attribute [go_sem] r83_3
def r83_4 : List PO := [⟨(some 11), (.move (.tmp 1)), none⟩,
  ⟨(some 12), (.move (.tmp 0)), none⟩,
  ⟨(some 13), (.move (.tmp 5)), none⟩,
  ⟨(some 14), (.indexAddr 43 (.tmp 12) (.tmp 13)), none⟩,
  ⟨(some 15), (.load 73 (.tmp 14)), none⟩,
  ⟨(some 16), (.call { callee := (.value (.tmp 11)), args := #[(.tmp 15)], argTypes := #[73] }), none⟩]
attribute [go_sem] r83_4
def r83_5 : List PO := [⟨(some 17), (.move (.tmp 5)), none⟩,
  ⟨(some 4), (.assign (.tmp 17)), none⟩]
attribute [go_sem] r83_5
def r83_6 : List PO := [⟨(some 18), (.binOp .add 3 (.tmp 8) (.const (.int .i64 1)) 3), none⟩,
  ⟨(some 8), (.move (.tmp 18)), none⟩]
attribute [go_sem] r83_6
def k83_1b : PC := (.seq (.reg r83_2) (.seq (.cond (.tmp 9) .skip (.pre ⟨[], [], [], []⟩ (.exit 0))) (.seq (.block 1 (.seq (.reg r83_3) (.seq (.reg r83_4) (.cond (.tmp 16) (.seq (.reg r83_5) (.pre ⟨[4], [], [], []⟩ .ret)) .skip)))) (.post (.reg r83_6) ⟨[0, 1, 7, 8], [], [], []⟩))))
def r83_0 : List PO := [⟨(some 4), (.assign (.const (.int .i64 0))), none⟩]
attribute [go_sem] r83_0
def r83_1 : List PO := [⟨(some 6), (.move (.tmp 0)), none⟩,
  ⟨(some 7), (.call { callee := (.builtin .len), args := #[(.tmp 6)], argTypes := #[43] }), none⟩,
  ⟨(some 8), (.move (.const (.int .i64 0))), none⟩]
attribute [go_sem] r83_1
def r83_7 : List PO := [⟨(some 4), (.assign (.const (.int .i64 (-1)))), none⟩]
attribute [go_sem] r83_7
def c83 : PC := (.seq (.reg r83_0) (.seq (.seq (.reg r83_1) (.block 0 (.pre ⟨[0, 1, 7, 8], [], [], []⟩ (.loop k83_1b)))) (.seq (.reg r83_7) .ret)))
def i83 : FnI := ⟨19, [(.tmp 4)], c83, 0, [[5], [0]], [[0]], false, false, 0, false⟩
-- slices.ContainsFunc[[]loop.example/g00344/impl.Term,loop.example/g00344/impl.Term]
def r44_0 : List PO := [⟨(some 4), (.assign (.const (.bool false))), none⟩]
attribute [go_sem] r44_0
def r44_1 : List PO := [⟨(some 5), (.move (.tmp 0)), none⟩,
  ⟨(some 6), (.move (.tmp 1)), none⟩,
  ⟨(some 7), (.call { callee := (.value (.func 83)), args := #[(.tmp 5), (.tmp 6)], argTypes := #[43, 85] }), none⟩,
  ⟨(some 8), (.binOp .geq 3 (.tmp 7) (.const (.int .i64 0)) 3), none⟩,
  ⟨(some 4), (.assign (.tmp 8)), none⟩]
attribute [go_sem] r44_1
def c44 : PC := (.seq (.reg r44_0) (.seq (.reg r44_1) .ret))
def i44 : FnI := ⟨9, [(.tmp 4)], c44, 0, [[5], [0]], [[0]], false, false, 0, false⟩
-- loop.example/g00344/impl.within
def r75_1 : List PO := [⟨(some 7), (.move (.tmp 0)), none⟩,
  ⟨(some 8), (.move (.tmp 1)), none⟩,
  ⟨(some 9), (.binOp .geq 3 (.tmp 7) (.tmp 8) 3), none⟩,
  ⟨(some 10), (.move (.tmp 9)), none⟩,
  ⟨(some 11), (.move (.tmp 0)), (some (10, true))⟩,
  ⟨(some 12), (.move (.tmp 2)), (some (10, true))⟩,
  ⟨(some 13), (.binOp .leq 3 (.tmp 11) (.tmp 12) 3), (some (10, true))⟩,
  ⟨(some 14), (.pick (.tmp 10) (.tmp 13) (.const (.bool false))), none⟩,
  ⟨(some 6), (.assign (.tmp 14)), none⟩]
attribute [go_sem] r75_1
def k75_1 : PC := (.post (.reg r75_1) ⟨[6], [], [], []⟩)
def r75_0 : List PO := [⟨(some 6), (.assign (.const (.bool false))), none⟩]
attribute [go_sem] r75_0
def c75 : PC := (.seq (.reg r75_0) (.seq (.pre ⟨[0, 1, 2], [], [], []⟩ k75_1) .ret))
def i75 : FnI := ⟨15, [(.tmp 6)], c75, 0, [[0], [0], [0]], [[0]], false, false, 0, false⟩
-- loop.example/g00344/impl.partsOf
def r144_5 : List PO := [⟨(some 8), (.binOp .eql 3 (.tmp 3) (.const (.int .i64 4)) 3), none⟩,
  ⟨(some 4), (.assign (.tmp 8)), none⟩]
attribute [go_sem] r144_5
def k144_3 : PC := (.cond (.tmp 4) (.post .skip ⟨[3, 4], [], [], []⟩) (.post (.reg r144_5) ⟨[3, 4], [], [], []⟩))
def r144_4 : List PO := [⟨(some 7), (.binOp .eql 3 (.tmp 3) (.const (.int .i64 3)) 3), none⟩,
  ⟨(some 4), (.assign (.tmp 7)), none⟩]
attribute [go_sem] r144_4
def k144_2 : PC := (.cond (.tmp 4) (.post .skip ⟨[3, 4], [], [], []⟩) (.seq (.reg r144_4) (.post (.pre ⟨[3, 4], [], [], []⟩ k144_3) ⟨[3, 4], [], [], []⟩)))
def r144_3 : List PO := [⟨(some 6), (.binOp .eql 3 (.tmp 3) (.const (.int .i64 2)) 3), none⟩,
  ⟨(some 4), (.assign (.tmp 6)), none⟩]
attribute [go_sem] r144_3
def k144_1 : PC := (.cond (.tmp 4) (.post .skip ⟨[3, 4], [], [], []⟩) (.seq (.reg r144_3) (.post (.pre ⟨[3, 4], [], [], []⟩ k144_2) ⟨[3, 4], [], [], []⟩)))
def r144_10 : List PO := [⟨(some 13), (.binOp .eql 3 (.tmp 3) (.const (.int .i64 6)) 3), none⟩,
  ⟨(some 11), (.assign (.tmp 13)), none⟩]
attribute [go_sem] r144_10
def k144_4 : PC := (.cond (.tmp 11) (.post .skip ⟨[11], [], [], []⟩) (.post (.reg r144_10) ⟨[11], [], [], []⟩))
def r144_0 : List PO := [⟨(some 2), (.assign (.const (.int .i64 0))), none⟩]
attribute [go_sem] r144_0
def r144_1 : List PO := [⟨(some 3), (.move (.tmp 0)), none⟩]
attribute [go_sem] r144_1
def r144_2 : List PO := [⟨(some 5), (.binOp .eql 3 (.tmp 3) (.const (.int .i64 1)) 3), none⟩,
  ⟨(some 4), (.assign (.tmp 5)), none⟩]
attribute [go_sem] r144_2
def r144_6 : List PO := [⟨(some 2), (.assign (.const (.int .i64 0))), none⟩]
attribute [go_sem] r144_6
def r144_7 : List PO := [⟨(some 10), (.binOp .eql 3 (.tmp 3) (.const (.int .i64 7)) 3), none⟩,
  ⟨(some 9), (.assign (.tmp 10)), none⟩]
attribute [go_sem] r144_7
def r144_8 : List PO := [⟨(some 2), (.assign (.const (.int .i64 1))), none⟩]
attribute [go_sem] r144_8
def r144_9 : List PO := [⟨(some 12), (.binOp .eql 3 (.tmp 3) (.const (.int .i64 5)) 3), none⟩,
  ⟨(some 11), (.assign (.tmp 12)), none⟩]
attribute [go_sem] r144_9
def r144_11 : List PO := [⟨(some 2), (.assign (.const (.int .i64 2))), none⟩]
attribute [go_sem] r144_11
def r144_12 : List PO := [⟨(some 2), (.assign (.const (.int .i64 (-1)))), none⟩]
attribute [go_sem] r144_12
def c144 : PC := (.seq (.reg r144_0) (.seq (.seq (.reg r144_1) (.block 0 (.seq (.seq (.reg r144_2) (.pre ⟨[3, 4], [], [], []⟩ k144_1)) (.cond (.tmp 4) (.seq (.reg r144_6) .ret) (.seq (.reg r144_7) (.cond (.tmp 9) (.seq (.reg r144_8) .ret) (.seq (.seq (.reg r144_9) (.pre ⟨[3, 11], [], [], []⟩ k144_4)) (.cond (.tmp 11) (.seq (.reg r144_11) .ret) .skip)))))))) (.seq (.reg r144_12) .ret)))
def i144 : FnI := ⟨14, [(.tmp 2)], c144, 0, [[0]], [[0]], false, false, 0, false⟩
-- loop.example/g00344/impl.sizeAt
def r123_3 : List PO := [⟨(some 9), (.move (.tmp 6)), none⟩,
  ⟨(some 10), (.move (.tmp 0)), none⟩,
  ⟨(some 11), (.call { callee := (.builtin .len), args := #[(.tmp 10)], argTypes := #[70] }), none⟩,
  ⟨(some 12), (.binOp .lss 3 (.tmp 9) (.tmp 11) 3), none⟩]
attribute [go_sem] r123_3
def r123_5 : List PO := [⟨(some 15), (.move (.tmp 0)), none⟩,
  ⟨(some 16), (.move (.tmp 6)), none⟩,
  ⟨(some 17), (.indexAddr 70 (.tmp 15) (.tmp 16)), none⟩,
  ⟨(some 18), (.fieldAddr 129 (.tmp 17) 0), none⟩,
  ⟨(some 19), (.load 3 (.tmp 18)), none⟩,
  ⟨(some 20), (.call { callee := (.value (.func 144)), args := #[(.tmp 19)], argTypes := #[3] }), none⟩,
  ⟨(some 7), (.assign (.tmp 20)), none⟩]
attribute [go_sem] r123_5
def r123_6 : List PO := [⟨(some 21), (.move (.tmp 7)), none⟩,
  ⟨(some 22), (.binOp .lss 3 (.tmp 21) (.const (.int .i64 0)) 3), none⟩]
attribute [go_sem] r123_6
def r123_7 : List PO := [⟨(some 4), (.assign (.const (.int .i64 (-1)))), none⟩]
attribute [go_sem] r123_7
def r123_8 : List PO := [⟨(some 23), (.move (.tmp 5)), none⟩,
  ⟨(some 24), (.move (.tmp 7)), none⟩,
  ⟨(some 25), (.binOp .sub 3 (.tmp 24) (.const (.int .i64 1)) 3), none⟩,
  ⟨(some 26), (.binOp .add 3 (.tmp 23) (.tmp 25) 3), none⟩,
  ⟨(some 5), (.assign (.tmp 26)), none⟩]
attribute [go_sem] r123_8
def r123_9 : List PO := [⟨(some 27), (.move (.tmp 5)), none⟩,
  ⟨(some 28), (.binOp .eql 3 (.tmp 27) (.const (.int .i64 0)) 3), none⟩]
attribute [go_sem] r123_9
def r123_10 : List PO := [⟨(some 29), (.move (.tmp 6)), none⟩,
  ⟨(some 30), (.binOp .add 3 (.tmp 29) (.const (.int .i64 1)) 3), none⟩,
  ⟨(some 31), (.move (.tmp 1)), none⟩,
  ⟨(some 32), (.binOp .sub 3 (.tmp 30) (.tmp 31) 3), none⟩,
  ⟨(some 4), (.assign (.tmp 32)), none⟩]
attribute [go_sem] r123_10
def r123_4 : List PO := [⟨(some 13), (.move (.tmp 6)), none⟩,
  ⟨(some 14), (.binOp .add 3 (.tmp 13) (.const (.int .i64 1)) 3), none⟩,
  ⟨(some 6), (.assign (.tmp 14)), none⟩]
attribute [go_sem] r123_4
def k123_1b : PC := (.seq (.seq (.reg r123_3) (.cond (.tmp 12) .skip (.pre ⟨[], [], [], []⟩ (.exit 0)))) (.seq (.block 1 (.seq (.reg r123_5) (.seq (.seq (.reg r123_6) (.cond (.tmp 22) (.seq (.reg r123_7) (.pre ⟨[4], [], [], []⟩ .ret)) .skip)) (.seq (.reg r123_8) (.seq (.reg r123_9) (.cond (.tmp 28) (.seq (.reg r123_10) (.pre ⟨[4], [], [], []⟩ .ret)) .skip)))))) (.post (.reg r123_4) ⟨[0, 1, 5, 6], [], [], []⟩)))
def r123_0 : List PO := [⟨(some 4), (.assign (.const (.int .i64 0))), none⟩]
attribute [go_sem] r123_0
def r123_1 : List PO := [⟨(some 5), (.assign (.const (.int .i64 1))), none⟩]
attribute [go_sem] r123_1
def r123_2 : List PO := [⟨(some 8), (.move (.tmp 1)), none⟩,
  ⟨(some 6), (.assign (.tmp 8)), none⟩]
attribute [go_sem] r123_2
def r123_11 : List PO := [⟨(some 4), (.assign (.const (.int .i64 (-1)))), none⟩]
attribute [go_sem] r123_11
def c123 : PC := (.seq (.reg r123_0) (.seq (.reg r123_1) (.seq (.seq (.reg r123_2) (.block 0 (.pre ⟨[0, 1, 5, 6], [], [], []⟩ (.loop k123_1b)))) (.seq (.reg r123_11) .ret))))
def i123 : FnI := ⟨33, [(.tmp 4)], c123, 0, [[2], [0]], [[0]], false, false, 0, false⟩
-- slices.IndexFunc[[]loop.example/g00344/impl.ReCell,loop.example/g00344/impl.ReCell]
def r145_2 : List PO := [⟨(some 9), (.binOp .lss 3 (.tmp 8) (.tmp 7) 3), none⟩]
attribute [go_sem] r145_2
def r145_3 : List PO := [⟨(some 10), (.move (.tmp 8)), none⟩,
  ⟨(some 5), (.assign (.tmp 10)), none⟩]
attribute [go_sem] r145_3
def r145_4 : List PO := [⟨(some 11), (.move (.tmp 1)), none⟩,
  ⟨(some 12), (.move (.tmp 0)), none⟩,
  ⟨(some 13), (.move (.tmp 5)), none⟩,
  ⟨(some 14), (.indexAddr 70 (.tmp 12) (.tmp 13)), none⟩,
  ⟨(some 15), (.load 129 (.tmp 14)), none⟩,
  ⟨(some 16), (.call { callee := (.value (.tmp 11)), args := #[(.tmp 15)], argTypes := #[129] }), none⟩]
attribute [go_sem] r145_4
def r145_5 : List PO := [⟨(some 17), (.move (.tmp 5)), none⟩,
  ⟨(some 4), (.assign (.tmp 17)), none⟩]
attribute [go_sem] r145_5
def r145_6 : List PO := [⟨(some 18), (.binOp .add 3 (.tmp 8) (.const (.int .i64 1)) 3), none⟩,
  ⟨(some 8), (.move (.tmp 18)), none⟩]
attribute [go_sem] r145_6
def k145_1b : PC := (.seq (.reg r145_2) (.seq (.cond (.tmp 9) .skip (.pre ⟨[], [], [], []⟩ (.exit 0))) (.seq (.block 1 (.seq (.reg r145_3) (.seq (.reg r145_4) (.cond (.tmp 16) (.seq (.reg r145_5) (.pre ⟨[4], [], [], []⟩ .ret)) .skip)))) (.post (.reg r145_6) ⟨[0, 1, 7, 8], [], [], []⟩))))
def r145_0 : List PO := [⟨(some 4), (.assign (.const (.int .i64 0))), none⟩]
attribute [go_sem] r145_0
def r145_1 : List PO := [⟨(some 6), (.move (.tmp 0)), none⟩,
  ⟨(some 7), (.call { callee := (.builtin .len), args := #[(.tmp 6)], argTypes := #[70] }), none⟩,
  ⟨(some 8), (.move (.const (.int .i64 0))), none⟩]
attribute [go_sem] r145_1
def r145_7 : List PO := [⟨(some 4), (.assign (.const (.int .i64 (-1)))), none⟩]
attribute [go_sem] r145_7
def c145 : PC := (.seq (.reg r145_0) (.seq (.seq (.reg r145_1) (.block 0 (.pre ⟨[0, 1, 7, 8], [], [], []⟩ (.loop k145_1b)))) (.seq (.reg r145_7) .ret)))
def i145 : FnI := ⟨19, [(.tmp 4)], c145, 0, [[2], [0]], [[0]], false, false, 0, false⟩
-- slices.ContainsFunc[[]loop.example/g00344/impl.ReCell,loop.example/g00344/impl.ReCell]
def r124_0 : List PO := [⟨(some 4), (.assign (.const (.bool false))), none⟩]
attribute [go_sem] r124_0
def r124_1 : List PO := [⟨(some 5), (.move (.tmp 0)), none⟩,
  ⟨(some 6), (.move (.tmp 1)), none⟩,
  ⟨(some 7), (.call { callee := (.value (.func 145)), args := #[(.tmp 5), (.tmp 6)], argTypes := #[70, 153] }), none⟩,
  ⟨(some 8), (.binOp .geq 3 (.tmp 7) (.const (.int .i64 0)) 3), none⟩,
  ⟨(some 4), (.assign (.tmp 8)), none⟩]
attribute [go_sem] r124_1
def c124 : PC := (.seq (.reg r124_0) (.seq (.reg r124_1) .ret))
def i124 : FnI := ⟨9, [(.tmp 4)], c124, 0, [[2], [0]], [[0]], false, false, 0, false⟩
-- loop.example/g00344/impl.isAsn
def r91_0 : List PO := [⟨(some 2), (.assign (.const (.bool false))), none⟩]
attribute [go_sem] r91_0
def r91_1 : List PO := [⟨(some 3), (.move (.tmp 0)), none⟩,
  ⟨(some 4), (.call { callee := (.value (.func 75)), args := #[(.tmp 3), (.const (.int .i64 1)), (.const (.int .i64 65535))], argTypes := #[3, 3, 3] }), none⟩,
  ⟨(some 2), (.assign (.tmp 4)), none⟩]
attribute [go_sem] r91_1
def c91 : PC := (.seq (.reg r91_0) (.seq (.reg r91_1) .ret))
def i91 : FnI := ⟨5, [(.tmp 2)], c91, 0, [[0]], [[0]], false, false, 0, false⟩
-- loop.example/g00344/impl.GoodRegex$1
def r125_1 : List PO := [⟨(some 3), (.fieldAddr 129 (.tmp 1) 0), none⟩,
  ⟨(some 4), (.load 3 (.tmp 3)), none⟩,
  ⟨(some 5), (.binOp .eql 3 (.tmp 4) (.const (.int .i64 3)) 3), none⟩,
  ⟨(some 6), (.move (.tmp 5)), none⟩,
  ⟨(some 7), (.fieldAddr 129 (.tmp 1) 1), (some (6, true))⟩,
  ⟨(some 8), (.load 3 (.tmp 7)), (some (6, true))⟩,
  ⟨(some 9), (.call { callee := (.value (.func 91)), args := #[(.tmp 8)], argTypes := #[3] }), (some (6, true))⟩,
  ⟨(some 10), (.unOp .not 4 (.tmp 9)), (some (6, true))⟩,
  ⟨(some 11), (.pick (.tmp 6) (.tmp 10) (.const (.bool false))), none⟩,
  ⟨(some 12), (.move (.tmp 11)), none⟩,
  ⟨(some 13), (.fieldAddr 129 (.tmp 1) 0), (some (12, false))⟩,
  ⟨(some 14), (.load 3 (.tmp 13)), (some (12, false))⟩,
  ⟨(some 15), (.binOp .neq 3 (.tmp 14) (.const (.int .i64 3)) 3), (some (12, false))⟩,
  ⟨(some 16), (.move (.tmp 15)), (some (12, false))⟩,
  ⟨(some 17), (.fieldAddr 129 (.tmp 1) 1), (some (16, true))⟩,
  ⟨(some 18), (.load 3 (.tmp 17)), (some (16, true))⟩,
  ⟨(some 19), (.binOp .neq 3 (.tmp 18) (.const (.int .i64 0)) 3), (some (16, true))⟩,
  ⟨(some 20), (.pick (.tmp 16) (.tmp 19) (.const (.bool false))), (some (12, false))⟩,
  ⟨(some 21), (.pick (.tmp 12) (.const (.bool true)) (.tmp 20)), none⟩,
  ⟨(some 2), (.assign (.tmp 21)), none⟩]
attribute [go_sem] r125_1
def k125_1 : PC := (.post (.reg r125_1) ⟨[2], [], [], []⟩)
def r125_0 : List PO := [⟨(some 1), (.box 129 (.tmp 0)), none⟩,
  ⟨(some 2), (.assign (.const (.bool false))), none⟩]
attribute [go_sem] r125_0
def c125 : PC := (.seq (.reg r125_0) (.seq (.pre ⟨[1], [.old 0], [], []⟩ k125_1) .ret))
def i125 : FnI := ⟨22, [(.tmp 2)], c125, 0, [[0, 0]], [[0]], false, false, 0, false⟩
-- loop.example/g00344/impl.GoodRegex
def r84_1 : List PO := [⟨(some 3), (.move (.tmp 0)), none⟩,
  ⟨(some 4), (.call { callee := (.builtin .len), args := #[(.tmp 3)], argTypes := #[70] }), none⟩,
  ⟨(some 5), (.call { callee := (.value (.func 75)), args := #[(.tmp 4), (.const (.int .i64 1)), (.const (.int .i64 30))], argTypes := #[3, 3, 3] }), none⟩,
  ⟨(some 6), (.unOp .not 4 (.tmp 5)), none⟩,
  ⟨(some 7), (.move (.tmp 6)), none⟩,
  ⟨(some 8), (.move (.tmp 0)), (some (7, false))⟩,
  ⟨(some 9), (.call { callee := (.value (.func 123)), args := #[(.tmp 8), (.const (.int .i64 0))], argTypes := #[70, 3] }), (some (7, false))⟩,
  ⟨(some 10), (.move (.tmp 0)), (some (7, false))⟩,
  ⟨(some 11), (.call { callee := (.builtin .len), args := #[(.tmp 10)], argTypes := #[70] }), (some (7, false))⟩,
  ⟨(some 12), (.binOp .neq 3 (.tmp 9) (.tmp 11) 3), (some (7, false))⟩,
  ⟨(some 13), (.pick (.tmp 7) (.const (.bool true)) (.tmp 12)), none⟩]
attribute [go_sem] r84_1
def k84_1 : PC := (.post (.reg r84_1) ⟨[0, 13], [], [], []⟩)
def r84_0 : List PO := [⟨(some 2), (.assign (.const (.bool false))), none⟩]
attribute [go_sem] r84_0
def r84_2 : List PO := [⟨(some 2), (.assign (.const (.bool false))), none⟩]
attribute [go_sem] r84_2
def r84_3 : List PO := [⟨(some 14), (.move (.tmp 0)), none⟩,
  ⟨(some 15), (.call { callee := (.value (.func 124)), args := #[(.tmp 14), (.func 125)], argTypes := #[70, 153] }), none⟩,
  ⟨(some 16), (.unOp .not 4 (.tmp 15)), none⟩,
  ⟨(some 2), (.assign (.tmp 16)), none⟩]
attribute [go_sem] r84_3
def c84 : PC := (.seq (.reg r84_0) (.seq (.seq (.pre ⟨[0], [], [], []⟩ k84_1) (.cond (.tmp 13) (.seq (.reg r84_2) .ret) .skip)) (.seq (.reg r84_3) .ret)))
def i84 : FnI := ⟨17, [(.tmp 2)], c84, 0, [[2]], [[0]], false, false, 0, false⟩
-- loop.example/g00344/impl.isValue
def r79_0 : List PO := [⟨(some 2), (.assign (.const (.bool false))), none⟩]
attribute [go_sem] r79_0
def r79_1 : List PO := [⟨(some 3), (.move (.tmp 0)), none⟩,
  ⟨(some 4), (.call { callee := (.value (.func 75)), args := #[(.tmp 3), (.const (.int .i64 0)), (.const (.int .i64 1000000))], argTypes := #[3, 3, 3] }), none⟩,
  ⟨(some 2), (.assign (.tmp 4)), none⟩]
attribute [go_sem] r79_1
def c79 : PC := (.seq (.reg r79_0) (.seq (.reg r79_1) .ret))
def i79 : FnI := ⟨5, [(.tmp 2)], c79, 0, [[0]], [[0]], false, false, 0, false⟩
-- slices.IndexFunc[[]loop.example/g00344/impl.Range,loop.example/g00344/impl.Range]
def r126_2 : List PO := [⟨(some 9), (.binOp .lss 3 (.tmp 8) (.tmp 7) 3), none⟩]
attribute [go_sem] r126_2
def r126_3 : List PO := [⟨(some 10), (.move (.tmp 8)), none⟩,
  ⟨(some 5), (.assign (.tmp 10)), none⟩]
attribute [go_sem] r126_3
def r126_4 : List PO := [⟨(some 11), (.move (.tmp 1)), none⟩,
  ⟨(some 12), (.move (.tmp 0)), none⟩,
  ⟨(some 13), (.move (.tmp 5)), none⟩,
  ⟨(some 14), (.indexAddr 69 (.tmp 12) (.tmp 13)), none⟩,
  ⟨(some 15), (.load 114 (.tmp 14)), none⟩,
  ⟨(some 16), (.call { callee := (.value (.tmp 11)), args := #[(.tmp 15)], argTypes := #[114] }), none⟩]
attribute [go_sem] r126_4
def r126_5 : List PO := [⟨(some 17), (.move (.tmp 5)), none⟩,
  ⟨(some 4), (.assign (.tmp 17)), none⟩]
attribute [go_sem] r126_5
def r126_6 : List PO := [⟨(some 18), (.binOp .add 3 (.tmp 8) (.const (.int .i64 1)) 3), none⟩,
  ⟨(some 8), (.move (.tmp 18)), none⟩]
attribute [go_sem] r126_6
def k126_1b : PC := (.seq (.reg r126_2) (.seq (.cond (.tmp 9) .skip (.pre ⟨[], [], [], []⟩ (.exit 0))) (.seq (.block 1 (.seq (.reg r126_3) (.seq (.reg r126_4) (.cond (.tmp 16) (.seq (.reg r126_5) (.pre ⟨[4], [], [], []⟩ .ret)) .skip)))) (.post (.reg r126_6) ⟨[0, 1, 7, 8], [], [], []⟩))))
def r126_0 : List PO := [⟨(some 4), (.assign (.const (.int .i64 0))), none⟩]
attribute [go_sem] r126_0
def r126_1 : List PO := [⟨(some 6), (.move (.tmp 0)), none⟩,
  ⟨(some 7), (.call { callee := (.builtin .len), args := #[(.tmp 6)], argTypes := #[69] }), none⟩,
  ⟨(some 8), (.move (.const (.int .i64 0))), none⟩]
attribute [go_sem] r126_1
def r126_7 : List PO := [⟨(some 4), (.assign (.const (.int .i64 (-1)))), none⟩]
attribute [go_sem] r126_7
def c126 : PC := (.seq (.reg r126_0) (.seq (.seq (.reg r126_1) (.block 0 (.pre ⟨[0, 1, 7, 8], [], [], []⟩ (.loop k126_1b)))) (.seq (.reg r126_7) .ret)))
def i126 : FnI := ⟨19, [(.tmp 4)], c126, 0, [[4], [0]], [[0]], false, false, 0, false⟩
-- slices.ContainsFunc[[]loop.example/g00344/impl.Range,loop.example/g00344/impl.Range]
def r85_0 : List PO := [⟨(some 4), (.assign (.const (.bool false))), none⟩]
attribute [go_sem] r85_0
def r85_1 : List PO := [⟨(some 5), (.move (.tmp 0)), none⟩,
  ⟨(some 6), (.move (.tmp 1)), none⟩,
  ⟨(some 7), (.call { callee := (.value (.func 126)), args := #[(.tmp 5), (.tmp 6)], argTypes := #[69, 118] }), none⟩,
  ⟨(some 8), (.binOp .geq 3 (.tmp 7) (.const (.int .i64 0)) 3), none⟩,
  ⟨(some 4), (.assign (.tmp 8)), none⟩]
attribute [go_sem] r85_1
def c85 : PC := (.seq (.reg r85_0) (.seq (.reg r85_1) .ret))
def i85 : FnI := ⟨9, [(.tmp 4)], c85, 0, [[4], [0]], [[0]], false, false, 0, false⟩
-- loop.example/g00344/impl.isAddr
def r76_0 : List PO := [⟨(some 2), (.assign (.const (.bool false))), none⟩]
attribute [go_sem] r76_0
def r76_1 : List PO := [⟨(some 3), (.move (.tmp 0)), none⟩,
  ⟨(some 4), (.call { callee := (.value (.func 75)), args := #[(.tmp 3), (.const (.int .i64 0)), (.const (.int .i64 4294967295))], argTypes := #[3, 3, 3] }), none⟩,
  ⟨(some 2), (.assign (.tmp 4)), none⟩]
attribute [go_sem] r76_1
def c76 : PC := (.seq (.reg r76_0) (.seq (.reg r76_1) .ret))
def i76 : FnI := ⟨5, [(.tmp 2)], c76, 0, [[0]], [[0]], false, false, 0, false⟩
-- loop.example/g00344/impl.sizeOf
def r77_0 : List PO := [⟨(some 2), (.assign (.const (.int .i64 0))), none⟩]
attribute [go_sem] r77_0
def r77_1 : List PO := [⟨(some 3), (.move (.tmp 0)), none⟩,
  ⟨(some 4), (.binOp .sub 3 (.const (.int .i64 32)) (.tmp 3) 3), none⟩,
  ⟨(some 5), (.binOp .shl 3 (.const (.int .i64 1)) (.tmp 4) 3), none⟩,
  ⟨(some 2), (.assign (.tmp 5)), none⟩]
attribute [go_sem] r77_1
def c77 : PC := (.seq (.reg r77_0) (.seq (.reg r77_1) .ret))
def i77 : FnI := ⟨6, [(.tmp 2)], c77, 0, [[0]], [[0]], false, false, 0, false⟩
-- loop.example/g00344/impl.GoodPrefix
def r37_1 : List PO := [⟨(some 3), (.fieldAddr 31 (.tmp 1) 1), none⟩,
  ⟨(some 4), (.load 3 (.tmp 3)), none⟩,
  ⟨(some 5), (.call { callee := (.value (.func 75)), args := #[(.tmp 4), (.const (.int .i64 0)), (.const (.int .i64 32))], argTypes := #[3, 3, 3] }), none⟩,
  ⟨(some 6), (.move (.tmp 5)), none⟩,
  ⟨(some 7), (.fieldAddr 31 (.tmp 1) 0), (some (6, true))⟩,
  ⟨(some 8), (.load 3 (.tmp 7)), (some (6, true))⟩,
  ⟨(some 9), (.call { callee := (.value (.func 76)), args := #[(.tmp 8)], argTypes := #[3] }), (some (6, true))⟩,
  ⟨(some 10), (.pick (.tmp 6) (.tmp 9) (.const (.bool false))), none⟩,
  ⟨(some 11), (.move (.tmp 10)), none⟩,
  ⟨(some 12), (.fieldAddr 31 (.tmp 1) 0), (some (11, true))⟩,
  ⟨(some 13), (.load 3 (.tmp 12)), (some (11, true))⟩,
  ⟨(some 14), (.fieldAddr 31 (.tmp 1) 1), (some (11, true))⟩,
  ⟨(some 15), (.load 3 (.tmp 14)), (some (11, true))⟩,
  ⟨(some 16), (.call { callee := (.value (.func 77)), args := #[(.tmp 15)], argTypes := #[3] }), (some (11, true))⟩,
  ⟨(some 17), (.binOp .rem 3 (.tmp 13) (.tmp 16) 3), (some (11, true))⟩,
  ⟨(some 18), (.binOp .eql 3 (.tmp 17) (.const (.int .i64 0)) 3), (some (11, true))⟩,
  ⟨(some 19), (.pick (.tmp 11) (.tmp 18) (.const (.bool false))), none⟩,
  ⟨(some 2), (.assign (.tmp 19)), none⟩]
attribute [go_sem] r37_1
def k37_1 : PC := (.post (.fz r37_1) ⟨[2], [], [], []⟩)
def r37_0 : List PO := [⟨(some 1), (.box 31 (.tmp 0)), none⟩,
  ⟨(some 2), (.assign (.const (.bool false))), none⟩]
attribute [go_sem] r37_0
def c37 : PC := (.seq (.reg r37_0) (.seq (.pre ⟨[1], [.old 0], [], []⟩ k37_1) .ret))
def i37 : FnI := ⟨20, [(.tmp 2)], c37, 0, [[0, 0]], [[0]], false, false, 0, false⟩
-- loop.example/g00344/impl.isTerm$1
def r86_1 : List PO := [⟨(some 3), (.fieldAddr 114 (.tmp 1) 0), none⟩,
  ⟨(some 4), (.load 31 (.tmp 3)), none⟩,
  ⟨(some 5), (.call { callee := (.value (.func 37)), args := #[(.tmp 4)], argTypes := #[31] }), none⟩,
  ⟨(some 6), (.unOp .not 4 (.tmp 5)), none⟩,
  ⟨(some 7), (.move (.tmp 6)), none⟩,
  ⟨(some 8), (.fieldAddr 114 (.tmp 1) 1), (some (7, false))⟩,
  ⟨(some 9), (.load 3 (.tmp 8)), (some (7, false))⟩,
  ⟨(some 10), (.fieldAddr 114 (.tmp 1) 0), (some (7, false))⟩,
  ⟨(some 11), (.fieldAddr 31 (.tmp 10) 1), (some (7, false))⟩,
  ⟨(some 12), (.load 3 (.tmp 11)), (some (7, false))⟩,
  ⟨(some 13), (.binOp .lss 3 (.tmp 9) (.tmp 12) 3), (some (7, false))⟩,
  ⟨(some 14), (.pick (.tmp 7) (.const (.bool true)) (.tmp 13)), none⟩,
  ⟨(some 15), (.move (.tmp 14)), none⟩,
  ⟨(some 16), (.fieldAddr 114 (.tmp 1) 2), (some (15, false))⟩,
  ⟨(some 17), (.load 3 (.tmp 16)), (some (15, false))⟩,
  ⟨(some 18), (.fieldAddr 114 (.tmp 1) 1), (some (15, false))⟩,
  ⟨(some 19), (.load 3 (.tmp 18)), (some (15, false))⟩,
  ⟨(some 20), (.binOp .lss 3 (.tmp 17) (.tmp 19) 3), (some (15, false))⟩,
  ⟨(some 21), (.pick (.tmp 15) (.const (.bool true)) (.tmp 20)), none⟩,
  ⟨(some 22), (.move (.tmp 21)), none⟩,
  ⟨(some 23), (.fieldAddr 114 (.tmp 1) 2), (some (22, false))⟩,
  ⟨(some 24), (.load 3 (.tmp 23)), (some (22, false))⟩,
  ⟨(some 25), (.binOp .gtr 3 (.tmp 24) (.const (.int .i64 32)) 3), (some (22, false))⟩,
  ⟨(some 26), (.pick (.tmp 22) (.const (.bool true)) (.tmp 25)), none⟩,
  ⟨(some 2), (.assign (.tmp 26)), none⟩]
attribute [go_sem] r86_1
def k86_1 : PC := (.post (.reg r86_1) ⟨[2], [], [], []⟩)
def r86_0 : List PO := [⟨(some 1), (.box 114 (.tmp 0)), none⟩,
  ⟨(some 2), (.assign (.const (.bool false))), none⟩]
attribute [go_sem] r86_0
def c86 : PC := (.seq (.reg r86_0) (.seq (.pre ⟨[1], [.old 0], [], []⟩ k86_1) .ret))
def i86 : FnI := ⟨27, [(.tmp 2)], c86, 0, [[0, 0, 0, 0]], [[0]], false, false, 0, false⟩
-- slices.IndexFunc[[]loop.example/g00344/impl.Act,loop.example/g00344/impl.Act]
def r127_2 : List PO := [⟨(some 9), (.binOp .lss 3 (.tmp 8) (.tmp 7) 3), none⟩]
attribute [go_sem] r127_2
def r127_3 : List PO := [⟨(some 10), (.move (.tmp 8)), none⟩,
  ⟨(some 5), (.assign (.tmp 10)), none⟩]
attribute [go_sem] r127_3
def r127_4 : List PO := [⟨(some 11), (.move (.tmp 1)), none⟩,
  ⟨(some 12), (.move (.tmp 0)), none⟩,
  ⟨(some 13), (.move (.tmp 5)), none⟩,
  ⟨(some 14), (.indexAddr 71 (.tmp 12) (.tmp 13)), none⟩,
  ⟨(some 15), (.load 53 (.tmp 14)), none⟩,
  ⟨(some 16), (.call { callee := (.value (.tmp 11)), args := #[(.tmp 15)], argTypes := #[53] }), none⟩]
attribute [go_sem] r127_4
def r127_5 : List PO := [⟨(some 17), (.move (.tmp 5)), none⟩,
  ⟨(some 4), (.assign (.tmp 17)), none⟩]
attribute [go_sem] r127_5
def r127_6 : List PO := [⟨(some 18), (.binOp .add 3 (.tmp 8) (.const (.int .i64 1)) 3), none⟩,
  ⟨(some 8), (.move (.tmp 18)), none⟩]
attribute [go_sem] r127_6
def k127_1b : PC := (.seq (.reg r127_2) (.seq (.cond (.tmp 9) .skip (.pre ⟨[], [], [], []⟩ (.exit 0))) (.seq (.block 1 (.seq (.reg r127_3) (.seq (.reg r127_4) (.cond (.tmp 16) (.seq (.reg r127_5) (.pre ⟨[4], [], [], []⟩ .ret)) .skip)))) (.post (.reg r127_6) ⟨[0, 1, 7, 8], [], [], []⟩))))
def r127_0 : List PO := [⟨(some 4), (.assign (.const (.int .i64 0))), none⟩]
attribute [go_sem] r127_0
def r127_1 : List PO := [⟨(some 6), (.move (.tmp 0)), none⟩,
  ⟨(some 7), (.call { callee := (.builtin .len), args := #[(.tmp 6)], argTypes := #[71] }), none⟩,
  ⟨(some 8), (.move (.const (.int .i64 0))), none⟩]
attribute [go_sem] r127_1
def r127_7 : List PO := [⟨(some 4), (.assign (.const (.int .i64 (-1)))), none⟩]
attribute [go_sem] r127_7
def c127 : PC := (.seq (.reg r127_0) (.seq (.seq (.reg r127_1) (.block 0 (.pre ⟨[0, 1, 7, 8], [], [], []⟩ (.loop k127_1b)))) (.seq (.reg r127_7) .ret)))
def i127 : FnI := ⟨19, [(.tmp 4)], c127, 0, [[2], [0]], [[0]], false, false, 0, false⟩
-- slices.ContainsFunc[[]loop.example/g00344/impl.Act,loop.example/g00344/impl.Act]
def r87_0 : List PO := [⟨(some 4), (.assign (.const (.bool false))), none⟩]
attribute [go_sem] r87_0
def r87_1 : List PO := [⟨(some 5), (.move (.tmp 0)), none⟩,
  ⟨(some 6), (.move (.tmp 1)), none⟩,
  ⟨(some 7), (.call { callee := (.value (.func 127)), args := #[(.tmp 5), (.tmp 6)], argTypes := #[71, 89] }), none⟩,
  ⟨(some 8), (.binOp .geq 3 (.tmp 7) (.const (.int .i64 0)) 3), none⟩,
  ⟨(some 4), (.assign (.tmp 8)), none⟩]
attribute [go_sem] r87_1
def c87 : PC := (.seq (.reg r87_0) (.seq (.reg r87_1) .ret))
def i87 : FnI := ⟨9, [(.tmp 4)], c87, 0, [[2], [0]], [[0]], false, false, 0, false⟩
-- loop.example/g00344/impl.isAct
def r50_5 : List PO := [⟨(some 9), (.binOp .eql 3 (.tmp 4) (.const (.int .i64 4)) 3), none⟩,
  ⟨(some 5), (.assign (.tmp 9)), none⟩]
attribute [go_sem] r50_5
def k50_3 : PC := (.cond (.tmp 5) (.post .skip ⟨[1, 4, 5], [.old 0], [], []⟩) (.post (.reg r50_5) ⟨[1, 4, 5], [.old 0], [], []⟩))
def r50_4 : List PO := [⟨(some 8), (.binOp .eql 3 (.tmp 4) (.const (.int .i64 3)) 3), none⟩,
  ⟨(some 5), (.assign (.tmp 8)), none⟩]
attribute [go_sem] r50_4
def k50_2 : PC := (.cond (.tmp 5) (.post .skip ⟨[1, 4, 5], [.old 0], [], []⟩) (.seq (.reg r50_4) (.post (.pre ⟨[1, 4, 5], [.old 0], [], []⟩ k50_3) ⟨[1, 4, 5], [.old 0], [], []⟩)))
def r50_3 : List PO := [⟨(some 7), (.binOp .eql 3 (.tmp 4) (.const (.int .i64 2)) 3), none⟩,
  ⟨(some 5), (.assign (.tmp 7)), none⟩]
attribute [go_sem] r50_3
def k50_1 : PC := (.cond (.tmp 5) (.post .skip ⟨[1, 4, 5], [.old 0], [], []⟩) (.seq (.reg r50_3) (.post (.pre ⟨[1, 4, 5], [.old 0], [], []⟩ k50_2) ⟨[1, 4, 5], [.old 0], [], []⟩)))
def r50_0 : List PO := [⟨(some 1), (.box 53 (.tmp 0)), none⟩,
  ⟨(some 2), (.assign (.const (.bool false))), none⟩]
attribute [go_sem] r50_0
def r50_1 : List PO := [⟨(some 3), (.fieldAddr 53 (.tmp 1) 0), none⟩,
  ⟨(some 4), (.load 3 (.tmp 3)), none⟩]
attribute [go_sem] r50_1
def r50_2 : List PO := [⟨(some 6), (.binOp .eql 3 (.tmp 4) (.const (.int .i64 1)) 3), none⟩,
  ⟨(some 5), (.assign (.tmp 6)), none⟩]
attribute [go_sem] r50_2
def r50_6 : List PO := [⟨(some 10), (.fieldAddr 53 (.tmp 1) 1), none⟩,
  ⟨(some 11), (.load 3 (.tmp 10)), none⟩,
  ⟨(some 12), (.call { callee := (.value (.func 79)), args := #[(.tmp 11)], argTypes := #[3] }), none⟩,
  ⟨(some 2), (.assign (.tmp 12)), none⟩]
attribute [go_sem] r50_6
def r50_7 : List PO := [⟨(some 14), (.binOp .eql 3 (.tmp 4) (.const (.int .i64 5)) 3), none⟩,
  ⟨(some 13), (.assign (.tmp 14)), none⟩]
attribute [go_sem] r50_7
def r50_8 : List PO := [⟨(some 15), (.fieldAddr 53 (.tmp 1) 1), none⟩,
  ⟨(some 16), (.load 3 (.tmp 15)), none⟩,
  ⟨(some 17), (.call { callee := (.value (.func 91)), args := #[(.tmp 16)], argTypes := #[3] }), none⟩,
  ⟨(some 2), (.assign (.tmp 17)), none⟩]
attribute [go_sem] r50_8
def r50_9 : List PO := [⟨(some 2), (.assign (.const (.bool false))), none⟩]
attribute [go_sem] r50_9
def c50 : PC := (.seq (.reg r50_0) (.seq (.seq (.reg r50_1) (.block 0 (.seq (.seq (.reg r50_2) (.pre ⟨[1, 4, 5], [.old 0], [], []⟩ k50_1)) (.cond (.tmp 5) (.seq (.reg r50_6) .ret) (.seq (.reg r50_7) (.cond (.tmp 13) (.seq (.reg r50_8) .ret) .skip)))))) (.seq (.reg r50_9) .ret)))
def i50 : FnI := ⟨18, [(.tmp 2)], c50, 0, [[0, 0]], [[0]], false, false, 0, false⟩
-- loop.example/g00344/impl.isTerm$2
def r88_0 : List PO := [⟨(some 1), (.box 53 (.tmp 0)), none⟩,
  ⟨(some 2), (.assign (.const (.bool false))), none⟩]
attribute [go_sem] r88_0
def r88_1 : List PO := [⟨(some 3), (.load 53 (.tmp 1)), none⟩,
  ⟨(some 4), (.call { callee := (.value (.func 50)), args := #[(.tmp 3)], argTypes := #[53] }), none⟩,
  ⟨(some 5), (.unOp .not 4 (.tmp 4)), none⟩,
  ⟨(some 2), (.assign (.tmp 5)), none⟩]
attribute [go_sem] r88_1
def c88 : PC := (.seq (.reg r88_0) (.seq (.reg r88_1) .ret))
def i88 : FnI := ⟨6, [(.tmp 2)], c88, 0, [[0, 0]], [[0]], false, false, 0, false⟩
-- loop.example/g00344/impl.isTerm
def r46_1 : List PO := [⟨(some 3), (.fieldAddr 73 (.tmp 1) 0), none⟩,
  ⟨(some 4), (.load 69 (.tmp 3)), none⟩,
  ⟨(some 5), (.call { callee := (.builtin .len), args := #[(.tmp 4)], argTypes := #[69] }), none⟩,
  ⟨(some 6), (.binOp .gtr 3 (.tmp 5) (.const (.int .i64 6)) 3), none⟩,
  ⟨(some 7), (.move (.tmp 6)), none⟩,
  ⟨(some 8), (.fieldAddr 73 (.tmp 1) 1), (some (7, false))⟩,
  ⟨(some 9), (.load 70 (.tmp 8)), (some (7, false))⟩,
  ⟨(some 10), (.call { callee := (.builtin .len), args := #[(.tmp 9)], argTypes := #[70] }), (some (7, false))⟩,
  ⟨(some 11), (.binOp .gtr 3 (.tmp 10) (.const (.int .i64 0)) 3), (some (7, false))⟩,
  ⟨(some 12), (.move (.tmp 11)), (some (7, false))⟩,
  ⟨(some 13), (.fieldAddr 73 (.tmp 1) 1), (some (12, true))⟩,
  ⟨(some 14), (.load 70 (.tmp 13)), (some (12, true))⟩,
  ⟨(some 15), (.call { callee := (.value (.func 84)), args := #[(.tmp 14)], argTypes := #[70] }), (some (12, true))⟩,
  ⟨(some 16), (.unOp .not 4 (.tmp 15)), (some (12, true))⟩,
  ⟨(some 17), (.pick (.tmp 12) (.tmp 16) (.const (.bool false))), (some (7, false))⟩,
  ⟨(some 18), (.pick (.tmp 7) (.const (.bool true)) (.tmp 17)), none⟩,
  ⟨(some 19), (.move (.tmp 18)), none⟩,
  ⟨(some 20), (.fieldAddr 73 (.tmp 1) 2), (some (19, false))⟩,
  ⟨(some 21), (.load 3 (.tmp 20)), (some (19, false))⟩,
  ⟨(some 22), (.binOp .neq 3 (.tmp 21) (.const (.int .i64 (-1))) 3), (some (19, false))⟩,
  ⟨(some 23), (.move (.tmp 22)), (some (19, false))⟩,
  ⟨(some 24), (.fieldAddr 73 (.tmp 1) 2), (some (23, true))⟩,
  ⟨(some 25), (.load 3 (.tmp 24)), (some (23, true))⟩,
  ⟨(some 26), (.call { callee := (.value (.func 79)), args := #[(.tmp 25)], argTypes := #[3] }), (some (23, true))⟩,
  ⟨(some 27), (.unOp .not 4 (.tmp 26)), (some (23, true))⟩,
  ⟨(some 28), (.pick (.tmp 23) (.tmp 27) (.const (.bool false))), (some (19, false))⟩,
  ⟨(some 29), (.pick (.tmp 19) (.const (.bool true)) (.tmp 28)), none⟩,
  ⟨(some 30), (.move (.tmp 29)), none⟩,
  ⟨(some 31), (.fieldAddr 73 (.tmp 1) 3), (some (30, false))⟩,
  ⟨(some 32), (.load 71 (.tmp 31)), (some (30, false))⟩,
  ⟨(some 33), (.call { callee := (.builtin .len), args := #[(.tmp 32)], argTypes := #[71] }), (some (30, false))⟩,
  ⟨(some 34), (.binOp .gtr 3 (.tmp 33) (.const (.int .i64 5)) 3), (some (30, false))⟩,
  ⟨(some 35), (.pick (.tmp 30) (.const (.bool true)) (.tmp 34)), none⟩,
  ⟨(some 36), (.move (.tmp 35)), none⟩,
  ⟨(some 37), (.fieldAddr 73 (.tmp 1) 4), (some (36, false))⟩,
  ⟨(some 38), (.load 3 (.tmp 37)), (some (36, false))⟩,
  ⟨(some 39), (.call { callee := (.value (.func 75)), args := #[(.tmp 38), (.const (.int .i64 0)), (.const (.int .i64 2))], argTypes := #[3, 3, 3] }), (some (36, false))⟩,
  ⟨(some 40), (.unOp .not 4 (.tmp 39)), (some (36, false))⟩,
  ⟨(some 41), (.pick (.tmp 36) (.const (.bool true)) (.tmp 40)), none⟩]
attribute [go_sem] r46_1
def k46_1 : PC := (.post (.reg r46_1) ⟨[1, 41], [.old 0], [], []⟩)
def r46_3 : List PO := [⟨(some 42), (.fieldAddr 73 (.tmp 1) 0), none⟩,
  ⟨(some 43), (.load 69 (.tmp 42)), none⟩,
  ⟨(some 44), (.call { callee := (.value (.func 85)), args := #[(.tmp 43), (.func 86)], argTypes := #[69, 118] }), none⟩,
  ⟨(some 45), (.unOp .not 4 (.tmp 44)), none⟩,
  ⟨(some 46), (.move (.tmp 45)), none⟩,
  ⟨(some 47), (.fieldAddr 73 (.tmp 1) 3), (some (46, true))⟩,
  ⟨(some 48), (.load 71 (.tmp 47)), (some (46, true))⟩,
  ⟨(some 49), (.call { callee := (.value (.func 87)), args := #[(.tmp 48), (.func 88)], argTypes := #[71, 89] }), (some (46, true))⟩,
  ⟨(some 50), (.unOp .not 4 (.tmp 49)), (some (46, true))⟩,
  ⟨(some 51), (.pick (.tmp 46) (.tmp 50) (.const (.bool false))), none⟩,
  ⟨(some 2), (.assign (.tmp 51)), none⟩]
attribute [go_sem] r46_3
def k46_2 : PC := (.post (.reg r46_3) ⟨[2], [], [], []⟩)
def r46_0 : List PO := [⟨(some 1), (.box 73 (.tmp 0)), none⟩,
  ⟨(some 2), (.assign (.const (.bool false))), none⟩]
attribute [go_sem] r46_0
def r46_2 : List PO := [⟨(some 2), (.assign (.const (.bool false))), none⟩]
attribute [go_sem] r46_2
def c46 : PC := (.seq (.reg r46_0) (.seq (.seq (.pre ⟨[1], [.old 0], [], []⟩ k46_1) (.cond (.tmp 41) (.seq (.reg r46_2) .ret) .skip)) (.seq (.pre ⟨[1], [.old 0], [], []⟩ k46_2) .ret)))
def i46 : FnI := ⟨52, [(.tmp 2)], c46, 0, [[4, 2, 0, 2, 0]], [[0]], false, false, 0, false⟩
-- loop.example/g00344/impl.GoodPolicy$1
def r45_0 : List PO := [⟨(some 1), (.box 73 (.tmp 0)), none⟩,
  ⟨(some 2), (.assign (.const (.bool false))), none⟩]
attribute [go_sem] r45_0
def r45_1 : List PO := [⟨(some 3), (.load 73 (.tmp 1)), none⟩,
  ⟨(some 4), (.call { callee := (.value (.func 46)), args := #[(.tmp 3)], argTypes := #[73] }), none⟩,
  ⟨(some 5), (.unOp .not 4 (.tmp 4)), none⟩,
  ⟨(some 2), (.assign (.tmp 5)), none⟩]
attribute [go_sem] r45_1
def c45 : PC := (.seq (.reg r45_0) (.seq (.reg r45_1) .ret))
def i45 : FnI := ⟨6, [(.tmp 2)], c45, 0, [[4, 2, 0, 2, 0]], [[0]], false, false, 0, false⟩
-- loop.example/g00344/impl.GoodPolicy
def r16_1 : List PO := [⟨(some 3), (.fieldAddr 45 (.tmp 1) 0), none⟩,
  ⟨(some 4), (.load 43 (.tmp 3)), none⟩,
  ⟨(some 5), (.call { callee := (.builtin .len), args := #[(.tmp 4)], argTypes := #[43] }), none⟩,
  ⟨(some 6), (.binOp .leq 3 (.tmp 5) (.const (.int .i64 8)) 3), none⟩,
  ⟨(some 7), (.move (.tmp 6)), none⟩,
  ⟨(some 8), (.fieldAddr 45 (.tmp 1) 0), (some (7, true))⟩,
  ⟨(some 9), (.load 43 (.tmp 8)), (some (7, true))⟩,
  ⟨(some 10), (.call { callee := (.value (.func 44)), args := #[(.tmp 9), (.func 45)], argTypes := #[43, 85] }), (some (7, true))⟩,
  ⟨(some 11), (.unOp .not 4 (.tmp 10)), (some (7, true))⟩,
  ⟨(some 12), (.pick (.tmp 7) (.tmp 11) (.const (.bool false))), none⟩,
  ⟨(some 2), (.assign (.tmp 12)), none⟩]
attribute [go_sem] r16_1
def k16_1 : PC := (.post (.reg r16_1) ⟨[2], [], [], []⟩)
def r16_0 : List PO := [⟨(some 1), (.box 45 (.tmp 0)), none⟩,
  ⟨(some 2), (.assign (.const (.bool false))), none⟩]
attribute [go_sem] r16_0
def c16 : PC := (.seq (.reg r16_0) (.seq (.pre ⟨[1], [.old 0], [], []⟩ k16_1) .ret))
def i16 : FnI := ⟨13, [(.tmp 2)], c16, 0, [[5, 0]], [[0]], false, false, 0, false⟩
-- loop.example/g00344/impl.ThenPolicy$1
def r55_0 : List PO := [⟨(some 1), (.box 73 (.tmp 0)), none⟩,
  ⟨(some 2), (.assign (.const (.bool false))), none⟩]
attribute [go_sem] r55_0
def r55_1 : List PO := [⟨(some 3), (.fieldAddr 73 (.tmp 1) 4), none⟩,
  ⟨(some 4), (.load 3 (.tmp 3)), none⟩,
  ⟨(some 5), (.binOp .eql 3 (.tmp 4) (.const (.int .i64 1)) 3), none⟩,
  ⟨(some 2), (.assign (.tmp 5)), none⟩]
attribute [go_sem] r55_1
def c55 : PC := (.seq (.reg r55_0) (.seq (.reg r55_1) .ret))
def i55 : FnI := ⟨6, [(.tmp 2)], c55, 0, [[4, 2, 0, 2, 0]], [[0]], false, false, 0, false⟩
-- slices.Clone[[]loop.example/g00344/impl.Range,loop.example/g00344/impl.Range]
def r99_0 : List PO := [⟨(some 2), (.assign (.const (.slice none 0 0))), none⟩]
attribute [go_sem] r99_0
def r99_1 : List PO := [⟨(some 3), (.move (.tmp 0)), none⟩,
  ⟨(some 4), (.binOp .eql 69 (.tmp 3) (.const (.slice none 0 0)) 69), none⟩]
def r99_2 : List PO := [⟨(some 2), (.assign (.const (.slice none 0 0))), none⟩]
attribute [go_sem] r99_2
def r99_3 : List PO := [⟨(some 5), (.buildSlice 69 0 #[]), none⟩,
  ⟨(some 6), (.move (.tmp 0)), none⟩,
  ⟨(some 7), (.call { callee := (.builtin .append), args := #[(.tmp 5), (.tmp 6)], argTypes := #[69, 69] }), none⟩,
  ⟨(some 2), (.assign (.tmp 7)), none⟩]
attribute [go_sem] r99_3
def c99 : PC := (.seq (.reg r99_0) (.amb [⟨(some 3), (.move (.tmp 0)), none⟩, ⟨(some 4), (.binOp .eql 69 (.tmp 3) (.const (.slice none 0 0)) 69), none⟩] (.tmp 4) (.seq (.seq (.reg r99_2) (.pre ⟨[2], [.nilT 2 0 4], [], []⟩ .ret)) .bad) (.seq .skip (.seq (.reg r99_3) (.pre ⟨[2], [.old 1], [], []⟩ .ret)))))
def i99 : FnI := ⟨8, [(.tmp 2)], c99, 0, [[4]], [[4]], false, false, 0, false⟩
-- slices.Clone[[]loop.example/g00344/impl.ReCell,loop.example/g00344/impl.ReCell]
def r100_0 : List PO := [⟨(some 2), (.assign (.const (.slice none 0 0))), none⟩]
attribute [go_sem] r100_0
def r100_1 : List PO := [⟨(some 3), (.move (.tmp 0)), none⟩,
  ⟨(some 4), (.binOp .eql 70 (.tmp 3) (.const (.slice none 0 0)) 70), none⟩]
def r100_2 : List PO := [⟨(some 2), (.assign (.const (.slice none 0 0))), none⟩]
attribute [go_sem] r100_2
def r100_3 : List PO := [⟨(some 5), (.buildSlice 70 0 #[]), none⟩,
  ⟨(some 6), (.move (.tmp 0)), none⟩,
  ⟨(some 7), (.call { callee := (.builtin .append), args := #[(.tmp 5), (.tmp 6)], argTypes := #[70, 70] }), none⟩,
  ⟨(some 2), (.assign (.tmp 7)), none⟩]
attribute [go_sem] r100_3
def c100 : PC := (.seq (.reg r100_0) (.amb [⟨(some 3), (.move (.tmp 0)), none⟩, ⟨(some 4), (.binOp .eql 70 (.tmp 3) (.const (.slice none 0 0)) 70), none⟩] (.tmp 4) (.seq (.seq (.reg r100_2) (.pre ⟨[2], [.nilT 2 0 2], [], []⟩ .ret)) .bad) (.seq .skip (.seq (.reg r100_3) (.pre ⟨[2], [.old 1], [], []⟩ .ret)))))
def i100 : FnI := ⟨8, [(.tmp 2)], c100, 0, [[2]], [[2]], false, false, 0, false⟩
-- slices.Clone[[]loop.example/g00344/impl.Act,loop.example/g00344/impl.Act]
def r101_0 : List PO := [⟨(some 2), (.assign (.const (.slice none 0 0))), none⟩]
attribute [go_sem] r101_0
def r101_1 : List PO := [⟨(some 3), (.move (.tmp 0)), none⟩,
  ⟨(some 4), (.binOp .eql 71 (.tmp 3) (.const (.slice none 0 0)) 71), none⟩]
def r101_2 : List PO := [⟨(some 2), (.assign (.const (.slice none 0 0))), none⟩]
attribute [go_sem] r101_2
def r101_3 : List PO := [⟨(some 5), (.buildSlice 71 0 #[]), none⟩,
  ⟨(some 6), (.move (.tmp 0)), none⟩,
  ⟨(some 7), (.call { callee := (.builtin .append), args := #[(.tmp 5), (.tmp 6)], argTypes := #[71, 71] }), none⟩,
  ⟨(some 2), (.assign (.tmp 7)), none⟩]
attribute [go_sem] r101_3
def c101 : PC := (.seq (.reg r101_0) (.amb [⟨(some 3), (.move (.tmp 0)), none⟩, ⟨(some 4), (.binOp .eql 71 (.tmp 3) (.const (.slice none 0 0)) 71), none⟩] (.tmp 4) (.seq (.seq (.reg r101_2) (.pre ⟨[2], [.nilT 2 0 2], [], []⟩ .ret)) .bad) (.seq .skip (.seq (.reg r101_3) (.pre ⟨[2], [.old 1], [], []⟩ .ret)))))
def i101 : FnI := ⟨8, [(.tmp 2)], c101, 0, [[2]], [[2]], false, false, 0, false⟩
-- loop.example/g00344/impl.ownTerms
def r56_3 : List PO := [⟨(some 10), (.binOp .lss 3 (.tmp 9) (.tmp 8) 3), none⟩]
attribute [go_sem] r56_3
def r56_4 : List PO := [⟨(some 11), (.indexAddr 43 (.tmp 7) (.tmp 9)), none⟩,
  ⟨(some 12), (.load 73 (.tmp 11)), none⟩,
  ⟨(some 5), (.alloc 73), none⟩,
  ⟨none, (.store 73 (.tmp 5) (.tmp 12)), none⟩]
attribute [go_sem] r56_4
def r56_5 : List PO := [⟨(some 13), (.fieldAddr 73 (.tmp 5) 0), none⟩,
  ⟨(some 14), (.load 69 (.tmp 13)), none⟩,
  ⟨(some 15), (.call { callee := (.value (.func 99)), args := #[(.tmp 14)], argTypes := #[69] }), none⟩,
  ⟨(some 16), (.fieldAddr 73 (.tmp 5) 1), none⟩,
  ⟨(some 17), (.load 70 (.tmp 16)), none⟩,
  ⟨(some 18), (.call { callee := (.value (.func 100)), args := #[(.tmp 17)], argTypes := #[70] }), none⟩,
  ⟨(some 19), (.fieldAddr 73 (.tmp 5) 3), none⟩,
  ⟨(some 20), (.load 71 (.tmp 19)), none⟩,
  ⟨(some 21), (.call { callee := (.value (.func 101)), args := #[(.tmp 20)], argTypes := #[71] }), none⟩,
  ⟨(some 22), (.fieldAddr 73 (.tmp 5) 0), none⟩,
  ⟨none, (.store 69 (.tmp 22) (.tmp 15)), none⟩,
  ⟨(some 23), (.fieldAddr 73 (.tmp 5) 1), none⟩,
  ⟨none, (.store 70 (.tmp 23) (.tmp 18)), none⟩,
  ⟨(some 24), (.fieldAddr 73 (.tmp 5) 3), none⟩,
  ⟨none, (.store 71 (.tmp 24) (.tmp 21)), none⟩]
attribute [go_sem] r56_5
def x56_5 : FxI := ⟨[2, 5, 8, 10, 12, 14], [none, none, none, none, none, none, none, none, none, none, none, none, none, none, none], 0, [[], [2], [2, 5], [2, 5, 8], [2, 5, 8, 10], [2, 5, 8, 10, 12], [2, 5, 8, 10, 12, 14]], [], [(4, 0, 0), (7, 0, 0), (7, 1, 1)]⟩
attribute [go_sem] x56_5
def r56_6 : List PO := [⟨(some 25), (.move (.tmp 3)), none⟩,
  ⟨(some 26), (.load 73 (.tmp 5)), none⟩,
  ⟨(some 27), (.buildSlice 43 1 #[(0, (.tmp 26))]), none⟩,
  ⟨(some 28), (.call { callee := (.builtin .append), args := #[(.tmp 25), (.tmp 27)], argTypes := #[43, 43] }), none⟩,
  ⟨(some 3), (.assign (.tmp 28)), none⟩]
attribute [go_sem] r56_6
def r56_7 : List PO := [⟨(some 29), (.binOp .add 3 (.tmp 9) (.const (.int .i64 1)) 3), none⟩,
  ⟨(some 9), (.move (.tmp 29)), none⟩]
attribute [go_sem] r56_7
def k56_1b : PC := (.seq (.reg r56_3) (.seq (.cond (.tmp 10) .skip (.pre ⟨[3], [.old 0], [], []⟩ (.exit 0))) (.seq (.block 1 (.seq (.reg r56_4) (.seq (.fx r56_5 x56_5) (.reg r56_6)))) (.post (.reg r56_7) ⟨[3, 7, 8, 9], [.old 6], [], []⟩))))
def r56_0 : List PO := [⟨(some 2), (.assign (.const (.slice none 0 0))), none⟩]
attribute [go_sem] r56_0
def r56_1 : List PO := [⟨(some 6), (.buildSlice 43 0 #[]), none⟩,
  ⟨(some 3), (.assign (.tmp 6)), none⟩]
attribute [go_sem] r56_1
def r56_2 : List PO := [⟨(some 7), (.move (.tmp 0)), none⟩,
  ⟨(some 8), (.call { callee := (.builtin .len), args := #[(.tmp 7)], argTypes := #[43] }), none⟩,
  ⟨(some 9), (.move (.const (.int .i64 0))), none⟩]
attribute [go_sem] r56_2
def r56_8 : List PO := [⟨(some 30), (.move (.tmp 3)), none⟩,
  ⟨(some 2), (.assign (.tmp 30)), none⟩]
attribute [go_sem] r56_8
def c56 : PC := (.seq (.reg r56_0) (.seq (.reg r56_1) (.seq (.seq (.reg r56_2) (.block 0 (.pre ⟨[3, 7, 8, 9], [.old 0], [], []⟩ (.loop k56_1b)))) (.seq (.reg r56_8) .ret))))
def i56 : FnI := ⟨31, [(.tmp 2)], c56, 0, [[5]], [[5]], false, false, 0, false⟩
-- loop.example/g00344/impl.ThenPolicy
def r24_1 : List PO := [⟨(some 6), (.load 45 (.tmp 2)), none⟩,
  ⟨(some 7), (.call { callee := (.value (.func 16)), args := #[(.tmp 6)], argTypes := #[45] }), none⟩,
  ⟨(some 8), (.unOp .not 4 (.tmp 7)), none⟩,
  ⟨(some 9), (.move (.tmp 8)), none⟩,
  ⟨(some 10), (.load 45 (.tmp 3)), (some (9, false))⟩,
  ⟨(some 11), (.call { callee := (.value (.func 16)), args := #[(.tmp 10)], argTypes := #[45] }), (some (9, false))⟩,
  ⟨(some 12), (.unOp .not 4 (.tmp 11)), (some (9, false))⟩,
  ⟨(some 13), (.pick (.tmp 9) (.const (.bool true)) (.tmp 12)), none⟩,
  ⟨(some 14), (.move (.tmp 13)), none⟩,
  ⟨(some 15), (.fieldAddr 45 (.tmp 2) 1), (some (14, false))⟩,
  ⟨(some 16), (.load 4 (.tmp 15)), (some (14, false))⟩,
  ⟨(some 17), (.unOp .not 4 (.tmp 16)), (some (14, false))⟩,
  ⟨(some 18), (.pick (.tmp 14) (.const (.bool true)) (.tmp 17)), none⟩,
  ⟨(some 19), (.move (.tmp 18)), none⟩,
  ⟨(some 20), (.fieldAddr 45 (.tmp 2) 0), (some (19, false))⟩,
  ⟨(some 21), (.load 43 (.tmp 20)), (some (19, false))⟩,
  ⟨(some 22), (.call { callee := (.builtin .len), args := #[(.tmp 21)], argTypes := #[43] }), (some (19, false))⟩,
  ⟨(some 23), (.fieldAddr 45 (.tmp 3) 0), (some (19, false))⟩,
  ⟨(some 24), (.load 43 (.tmp 23)), (some (19, false))⟩,
  ⟨(some 25), (.call { callee := (.builtin .len), args := #[(.tmp 24)], argTypes := #[43] }), (some (19, false))⟩,
  ⟨(some 26), (.binOp .add 3 (.tmp 22) (.tmp 25) 3), (some (19, false))⟩,
  ⟨(some 27), (.binOp .gtr 3 (.tmp 26) (.const (.int .i64 8)) 3), (some (19, false))⟩,
  ⟨(some 28), (.pick (.tmp 19) (.const (.bool true)) (.tmp 27)), none⟩]
attribute [go_sem] r24_1
def k24_1 : PC := (.post (.reg r24_1) ⟨[2, 3, 4, 28], [.old 0, .old 1, .old 2, .old 3], [], []⟩)
def r24_0 : List PO := [⟨(some 2), (.box 45 (.tmp 0)), none⟩,
  ⟨(some 3), (.box 45 (.tmp 1)), none⟩,
  ⟨(some 4), (.alloc 45), none⟩,
  ⟨(some 5), (.assign (.const (.bool false))), none⟩]
attribute [go_sem] r24_0
def r24_2 : List PO := [⟨(some 29), (.build 45 #[]), none⟩,
  ⟨none, (.store 45 (.tmp 4) (.tmp 29)), none⟩,
  ⟨(some 5), (.assign (.const (.bool false))), none⟩]
attribute [go_sem] r24_2
def r24_3 : List PO := [⟨(some 30), (.fieldAddr 45 (.tmp 2) 0), none⟩,
  ⟨(some 31), (.load 43 (.tmp 30)), none⟩,
  ⟨(some 32), (.call { callee := (.value (.func 44)), args := #[(.tmp 31), (.func 55)], argTypes := #[43, 85] }), none⟩]
attribute [go_sem] r24_3
def r24_4 : List PO := [⟨(some 33), (.build 45 #[]), none⟩,
  ⟨none, (.store 45 (.tmp 4) (.tmp 33)), none⟩,
  ⟨(some 5), (.assign (.const (.bool false))), none⟩]
attribute [go_sem] r24_4
def r24_5 : List PO := [⟨(some 34), (.fieldAddr 45 (.tmp 2) 0), none⟩,
  ⟨(some 35), (.load 43 (.tmp 34)), none⟩,
  ⟨(some 36), (.call { callee := (.value (.func 56)), args := #[(.tmp 35)], argTypes := #[43] }), none⟩,
  ⟨(some 37), (.fieldAddr 45 (.tmp 3) 0), none⟩,
  ⟨(some 38), (.load 43 (.tmp 37)), none⟩,
  ⟨(some 39), (.call { callee := (.value (.func 56)), args := #[(.tmp 38)], argTypes := #[43] }), none⟩,
  ⟨(some 40), (.call { callee := (.builtin .append), args := #[(.tmp 36), (.tmp 39)], argTypes := #[43, 43] }), none⟩,
  ⟨(some 41), (.fieldAddr 45 (.tmp 3) 1), none⟩,
  ⟨(some 42), (.load 4 (.tmp 41)), none⟩,
  ⟨(some 43), (.build 45 #[(0, (.tmp 40)), (1, (.tmp 42))]), none⟩,
  ⟨none, (.store 45 (.tmp 4) (.tmp 43)), none⟩,
  ⟨(some 5), (.assign (.const (.bool true))), none⟩]
attribute [go_sem] r24_5
def x24_5 : FxI := ⟨[2, 5, 6, 10], [none, none, none, none, none, none, none, none, none, none, none, none], 0, [[], [2], [2, 5], [2, 5, 6], [2, 5, 6, 10]], [], [(4, 0, 0), (8, 0, 0), (8, 1, 1), (8, 2, 2)]⟩
attribute [go_sem] x24_5
def c24 : PC := (.seq (.reg r24_0) (.seq (.seq (.pre ⟨[2, 3, 4], [.old 0, .old 1, .old 2, .nilB 2 0 5], [], []⟩ k24_1) (.cond (.tmp 28) (.seq (.reg r24_2) .ret) .skip)) (.seq (.seq (.reg r24_3) (.cond (.tmp 32) (.seq (.reg r24_4) .ret) .skip)) (.seq (.fx r24_5 x24_5) .ret))))
def i24 : FnI := ⟨44, [(.cell 4 45), (.tmp 5)], c24, 0, [[5, 0], [5, 0]], [[5, 0], [0]], false, false, 0, false⟩
-- loop.example/g00344/laws.eqPrefix
def r39_0 : List PO := [⟨(some 2), (.box 31 (.tmp 0)), none⟩,
  ⟨(some 3), (.box 31 (.tmp 1)), none⟩,
  ⟨(some 4), (.assign (.const (.bool false))), none⟩]
attribute [go_sem] r39_0
def r39_1 : List PO := [⟨(some 5), (.fieldAddr 31 (.tmp 2) 0), none⟩,
  ⟨(some 6), (.load 3 (.tmp 5)), none⟩,
  ⟨(some 7), (.fieldAddr 31 (.tmp 3) 0), none⟩,
  ⟨(some 8), (.load 3 (.tmp 7)), none⟩,
  ⟨(some 9), (.binOp .neq 3 (.tmp 6) (.tmp 8) 3), none⟩]
attribute [go_sem] r39_1
def r39_2 : List PO := [⟨(some 4), (.assign (.const (.bool false))), none⟩]
attribute [go_sem] r39_2
def r39_3 : List PO := [⟨(some 10), (.fieldAddr 31 (.tmp 2) 1), none⟩,
  ⟨(some 11), (.load 3 (.tmp 10)), none⟩,
  ⟨(some 12), (.fieldAddr 31 (.tmp 3) 1), none⟩,
  ⟨(some 13), (.load 3 (.tmp 12)), none⟩,
  ⟨(some 14), (.binOp .neq 3 (.tmp 11) (.tmp 13) 3), none⟩]
attribute [go_sem] r39_3
def r39_4 : List PO := [⟨(some 4), (.assign (.const (.bool false))), none⟩]
attribute [go_sem] r39_4
def r39_5 : List PO := [⟨(some 4), (.assign (.const (.bool true))), none⟩]
attribute [go_sem] r39_5
def c39 : PC := (.seq (.reg r39_0) (.seq (.seq (.reg r39_1) (.cond (.tmp 9) (.seq (.reg r39_2) .ret) .skip)) (.seq (.seq (.reg r39_3) (.cond (.tmp 14) (.seq (.reg r39_4) .ret) .skip)) (.seq (.reg r39_5) .ret))))
def i39 : FnI := ⟨15, [(.tmp 4)], c39, 0, [[0, 0], [0, 0]], [[0]], false, false, 0, false⟩
-- loop.example/g00344/laws.eqRange
def r117_0 : List PO := [⟨(some 2), (.box 114 (.tmp 0)), none⟩,
  ⟨(some 3), (.box 114 (.tmp 1)), none⟩,
  ⟨(some 4), (.assign (.const (.bool false))), none⟩]
attribute [go_sem] r117_0
def r117_1 : List PO := [⟨(some 5), (.fieldAddr 114 (.tmp 2) 0), none⟩,
  ⟨(some 6), (.load 31 (.tmp 5)), none⟩,
  ⟨(some 7), (.fieldAddr 114 (.tmp 3) 0), none⟩,
  ⟨(some 8), (.load 31 (.tmp 7)), none⟩,
  ⟨(some 9), (.call { callee := (.value (.func 39)), args := #[(.tmp 6), (.tmp 8)], argTypes := #[31, 31] }), none⟩,
  ⟨(some 10), (.unOp .not 4 (.tmp 9)), none⟩]
attribute [go_sem] r117_1
def r117_2 : List PO := [⟨(some 4), (.assign (.const (.bool false))), none⟩]
attribute [go_sem] r117_2
def r117_3 : List PO := [⟨(some 11), (.fieldAddr 114 (.tmp 2) 1), none⟩,
  ⟨(some 12), (.load 3 (.tmp 11)), none⟩,
  ⟨(some 13), (.fieldAddr 114 (.tmp 3) 1), none⟩,
  ⟨(some 14), (.load 3 (.tmp 13)), none⟩,
  ⟨(some 15), (.binOp .neq 3 (.tmp 12) (.tmp 14) 3), none⟩]
attribute [go_sem] r117_3
def r117_4 : List PO := [⟨(some 4), (.assign (.const (.bool false))), none⟩]
attribute [go_sem] r117_4
def r117_5 : List PO := [⟨(some 16), (.fieldAddr 114 (.tmp 2) 2), none⟩,
  ⟨(some 17), (.load 3 (.tmp 16)), none⟩,
  ⟨(some 18), (.fieldAddr 114 (.tmp 3) 2), none⟩,
  ⟨(some 19), (.load 3 (.tmp 18)), none⟩,
  ⟨(some 20), (.binOp .neq 3 (.tmp 17) (.tmp 19) 3), none⟩]
attribute [go_sem] r117_5
def r117_6 : List PO := [⟨(some 4), (.assign (.const (.bool false))), none⟩]
attribute [go_sem] r117_6
def r117_7 : List PO := [⟨(some 4), (.assign (.const (.bool true))), none⟩]
attribute [go_sem] r117_7
def c117 : PC := (.seq (.reg r117_0) (.seq (.seq (.reg r117_1) (.cond (.tmp 10) (.seq (.reg r117_2) .ret) .skip)) (.seq (.seq (.reg r117_3) (.cond (.tmp 15) (.seq (.reg r117_4) .ret) .skip)) (.seq (.seq (.reg r117_5) (.cond (.tmp 20) (.seq (.reg r117_6) .ret) .skip)) (.seq (.reg r117_7) .ret)))))
def i117 : FnI := ⟨21, [(.tmp 4)], c117, 0, [[0, 0, 0, 0], [0, 0, 0, 0]], [[0]], false, false, 0, false⟩
-- loop.example/g00344/laws.eqRangeS
def r67_4 : List PO := [⟨(some 11), (.move (.tmp 5)), none⟩,
  ⟨(some 12), (.move (.tmp 0)), none⟩,
  ⟨(some 13), (.call { callee := (.builtin .len), args := #[(.tmp 12)], argTypes := #[69] }), none⟩,
  ⟨(some 14), (.binOp .lss 3 (.tmp 11) (.tmp 13) 3), none⟩]
attribute [go_sem] r67_4
def r67_6 : List PO := [⟨(some 17), (.move (.tmp 0)), none⟩,
  ⟨(some 18), (.move (.tmp 5)), none⟩,
  ⟨(some 19), (.indexAddr 69 (.tmp 17) (.tmp 18)), none⟩,
  ⟨(some 20), (.load 114 (.tmp 19)), none⟩,
  ⟨(some 21), (.move (.tmp 1)), none⟩,
  ⟨(some 22), (.move (.tmp 5)), none⟩,
  ⟨(some 23), (.indexAddr 69 (.tmp 21) (.tmp 22)), none⟩,
  ⟨(some 24), (.load 114 (.tmp 23)), none⟩,
  ⟨(some 25), (.call { callee := (.value (.func 117)), args := #[(.tmp 20), (.tmp 24)], argTypes := #[114, 114] }), none⟩,
  ⟨(some 26), (.unOp .not 4 (.tmp 25)), none⟩]
attribute [go_sem] r67_6
def r67_7 : List PO := [⟨(some 4), (.assign (.const (.bool false))), none⟩]
attribute [go_sem] r67_7
def r67_5 : List PO := [⟨(some 15), (.move (.tmp 5)), none⟩,
  ⟨(some 16), (.binOp .add 3 (.tmp 15) (.const (.int .i64 1)) 3), none⟩,
  ⟨(some 5), (.assign (.tmp 16)), none⟩]
attribute [go_sem] r67_5
def k67_1b : PC := (.seq (.seq (.reg r67_4) (.cond (.tmp 14) .skip (.pre ⟨[], [], [], []⟩ (.exit 0)))) (.seq (.block 1 (.seq (.fz r67_6) (.cond (.tmp 26) (.seq (.reg r67_7) (.pre ⟨[4], [], [], []⟩ .ret)) .skip))) (.post (.reg r67_5) ⟨[0, 1, 5], [], [], []⟩)))
def r67_0 : List PO := [⟨(some 4), (.assign (.const (.bool false))), none⟩]
attribute [go_sem] r67_0
def r67_1 : List PO := [⟨(some 6), (.move (.tmp 0)), none⟩,
  ⟨(some 7), (.call { callee := (.builtin .len), args := #[(.tmp 6)], argTypes := #[69] }), none⟩,
  ⟨(some 8), (.move (.tmp 1)), none⟩,
  ⟨(some 9), (.call { callee := (.builtin .len), args := #[(.tmp 8)], argTypes := #[69] }), none⟩,
  ⟨(some 10), (.binOp .neq 3 (.tmp 7) (.tmp 9) 3), none⟩]
attribute [go_sem] r67_1
def r67_2 : List PO := [⟨(some 4), (.assign (.const (.bool false))), none⟩]
attribute [go_sem] r67_2
def r67_3 : List PO := [⟨(some 5), (.assign (.const (.int .i64 0))), none⟩]
attribute [go_sem] r67_3
def r67_8 : List PO := [⟨(some 4), (.assign (.const (.bool true))), none⟩]
attribute [go_sem] r67_8
def c67 : PC := (.seq (.reg r67_0) (.seq (.seq (.reg r67_1) (.cond (.tmp 10) (.seq (.reg r67_2) .ret) .skip)) (.seq (.seq (.reg r67_3) (.block 0 (.pre ⟨[0, 1, 5], [], [], []⟩ (.loop k67_1b)))) (.seq (.reg r67_8) .ret))))
def i67 : FnI := ⟨27, [(.tmp 4)], c67, 0, [[4], [4]], [[0]], false, false, 0, false⟩
-- loop.example/g00344/laws.eqReCell
def r118_0 : List PO := [⟨(some 2), (.box 129 (.tmp 0)), none⟩,
  ⟨(some 3), (.box 129 (.tmp 1)), none⟩,
  ⟨(some 4), (.assign (.const (.bool false))), none⟩]
attribute [go_sem] r118_0
def r118_1 : List PO := [⟨(some 5), (.fieldAddr 129 (.tmp 2) 0), none⟩,
  ⟨(some 6), (.load 3 (.tmp 5)), none⟩,
  ⟨(some 7), (.fieldAddr 129 (.tmp 3) 0), none⟩,
  ⟨(some 8), (.load 3 (.tmp 7)), none⟩,
  ⟨(some 9), (.binOp .neq 3 (.tmp 6) (.tmp 8) 3), none⟩]
attribute [go_sem] r118_1
def r118_2 : List PO := [⟨(some 4), (.assign (.const (.bool false))), none⟩]
attribute [go_sem] r118_2
def r118_3 : List PO := [⟨(some 10), (.fieldAddr 129 (.tmp 2) 1), none⟩,
  ⟨(some 11), (.load 3 (.tmp 10)), none⟩,
  ⟨(some 12), (.fieldAddr 129 (.tmp 3) 1), none⟩,
  ⟨(some 13), (.load 3 (.tmp 12)), none⟩,
  ⟨(some 14), (.binOp .neq 3 (.tmp 11) (.tmp 13) 3), none⟩]
attribute [go_sem] r118_3
def r118_4 : List PO := [⟨(some 4), (.assign (.const (.bool false))), none⟩]
attribute [go_sem] r118_4
def r118_5 : List PO := [⟨(some 4), (.assign (.const (.bool true))), none⟩]
attribute [go_sem] r118_5
def c118 : PC := (.seq (.reg r118_0) (.seq (.seq (.reg r118_1) (.cond (.tmp 9) (.seq (.reg r118_2) .ret) .skip)) (.seq (.seq (.reg r118_3) (.cond (.tmp 14) (.seq (.reg r118_4) .ret) .skip)) (.seq (.reg r118_5) .ret))))
def i118 : FnI := ⟨15, [(.tmp 4)], c118, 0, [[0, 0], [0, 0]], [[0]], false, false, 0, false⟩
-- loop.example/g00344/laws.eqReCellS
def r68_4 : List PO := [⟨(some 11), (.move (.tmp 5)), none⟩,
  ⟨(some 12), (.move (.tmp 0)), none⟩,
  ⟨(some 13), (.call { callee := (.builtin .len), args := #[(.tmp 12)], argTypes := #[70] }), none⟩,
  ⟨(some 14), (.binOp .lss 3 (.tmp 11) (.tmp 13) 3), none⟩]
attribute [go_sem] r68_4
def r68_6 : List PO := [⟨(some 17), (.move (.tmp 0)), none⟩,
  ⟨(some 18), (.move (.tmp 5)), none⟩,
  ⟨(some 19), (.indexAddr 70 (.tmp 17) (.tmp 18)), none⟩,
  ⟨(some 20), (.load 129 (.tmp 19)), none⟩,
  ⟨(some 21), (.move (.tmp 1)), none⟩,
  ⟨(some 22), (.move (.tmp 5)), none⟩,
  ⟨(some 23), (.indexAddr 70 (.tmp 21) (.tmp 22)), none⟩,
  ⟨(some 24), (.load 129 (.tmp 23)), none⟩,
  ⟨(some 25), (.call { callee := (.value (.func 118)), args := #[(.tmp 20), (.tmp 24)], argTypes := #[129, 129] }), none⟩,
  ⟨(some 26), (.unOp .not 4 (.tmp 25)), none⟩]
attribute [go_sem] r68_6
def r68_7 : List PO := [⟨(some 4), (.assign (.const (.bool false))), none⟩]
attribute [go_sem] r68_7
def r68_5 : List PO := [⟨(some 15), (.move (.tmp 5)), none⟩,
  ⟨(some 16), (.binOp .add 3 (.tmp 15) (.const (.int .i64 1)) 3), none⟩,
  ⟨(some 5), (.assign (.tmp 16)), none⟩]
attribute [go_sem] r68_5
def k68_1b : PC := (.seq (.seq (.reg r68_4) (.cond (.tmp 14) .skip (.pre ⟨[], [], [], []⟩ (.exit 0)))) (.seq (.block 1 (.seq (.fz r68_6) (.cond (.tmp 26) (.seq (.reg r68_7) (.pre ⟨[4], [], [], []⟩ .ret)) .skip))) (.post (.reg r68_5) ⟨[0, 1, 5], [], [], []⟩)))
def r68_0 : List PO := [⟨(some 4), (.assign (.const (.bool false))), none⟩]
attribute [go_sem] r68_0
def r68_1 : List PO := [⟨(some 6), (.move (.tmp 0)), none⟩,
  ⟨(some 7), (.call { callee := (.builtin .len), args := #[(.tmp 6)], argTypes := #[70] }), none⟩,
  ⟨(some 8), (.move (.tmp 1)), none⟩,
  ⟨(some 9), (.call { callee := (.builtin .len), args := #[(.tmp 8)], argTypes := #[70] }), none⟩,
  ⟨(some 10), (.binOp .neq 3 (.tmp 7) (.tmp 9) 3), none⟩]
attribute [go_sem] r68_1
def r68_2 : List PO := [⟨(some 4), (.assign (.const (.bool false))), none⟩]
attribute [go_sem] r68_2
def r68_3 : List PO := [⟨(some 5), (.assign (.const (.int .i64 0))), none⟩]
attribute [go_sem] r68_3
def r68_8 : List PO := [⟨(some 4), (.assign (.const (.bool true))), none⟩]
attribute [go_sem] r68_8
def c68 : PC := (.seq (.reg r68_0) (.seq (.seq (.reg r68_1) (.cond (.tmp 10) (.seq (.reg r68_2) .ret) .skip)) (.seq (.seq (.reg r68_3) (.block 0 (.pre ⟨[0, 1, 5], [], [], []⟩ (.loop k68_1b)))) (.seq (.reg r68_8) .ret))))
def i68 : FnI := ⟨27, [(.tmp 4)], c68, 0, [[2], [2]], [[0]], false, false, 0, false⟩
-- loop.example/g00344/laws.eqAct
def r119_0 : List PO := [⟨(some 2), (.box 53 (.tmp 0)), none⟩,
  ⟨(some 3), (.box 53 (.tmp 1)), none⟩,
  ⟨(some 4), (.assign (.const (.bool false))), none⟩]
attribute [go_sem] r119_0
def r119_1 : List PO := [⟨(some 5), (.fieldAddr 53 (.tmp 2) 0), none⟩,
  ⟨(some 6), (.load 3 (.tmp 5)), none⟩,
  ⟨(some 7), (.fieldAddr 53 (.tmp 3) 0), none⟩,
  ⟨(some 8), (.load 3 (.tmp 7)), none⟩,
  ⟨(some 9), (.binOp .neq 3 (.tmp 6) (.tmp 8) 3), none⟩]
attribute [go_sem] r119_1
def r119_2 : List PO := [⟨(some 4), (.assign (.const (.bool false))), none⟩]
attribute [go_sem] r119_2
def r119_3 : List PO := [⟨(some 10), (.fieldAddr 53 (.tmp 2) 1), none⟩,
  ⟨(some 11), (.load 3 (.tmp 10)), none⟩,
  ⟨(some 12), (.fieldAddr 53 (.tmp 3) 1), none⟩,
  ⟨(some 13), (.load 3 (.tmp 12)), none⟩,
  ⟨(some 14), (.binOp .neq 3 (.tmp 11) (.tmp 13) 3), none⟩]
attribute [go_sem] r119_3
def r119_4 : List PO := [⟨(some 4), (.assign (.const (.bool false))), none⟩]
attribute [go_sem] r119_4
def r119_5 : List PO := [⟨(some 4), (.assign (.const (.bool true))), none⟩]
attribute [go_sem] r119_5
def c119 : PC := (.seq (.reg r119_0) (.seq (.seq (.reg r119_1) (.cond (.tmp 9) (.seq (.reg r119_2) .ret) .skip)) (.seq (.seq (.reg r119_3) (.cond (.tmp 14) (.seq (.reg r119_4) .ret) .skip)) (.seq (.reg r119_5) .ret))))
def i119 : FnI := ⟨15, [(.tmp 4)], c119, 0, [[0, 0], [0, 0]], [[0]], false, false, 0, false⟩
-- loop.example/g00344/laws.eqActS
def r69_4 : List PO := [⟨(some 11), (.move (.tmp 5)), none⟩,
  ⟨(some 12), (.move (.tmp 0)), none⟩,
  ⟨(some 13), (.call { callee := (.builtin .len), args := #[(.tmp 12)], argTypes := #[71] }), none⟩,
  ⟨(some 14), (.binOp .lss 3 (.tmp 11) (.tmp 13) 3), none⟩]
attribute [go_sem] r69_4
def r69_6 : List PO := [⟨(some 17), (.move (.tmp 0)), none⟩,
  ⟨(some 18), (.move (.tmp 5)), none⟩,
  ⟨(some 19), (.indexAddr 71 (.tmp 17) (.tmp 18)), none⟩,
  ⟨(some 20), (.load 53 (.tmp 19)), none⟩,
  ⟨(some 21), (.move (.tmp 1)), none⟩,
  ⟨(some 22), (.move (.tmp 5)), none⟩,
  ⟨(some 23), (.indexAddr 71 (.tmp 21) (.tmp 22)), none⟩,
  ⟨(some 24), (.load 53 (.tmp 23)), none⟩,
  ⟨(some 25), (.call { callee := (.value (.func 119)), args := #[(.tmp 20), (.tmp 24)], argTypes := #[53, 53] }), none⟩,
  ⟨(some 26), (.unOp .not 4 (.tmp 25)), none⟩]
attribute [go_sem] r69_6
def r69_7 : List PO := [⟨(some 4), (.assign (.const (.bool false))), none⟩]
attribute [go_sem] r69_7
def r69_5 : List PO := [⟨(some 15), (.move (.tmp 5)), none⟩,
  ⟨(some 16), (.binOp .add 3 (.tmp 15) (.const (.int .i64 1)) 3), none⟩,
  ⟨(some 5), (.assign (.tmp 16)), none⟩]
attribute [go_sem] r69_5
def k69_1b : PC := (.seq (.seq (.reg r69_4) (.cond (.tmp 14) .skip (.pre ⟨[], [], [], []⟩ (.exit 0)))) (.seq (.block 1 (.seq (.fz r69_6) (.cond (.tmp 26) (.seq (.reg r69_7) (.pre ⟨[4], [], [], []⟩ .ret)) .skip))) (.post (.reg r69_5) ⟨[0, 1, 5], [], [], []⟩)))
def r69_0 : List PO := [⟨(some 4), (.assign (.const (.bool false))), none⟩]
attribute [go_sem] r69_0
def r69_1 : List PO := [⟨(some 6), (.move (.tmp 0)), none⟩,
  ⟨(some 7), (.call { callee := (.builtin .len), args := #[(.tmp 6)], argTypes := #[71] }), none⟩,
  ⟨(some 8), (.move (.tmp 1)), none⟩,
  ⟨(some 9), (.call { callee := (.builtin .len), args := #[(.tmp 8)], argTypes := #[71] }), none⟩,
  ⟨(some 10), (.binOp .neq 3 (.tmp 7) (.tmp 9) 3), none⟩]
attribute [go_sem] r69_1
def r69_2 : List PO := [⟨(some 4), (.assign (.const (.bool false))), none⟩]
attribute [go_sem] r69_2
def r69_3 : List PO := [⟨(some 5), (.assign (.const (.int .i64 0))), none⟩]
attribute [go_sem] r69_3
def r69_8 : List PO := [⟨(some 4), (.assign (.const (.bool true))), none⟩]
attribute [go_sem] r69_8
def c69 : PC := (.seq (.reg r69_0) (.seq (.seq (.reg r69_1) (.cond (.tmp 10) (.seq (.reg r69_2) .ret) .skip)) (.seq (.seq (.reg r69_3) (.block 0 (.pre ⟨[0, 1, 5], [], [], []⟩ (.loop k69_1b)))) (.seq (.reg r69_8) .ret))))
def i69 : FnI := ⟨27, [(.tmp 4)], c69, 0, [[2], [2]], [[0]], false, false, 0, false⟩
-- loop.example/g00344/laws.eqTerm
def r31_0 : List PO := [⟨(some 2), (.box 73 (.tmp 0)), none⟩,
  ⟨(some 3), (.box 73 (.tmp 1)), none⟩,
  ⟨(some 4), (.assign (.const (.bool false))), none⟩]
attribute [go_sem] r31_0
def r31_1 : List PO := [⟨(some 5), (.fieldAddr 73 (.tmp 2) 0), none⟩,
  ⟨(some 6), (.load 69 (.tmp 5)), none⟩,
  ⟨(some 7), (.fieldAddr 73 (.tmp 3) 0), none⟩,
  ⟨(some 8), (.load 69 (.tmp 7)), none⟩,
  ⟨(some 9), (.call { callee := (.value (.func 67)), args := #[(.tmp 6), (.tmp 8)], argTypes := #[69, 69] }), none⟩,
  ⟨(some 10), (.unOp .not 4 (.tmp 9)), none⟩]
attribute [go_sem] r31_1
def r31_2 : List PO := [⟨(some 4), (.assign (.const (.bool false))), none⟩]
attribute [go_sem] r31_2
def r31_3 : List PO := [⟨(some 11), (.fieldAddr 73 (.tmp 2) 1), none⟩,
  ⟨(some 12), (.load 70 (.tmp 11)), none⟩,
  ⟨(some 13), (.fieldAddr 73 (.tmp 3) 1), none⟩,
  ⟨(some 14), (.load 70 (.tmp 13)), none⟩,
  ⟨(some 15), (.call { callee := (.value (.func 68)), args := #[(.tmp 12), (.tmp 14)], argTypes := #[70, 70] }), none⟩,
  ⟨(some 16), (.unOp .not 4 (.tmp 15)), none⟩]
attribute [go_sem] r31_3
def r31_4 : List PO := [⟨(some 4), (.assign (.const (.bool false))), none⟩]
attribute [go_sem] r31_4
def r31_5 : List PO := [⟨(some 17), (.fieldAddr 73 (.tmp 2) 2), none⟩,
  ⟨(some 18), (.load 3 (.tmp 17)), none⟩,
  ⟨(some 19), (.fieldAddr 73 (.tmp 3) 2), none⟩,
  ⟨(some 20), (.load 3 (.tmp 19)), none⟩,
  ⟨(some 21), (.binOp .neq 3 (.tmp 18) (.tmp 20) 3), none⟩]
attribute [go_sem] r31_5
def r31_6 : List PO := [⟨(some 4), (.assign (.const (.bool false))), none⟩]
attribute [go_sem] r31_6
def r31_7 : List PO := [⟨(some 22), (.fieldAddr 73 (.tmp 2) 3), none⟩,
  ⟨(some 23), (.load 71 (.tmp 22)), none⟩,
  ⟨(some 24), (.fieldAddr 73 (.tmp 3) 3), none⟩,
  ⟨(some 25), (.load 71 (.tmp 24)), none⟩,
  ⟨(some 26), (.call { callee := (.value (.func 69)), args := #[(.tmp 23), (.tmp 25)], argTypes := #[71, 71] }), none⟩,
  ⟨(some 27), (.unOp .not 4 (.tmp 26)), none⟩]
attribute [go_sem] r31_7
def r31_8 : List PO := [⟨(some 4), (.assign (.const (.bool false))), none⟩]
attribute [go_sem] r31_8
def r31_9 : List PO := [⟨(some 28), (.fieldAddr 73 (.tmp 2) 4), none⟩,
  ⟨(some 29), (.load 3 (.tmp 28)), none⟩,
  ⟨(some 30), (.fieldAddr 73 (.tmp 3) 4), none⟩,
  ⟨(some 31), (.load 3 (.tmp 30)), none⟩,
  ⟨(some 32), (.binOp .neq 3 (.tmp 29) (.tmp 31) 3), none⟩]
attribute [go_sem] r31_9
def r31_10 : List PO := [⟨(some 4), (.assign (.const (.bool false))), none⟩]
attribute [go_sem] r31_10
def r31_11 : List PO := [⟨(some 4), (.assign (.const (.bool true))), none⟩]
attribute [go_sem] r31_11
def c31 : PC := (.seq (.reg r31_0) (.seq (.seq (.reg r31_1) (.cond (.tmp 10) (.seq (.reg r31_2) .ret) .skip)) (.seq (.seq (.reg r31_3) (.cond (.tmp 16) (.seq (.reg r31_4) .ret) .skip)) (.seq (.seq (.reg r31_5) (.cond (.tmp 21) (.seq (.reg r31_6) .ret) .skip)) (.seq (.seq (.reg r31_7) (.cond (.tmp 27) (.seq (.reg r31_8) .ret) .skip)) (.seq (.seq (.reg r31_9) (.cond (.tmp 32) (.seq (.reg r31_10) .ret) .skip)) (.seq (.reg r31_11) .ret)))))))
def i31 : FnI := ⟨33, [(.tmp 4)], c31, 0, [[4, 2, 0, 2, 0], [4, 2, 0, 2, 0]], [[0]], false, false, 0, false⟩
-- loop.example/g00344/laws.eqTermS
def r47_4 : List PO := [⟨(some 11), (.move (.tmp 5)), none⟩,
  ⟨(some 12), (.move (.tmp 0)), none⟩,
  ⟨(some 13), (.call { callee := (.builtin .len), args := #[(.tmp 12)], argTypes := #[43] }), none⟩,
  ⟨(some 14), (.binOp .lss 3 (.tmp 11) (.tmp 13) 3), none⟩]
attribute [go_sem] r47_4
def r47_6 : List PO := [⟨(some 17), (.move (.tmp 0)), none⟩,
  ⟨(some 18), (.move (.tmp 5)), none⟩,
  ⟨(some 19), (.indexAddr 43 (.tmp 17) (.tmp 18)), none⟩,
  ⟨(some 20), (.load 73 (.tmp 19)), none⟩,
  ⟨(some 21), (.move (.tmp 1)), none⟩,
  ⟨(some 22), (.move (.tmp 5)), none⟩,
  ⟨(some 23), (.indexAddr 43 (.tmp 21) (.tmp 22)), none⟩,
  ⟨(some 24), (.load 73 (.tmp 23)), none⟩,
  ⟨(some 25), (.call { callee := (.value (.func 31)), args := #[(.tmp 20), (.tmp 24)], argTypes := #[73, 73] }), none⟩,
  ⟨(some 26), (.unOp .not 4 (.tmp 25)), none⟩]
attribute [go_sem] r47_6
def r47_7 : List PO := [⟨(some 4), (.assign (.const (.bool false))), none⟩]
attribute [go_sem] r47_7
def r47_5 : List PO := [⟨(some 15), (.move (.tmp 5)), none⟩,
  ⟨(some 16), (.binOp .add 3 (.tmp 15) (.const (.int .i64 1)) 3), none⟩,
  ⟨(some 5), (.assign (.tmp 16)), none⟩]
attribute [go_sem] r47_5
def k47_1b : PC := (.seq (.seq (.reg r47_4) (.cond (.tmp 14) .skip (.pre ⟨[], [], [], []⟩ (.exit 0)))) (.seq (.block 1 (.seq (.fz r47_6) (.cond (.tmp 26) (.seq (.reg r47_7) (.pre ⟨[4], [], [], []⟩ .ret)) .skip))) (.post (.reg r47_5) ⟨[0, 1, 5], [], [], []⟩)))
def r47_0 : List PO := [⟨(some 4), (.assign (.const (.bool false))), none⟩]
attribute [go_sem] r47_0
def r47_1 : List PO := [⟨(some 6), (.move (.tmp 0)), none⟩,
  ⟨(some 7), (.call { callee := (.builtin .len), args := #[(.tmp 6)], argTypes := #[43] }), none⟩,
  ⟨(some 8), (.move (.tmp 1)), none⟩,
  ⟨(some 9), (.call { callee := (.builtin .len), args := #[(.tmp 8)], argTypes := #[43] }), none⟩,
  ⟨(some 10), (.binOp .neq 3 (.tmp 7) (.tmp 9) 3), none⟩]
attribute [go_sem] r47_1
def r47_2 : List PO := [⟨(some 4), (.assign (.const (.bool false))), none⟩]
attribute [go_sem] r47_2
def r47_3 : List PO := [⟨(some 5), (.assign (.const (.int .i64 0))), none⟩]
attribute [go_sem] r47_3
def r47_8 : List PO := [⟨(some 4), (.assign (.const (.bool true))), none⟩]
attribute [go_sem] r47_8
def c47 : PC := (.seq (.reg r47_0) (.seq (.seq (.reg r47_1) (.cond (.tmp 10) (.seq (.reg r47_2) .ret) .skip)) (.seq (.seq (.reg r47_3) (.block 0 (.pre ⟨[0, 1, 5], [], [], []⟩ (.loop k47_1b)))) (.seq (.reg r47_8) .ret))))
def i47 : FnI := ⟨27, [(.tmp 4)], c47, 0, [[5], [5]], [[0]], false, false, 0, false⟩
-- loop.example/g00344/laws.eqPolicy
def r17_0 : List PO := [⟨(some 2), (.box 45 (.tmp 0)), none⟩,
  ⟨(some 3), (.box 45 (.tmp 1)), none⟩,
  ⟨(some 4), (.assign (.const (.bool false))), none⟩]
attribute [go_sem] r17_0
def r17_1 : List PO := [⟨(some 5), (.fieldAddr 45 (.tmp 2) 0), none⟩,
  ⟨(some 6), (.load 43 (.tmp 5)), none⟩,
  ⟨(some 7), (.fieldAddr 45 (.tmp 3) 0), none⟩,
  ⟨(some 8), (.load 43 (.tmp 7)), none⟩,
  ⟨(some 9), (.call { callee := (.value (.func 47)), args := #[(.tmp 6), (.tmp 8)], argTypes := #[43, 43] }), none⟩,
  ⟨(some 10), (.unOp .not 4 (.tmp 9)), none⟩]
attribute [go_sem] r17_1
def r17_2 : List PO := [⟨(some 4), (.assign (.const (.bool false))), none⟩]
attribute [go_sem] r17_2
def r17_3 : List PO := [⟨(some 11), (.fieldAddr 45 (.tmp 2) 1), none⟩,
  ⟨(some 12), (.load 4 (.tmp 11)), none⟩,
  ⟨(some 13), (.fieldAddr 45 (.tmp 3) 1), none⟩,
  ⟨(some 14), (.load 4 (.tmp 13)), none⟩,
  ⟨(some 15), (.binOp .neq 4 (.tmp 12) (.tmp 14) 4), none⟩]
attribute [go_sem] r17_3
def r17_4 : List PO := [⟨(some 4), (.assign (.const (.bool false))), none⟩]
attribute [go_sem] r17_4
def r17_5 : List PO := [⟨(some 4), (.assign (.const (.bool true))), none⟩]
attribute [go_sem] r17_5
def c17 : PC := (.seq (.reg r17_0) (.seq (.seq (.reg r17_1) (.cond (.tmp 10) (.seq (.reg r17_2) .ret) .skip)) (.seq (.seq (.reg r17_3) (.cond (.tmp 15) (.seq (.reg r17_4) .ret) .skip)) (.seq (.reg r17_5) .ret))))
def i17 : FnI := ⟨16, [(.tmp 4)], c17, 0, [[5, 0], [5, 0]], [[0]], false, false, 0, false⟩
-- loop.example/g00344/laws.markRangeS
def r102_2 : List PO := [⟨(some 6), (.move (.tmp 5)), none⟩,
  ⟨(some 7), (.move (.tmp 0)), none⟩,
  ⟨(some 8), (.call { callee := (.builtin .len), args := #[(.tmp 7)], argTypes := #[69] }), none⟩,
  ⟨(some 9), (.binOp .lss 3 (.tmp 6) (.tmp 8) 3), none⟩]
attribute [go_sem] r102_2
def r102_4 : List PO := [⟨(some 12), (.move (.tmp 0)), none⟩,
  ⟨(some 13), (.move (.tmp 5)), none⟩,
  ⟨(some 14), (.move (.tmp 1)), none⟩,
  ⟨(some 15), (.indexAddr 69 (.tmp 12) (.tmp 13)), none⟩,
  ⟨(some 16), (.fieldAddr 114 (.tmp 15) 0), none⟩,
  ⟨(some 17), (.fieldAddr 31 (.tmp 16) 0), none⟩,
  ⟨none, (.store 3 (.tmp 17) (.tmp 14)), none⟩]
attribute [go_sem] r102_4
def r102_5 : List PO := [⟨(some 18), (.move (.tmp 1)), none⟩,
  ⟨(some 19), (.binOp .add 3 (.tmp 18) (.const (.int .i64 1)) 3), none⟩,
  ⟨(some 1), (.assign (.tmp 19)), none⟩]
attribute [go_sem] r102_5
def r102_6 : List PO := [⟨(some 20), (.move (.tmp 0)), none⟩,
  ⟨(some 21), (.move (.tmp 5)), none⟩,
  ⟨(some 22), (.move (.tmp 1)), none⟩,
  ⟨(some 23), (.indexAddr 69 (.tmp 20) (.tmp 21)), none⟩,
  ⟨(some 24), (.fieldAddr 114 (.tmp 23) 0), none⟩,
  ⟨(some 25), (.fieldAddr 31 (.tmp 24) 1), none⟩,
  ⟨none, (.store 3 (.tmp 25) (.tmp 22)), none⟩]
attribute [go_sem] r102_6
def r102_7 : List PO := [⟨(some 26), (.move (.tmp 1)), none⟩,
  ⟨(some 27), (.binOp .add 3 (.tmp 26) (.const (.int .i64 1)) 3), none⟩,
  ⟨(some 1), (.assign (.tmp 27)), none⟩]
attribute [go_sem] r102_7
def r102_8 : List PO := [⟨(some 28), (.move (.tmp 0)), none⟩,
  ⟨(some 29), (.move (.tmp 5)), none⟩,
  ⟨(some 30), (.move (.tmp 1)), none⟩,
  ⟨(some 31), (.indexAddr 69 (.tmp 28) (.tmp 29)), none⟩,
  ⟨(some 32), (.fieldAddr 114 (.tmp 31) 1), none⟩,
  ⟨none, (.store 3 (.tmp 32) (.tmp 30)), none⟩]
attribute [go_sem] r102_8
def r102_9 : List PO := [⟨(some 33), (.move (.tmp 1)), none⟩,
  ⟨(some 34), (.binOp .add 3 (.tmp 33) (.const (.int .i64 1)) 3), none⟩,
  ⟨(some 1), (.assign (.tmp 34)), none⟩]
attribute [go_sem] r102_9
def r102_10 : List PO := [⟨(some 35), (.move (.tmp 0)), none⟩,
  ⟨(some 36), (.move (.tmp 5)), none⟩,
  ⟨(some 37), (.move (.tmp 1)), none⟩,
  ⟨(some 38), (.indexAddr 69 (.tmp 35) (.tmp 36)), none⟩,
  ⟨(some 39), (.fieldAddr 114 (.tmp 38) 2), none⟩,
  ⟨none, (.store 3 (.tmp 39) (.tmp 37)), none⟩]
attribute [go_sem] r102_10
def r102_11 : List PO := [⟨(some 40), (.move (.tmp 1)), none⟩,
  ⟨(some 41), (.binOp .add 3 (.tmp 40) (.const (.int .i64 1)) 3), none⟩,
  ⟨(some 1), (.assign (.tmp 41)), none⟩]
attribute [go_sem] r102_11
def r102_3 : List PO := [⟨(some 10), (.move (.tmp 5)), none⟩,
  ⟨(some 11), (.binOp .add 3 (.tmp 10) (.const (.int .i64 1)) 3), none⟩,
  ⟨(some 5), (.assign (.tmp 11)), none⟩]
attribute [go_sem] r102_3
def k102_1b : PC := (.seq (.seq (.reg r102_2) (.cond (.tmp 9) .skip (.pre ⟨[1], [], [], []⟩ (.exit 0)))) (.seq (.block 1 (.seq (.reg r102_4) (.seq (.reg r102_5) (.seq (.reg r102_6) (.seq (.reg r102_7) (.seq (.reg r102_8) (.seq (.reg r102_9) (.seq (.reg r102_10) (.reg r102_11))))))))) (.post (.reg r102_3) ⟨[0, 1, 5], [], [], []⟩)))
def r102_0 : List PO := [⟨(some 4), (.assign (.const (.int .i64 0))), none⟩]
attribute [go_sem] r102_0
def r102_1 : List PO := [⟨(some 5), (.assign (.const (.int .i64 0))), none⟩]
attribute [go_sem] r102_1
def r102_12 : List PO := [⟨(some 42), (.move (.tmp 1)), none⟩,
  ⟨(some 4), (.assign (.tmp 42)), none⟩]
attribute [go_sem] r102_12
def c102 : PC := (.seq (.reg r102_0) (.seq (.seq (.reg r102_1) (.block 0 (.pre ⟨[0, 1, 5], [], [], []⟩ (.loop k102_1b)))) (.seq (.reg r102_12) (.pre ⟨[4], [], [], []⟩ .ret))))
def i102 : FnI := ⟨43, [(.tmp 4)], c102, 3, [[4], [0]], [[0]], false, true, 1, false⟩
-- loop.example/g00344/laws.markReCellS
def r103_2 : List PO := [⟨(some 6), (.move (.tmp 5)), none⟩,
  ⟨(some 7), (.move (.tmp 0)), none⟩,
  ⟨(some 8), (.call { callee := (.builtin .len), args := #[(.tmp 7)], argTypes := #[70] }), none⟩,
  ⟨(some 9), (.binOp .lss 3 (.tmp 6) (.tmp 8) 3), none⟩]
attribute [go_sem] r103_2
def r103_4 : List PO := [⟨(some 12), (.move (.tmp 0)), none⟩,
  ⟨(some 13), (.move (.tmp 5)), none⟩,
  ⟨(some 14), (.move (.tmp 1)), none⟩,
  ⟨(some 15), (.indexAddr 70 (.tmp 12) (.tmp 13)), none⟩,
  ⟨(some 16), (.fieldAddr 129 (.tmp 15) 0), none⟩,
  ⟨none, (.store 3 (.tmp 16) (.tmp 14)), none⟩]
attribute [go_sem] r103_4
def r103_5 : List PO := [⟨(some 17), (.move (.tmp 1)), none⟩,
  ⟨(some 18), (.binOp .add 3 (.tmp 17) (.const (.int .i64 1)) 3), none⟩,
  ⟨(some 1), (.assign (.tmp 18)), none⟩]
attribute [go_sem] r103_5
def r103_6 : List PO := [⟨(some 19), (.move (.tmp 0)), none⟩,
  ⟨(some 20), (.move (.tmp 5)), none⟩,
  ⟨(some 21), (.move (.tmp 1)), none⟩,
  ⟨(some 22), (.indexAddr 70 (.tmp 19) (.tmp 20)), none⟩,
  ⟨(some 23), (.fieldAddr 129 (.tmp 22) 1), none⟩,
  ⟨none, (.store 3 (.tmp 23) (.tmp 21)), none⟩]
attribute [go_sem] r103_6
def r103_7 : List PO := [⟨(some 24), (.move (.tmp 1)), none⟩,
  ⟨(some 25), (.binOp .add 3 (.tmp 24) (.const (.int .i64 1)) 3), none⟩,
  ⟨(some 1), (.assign (.tmp 25)), none⟩]
attribute [go_sem] r103_7
def r103_3 : List PO := [⟨(some 10), (.move (.tmp 5)), none⟩,
  ⟨(some 11), (.binOp .add 3 (.tmp 10) (.const (.int .i64 1)) 3), none⟩,
  ⟨(some 5), (.assign (.tmp 11)), none⟩]
attribute [go_sem] r103_3
def k103_1b : PC := (.seq (.seq (.reg r103_2) (.cond (.tmp 9) .skip (.pre ⟨[1], [], [], []⟩ (.exit 0)))) (.seq (.block 1 (.seq (.reg r103_4) (.seq (.reg r103_5) (.seq (.reg r103_6) (.reg r103_7))))) (.post (.reg r103_3) ⟨[0, 1, 5], [], [], []⟩)))
def r103_0 : List PO := [⟨(some 4), (.assign (.const (.int .i64 0))), none⟩]
attribute [go_sem] r103_0
def r103_1 : List PO := [⟨(some 5), (.assign (.const (.int .i64 0))), none⟩]
attribute [go_sem] r103_1
def r103_8 : List PO := [⟨(some 26), (.move (.tmp 1)), none⟩,
  ⟨(some 4), (.assign (.tmp 26)), none⟩]
attribute [go_sem] r103_8
def c103 : PC := (.seq (.reg r103_0) (.seq (.seq (.reg r103_1) (.block 0 (.pre ⟨[0, 1, 5], [], [], []⟩ (.loop k103_1b)))) (.seq (.reg r103_8) (.pre ⟨[4], [], [], []⟩ .ret))))
def i103 : FnI := ⟨27, [(.tmp 4)], c103, 3, [[2], [0]], [[0]], false, true, 1, false⟩
-- loop.example/g00344/laws.markActS
def r104_2 : List PO := [⟨(some 6), (.move (.tmp 5)), none⟩,
  ⟨(some 7), (.move (.tmp 0)), none⟩,
  ⟨(some 8), (.call { callee := (.builtin .len), args := #[(.tmp 7)], argTypes := #[71] }), none⟩,
  ⟨(some 9), (.binOp .lss 3 (.tmp 6) (.tmp 8) 3), none⟩]
attribute [go_sem] r104_2
def r104_4 : List PO := [⟨(some 12), (.move (.tmp 0)), none⟩,
  ⟨(some 13), (.move (.tmp 5)), none⟩,
  ⟨(some 14), (.move (.tmp 1)), none⟩,
  ⟨(some 15), (.indexAddr 71 (.tmp 12) (.tmp 13)), none⟩,
  ⟨(some 16), (.fieldAddr 53 (.tmp 15) 0), none⟩,
  ⟨none, (.store 3 (.tmp 16) (.tmp 14)), none⟩]
attribute [go_sem] r104_4
def r104_5 : List PO := [⟨(some 17), (.move (.tmp 1)), none⟩,
  ⟨(some 18), (.binOp .add 3 (.tmp 17) (.const (.int .i64 1)) 3), none⟩,
  ⟨(some 1), (.assign (.tmp 18)), none⟩]
attribute [go_sem] r104_5
def r104_6 : List PO := [⟨(some 19), (.move (.tmp 0)), none⟩,
  ⟨(some 20), (.move (.tmp 5)), none⟩,
  ⟨(some 21), (.move (.tmp 1)), none⟩,
  ⟨(some 22), (.indexAddr 71 (.tmp 19) (.tmp 20)), none⟩,
  ⟨(some 23), (.fieldAddr 53 (.tmp 22) 1), none⟩,
  ⟨none, (.store 3 (.tmp 23) (.tmp 21)), none⟩]
attribute [go_sem] r104_6
def r104_7 : List PO := [⟨(some 24), (.move (.tmp 1)), none⟩,
  ⟨(some 25), (.binOp .add 3 (.tmp 24) (.const (.int .i64 1)) 3), none⟩,
  ⟨(some 1), (.assign (.tmp 25)), none⟩]
attribute [go_sem] r104_7
def r104_3 : List PO := [⟨(some 10), (.move (.tmp 5)), none⟩,
  ⟨(some 11), (.binOp .add 3 (.tmp 10) (.const (.int .i64 1)) 3), none⟩,
  ⟨(some 5), (.assign (.tmp 11)), none⟩]
attribute [go_sem] r104_3
def k104_1b : PC := (.seq (.seq (.reg r104_2) (.cond (.tmp 9) .skip (.pre ⟨[1], [], [], []⟩ (.exit 0)))) (.seq (.block 1 (.seq (.reg r104_4) (.seq (.reg r104_5) (.seq (.reg r104_6) (.reg r104_7))))) (.post (.reg r104_3) ⟨[0, 1, 5], [], [], []⟩)))
def r104_0 : List PO := [⟨(some 4), (.assign (.const (.int .i64 0))), none⟩]
attribute [go_sem] r104_0
def r104_1 : List PO := [⟨(some 5), (.assign (.const (.int .i64 0))), none⟩]
attribute [go_sem] r104_1
def r104_8 : List PO := [⟨(some 26), (.move (.tmp 1)), none⟩,
  ⟨(some 4), (.assign (.tmp 26)), none⟩]
attribute [go_sem] r104_8
def c104 : PC := (.seq (.reg r104_0) (.seq (.seq (.reg r104_1) (.block 0 (.pre ⟨[0, 1, 5], [], [], []⟩ (.loop k104_1b)))) (.seq (.reg r104_8) (.pre ⟨[4], [], [], []⟩ .ret))))
def i104 : FnI := ⟨27, [(.tmp 4)], c104, 3, [[2], [0]], [[0]], false, true, 1, false⟩
-- loop.example/g00344/laws.markTermS
def r57_2 : List PO := [⟨(some 6), (.move (.tmp 5)), none⟩,
  ⟨(some 7), (.move (.tmp 0)), none⟩,
  ⟨(some 8), (.call { callee := (.builtin .len), args := #[(.tmp 7)], argTypes := #[43] }), none⟩,
  ⟨(some 9), (.binOp .lss 3 (.tmp 6) (.tmp 8) 3), none⟩]
attribute [go_sem] r57_2
def r57_4 : List PO := [⟨(some 12), (.move (.tmp 0)), none⟩,
  ⟨(some 13), (.move (.tmp 5)), none⟩,
  ⟨(some 14), (.indexAddr 43 (.tmp 12) (.tmp 13)), none⟩,
  ⟨(some 15), (.fieldAddr 73 (.tmp 14) 0), none⟩,
  ⟨(some 16), (.load 69 (.tmp 15)), none⟩,
  ⟨(some 17), (.move (.tmp 1)), none⟩,
  ⟨(some 18), (.call { callee := (.value (.func 102)), args := #[(.tmp 16), (.tmp 17)], argTypes := #[69, 3] }), none⟩,
  ⟨(some 1), (.assign (.tmp 18)), none⟩]
attribute [go_sem] r57_4
def r57_5 : List PO := [⟨(some 19), (.move (.tmp 0)), none⟩,
  ⟨(some 20), (.move (.tmp 5)), none⟩,
  ⟨(some 21), (.indexAddr 43 (.tmp 19) (.tmp 20)), none⟩,
  ⟨(some 22), (.fieldAddr 73 (.tmp 21) 1), none⟩,
  ⟨(some 23), (.load 70 (.tmp 22)), none⟩,
  ⟨(some 24), (.move (.tmp 1)), none⟩,
  ⟨(some 25), (.call { callee := (.value (.func 103)), args := #[(.tmp 23), (.tmp 24)], argTypes := #[70, 3] }), none⟩,
  ⟨(some 1), (.assign (.tmp 25)), none⟩]
attribute [go_sem] r57_5
def r57_6 : List PO := [⟨(some 26), (.move (.tmp 0)), none⟩,
  ⟨(some 27), (.move (.tmp 5)), none⟩,
  ⟨(some 28), (.move (.tmp 1)), none⟩,
  ⟨(some 29), (.indexAddr 43 (.tmp 26) (.tmp 27)), none⟩,
  ⟨(some 30), (.fieldAddr 73 (.tmp 29) 2), none⟩,
  ⟨none, (.store 3 (.tmp 30) (.tmp 28)), none⟩]
attribute [go_sem] r57_6
def r57_7 : List PO := [⟨(some 31), (.move (.tmp 1)), none⟩,
  ⟨(some 32), (.binOp .add 3 (.tmp 31) (.const (.int .i64 1)) 3), none⟩,
  ⟨(some 1), (.assign (.tmp 32)), none⟩]
attribute [go_sem] r57_7
def r57_8 : List PO := [⟨(some 33), (.move (.tmp 0)), none⟩,
  ⟨(some 34), (.move (.tmp 5)), none⟩,
  ⟨(some 35), (.indexAddr 43 (.tmp 33) (.tmp 34)), none⟩,
  ⟨(some 36), (.fieldAddr 73 (.tmp 35) 3), none⟩,
  ⟨(some 37), (.load 71 (.tmp 36)), none⟩,
  ⟨(some 38), (.move (.tmp 1)), none⟩,
  ⟨(some 39), (.call { callee := (.value (.func 104)), args := #[(.tmp 37), (.tmp 38)], argTypes := #[71, 3] }), none⟩,
  ⟨(some 1), (.assign (.tmp 39)), none⟩]
attribute [go_sem] r57_8
def r57_9 : List PO := [⟨(some 40), (.move (.tmp 0)), none⟩,
  ⟨(some 41), (.move (.tmp 5)), none⟩,
  ⟨(some 42), (.move (.tmp 1)), none⟩,
  ⟨(some 43), (.indexAddr 43 (.tmp 40) (.tmp 41)), none⟩,
  ⟨(some 44), (.fieldAddr 73 (.tmp 43) 4), none⟩,
  ⟨none, (.store 3 (.tmp 44) (.tmp 42)), none⟩]
attribute [go_sem] r57_9
def r57_10 : List PO := [⟨(some 45), (.move (.tmp 1)), none⟩,
  ⟨(some 46), (.binOp .add 3 (.tmp 45) (.const (.int .i64 1)) 3), none⟩,
  ⟨(some 1), (.assign (.tmp 46)), none⟩]
attribute [go_sem] r57_10
def r57_3 : List PO := [⟨(some 10), (.move (.tmp 5)), none⟩,
  ⟨(some 11), (.binOp .add 3 (.tmp 10) (.const (.int .i64 1)) 3), none⟩,
  ⟨(some 5), (.assign (.tmp 11)), none⟩]
attribute [go_sem] r57_3
def k57_1b : PC := (.seq (.seq (.reg r57_2) (.cond (.tmp 9) .skip (.pre ⟨[1], [], [], []⟩ (.exit 0)))) (.seq (.block 1 (.seq (.nest r57_4 4 2) (.seq (.nest r57_5 4 2) (.seq (.reg r57_6) (.seq (.reg r57_7) (.seq (.nest r57_8 4 2) (.seq (.reg r57_9) (.reg r57_10)))))))) (.post (.reg r57_3) ⟨[0, 1, 5], [], [], []⟩)))
def r57_0 : List PO := [⟨(some 4), (.assign (.const (.int .i64 0))), none⟩]
attribute [go_sem] r57_0
def r57_1 : List PO := [⟨(some 5), (.assign (.const (.int .i64 0))), none⟩]
attribute [go_sem] r57_1
def r57_11 : List PO := [⟨(some 47), (.move (.tmp 1)), none⟩,
  ⟨(some 4), (.assign (.tmp 47)), none⟩]
attribute [go_sem] r57_11
def c57 : PC := (.seq (.reg r57_0) (.seq (.seq (.reg r57_1) (.block 0 (.pre ⟨[0, 1, 5], [], [], []⟩ (.loop k57_1b)))) (.seq (.reg r57_11) (.pre ⟨[4], [], [], []⟩ .ret))))
def i57 : FnI := ⟨48, [(.tmp 4)], c57, 3, [[5], [0]], [[0]], false, true, 1, true⟩
-- loop.example/g00344/laws.markPolicy
def r25_0 : List PO := [⟨(some 2), (.box 45 (.tmp 0)), none⟩,
  ⟨(some 4), (.assign (.const (.int .i64 0))), none⟩]
attribute [go_sem] r25_0
def r25_1 : List PO := [⟨(some 5), (.fieldAddr 45 (.tmp 2) 0), none⟩,
  ⟨(some 6), (.load 43 (.tmp 5)), none⟩,
  ⟨(some 7), (.move (.tmp 1)), none⟩,
  ⟨(some 8), (.call { callee := (.value (.func 57)), args := #[(.tmp 6), (.tmp 7)], argTypes := #[43, 3] }), none⟩,
  ⟨(some 1), (.assign (.tmp 8)), none⟩]
attribute [go_sem] r25_1
def r25_2 : List PO := [⟨(some 9), (.move (.tmp 1)), none⟩,
  ⟨(some 4), (.assign (.tmp 9)), none⟩]
attribute [go_sem] r25_2
def c25 : PC := (.seq (.reg r25_0) (.seq (.reg r25_1) (.seq (.reg r25_2) (.pre ⟨[4], [], [], []⟩ .ret))))
def i25 : FnI := ⟨10, [(.tmp 4)], c25, 3, [[5, 0], [0]], [[0]], false, true, 1, true⟩
-- loop.example/g00344/laws.heldRangeS
def r105_2 : List PO := [⟨(some 6), (.move (.tmp 5)), none⟩,
  ⟨(some 7), (.move (.tmp 0)), none⟩,
  ⟨(some 8), (.call { callee := (.builtin .len), args := #[(.tmp 7)], argTypes := #[69] }), none⟩,
  ⟨(some 9), (.binOp .lss 3 (.tmp 6) (.tmp 8) 3), none⟩]
attribute [go_sem] r105_2
def r105_4 : List PO := [⟨(some 12), (.move (.tmp 0)), none⟩,
  ⟨(some 13), (.move (.tmp 5)), none⟩,
  ⟨(some 14), (.indexAddr 69 (.tmp 12) (.tmp 13)), none⟩,
  ⟨(some 15), (.fieldAddr 114 (.tmp 14) 0), none⟩,
  ⟨(some 16), (.fieldAddr 31 (.tmp 15) 0), none⟩,
  ⟨(some 17), (.load 3 (.tmp 16)), none⟩,
  ⟨(some 18), (.move (.tmp 1)), none⟩,
  ⟨(some 19), (.binOp .neq 3 (.tmp 17) (.tmp 18) 3), none⟩]
attribute [go_sem] r105_4
def r105_5 : List PO := [⟨(some 4), (.assign (.const (.int .i64 (-1)))), none⟩]
attribute [go_sem] r105_5
def r105_6 : List PO := [⟨(some 20), (.move (.tmp 1)), none⟩,
  ⟨(some 21), (.binOp .add 3 (.tmp 20) (.const (.int .i64 1)) 3), none⟩,
  ⟨(some 1), (.assign (.tmp 21)), none⟩]
attribute [go_sem] r105_6
def r105_7 : List PO := [⟨(some 22), (.move (.tmp 0)), none⟩,
  ⟨(some 23), (.move (.tmp 5)), none⟩,
  ⟨(some 24), (.indexAddr 69 (.tmp 22) (.tmp 23)), none⟩,
  ⟨(some 25), (.fieldAddr 114 (.tmp 24) 0), none⟩,
  ⟨(some 26), (.fieldAddr 31 (.tmp 25) 1), none⟩,
  ⟨(some 27), (.load 3 (.tmp 26)), none⟩,
  ⟨(some 28), (.move (.tmp 1)), none⟩,
  ⟨(some 29), (.binOp .neq 3 (.tmp 27) (.tmp 28) 3), none⟩]
attribute [go_sem] r105_7
def r105_8 : List PO := [⟨(some 4), (.assign (.const (.int .i64 (-1)))), none⟩]
attribute [go_sem] r105_8
def r105_9 : List PO := [⟨(some 30), (.move (.tmp 1)), none⟩,
  ⟨(some 31), (.binOp .add 3 (.tmp 30) (.const (.int .i64 1)) 3), none⟩,
  ⟨(some 1), (.assign (.tmp 31)), none⟩]
attribute [go_sem] r105_9
def r105_10 : List PO := [⟨(some 32), (.move (.tmp 0)), none⟩,
  ⟨(some 33), (.move (.tmp 5)), none⟩,
  ⟨(some 34), (.indexAddr 69 (.tmp 32) (.tmp 33)), none⟩,
  ⟨(some 35), (.fieldAddr 114 (.tmp 34) 1), none⟩,
  ⟨(some 36), (.load 3 (.tmp 35)), none⟩,
  ⟨(some 37), (.move (.tmp 1)), none⟩,
  ⟨(some 38), (.binOp .neq 3 (.tmp 36) (.tmp 37) 3), none⟩]
attribute [go_sem] r105_10
def r105_11 : List PO := [⟨(some 4), (.assign (.const (.int .i64 (-1)))), none⟩]
attribute [go_sem] r105_11
def r105_12 : List PO := [⟨(some 39), (.move (.tmp 1)), none⟩,
  ⟨(some 40), (.binOp .add 3 (.tmp 39) (.const (.int .i64 1)) 3), none⟩,
  ⟨(some 1), (.assign (.tmp 40)), none⟩]
attribute [go_sem] r105_12
def r105_13 : List PO := [⟨(some 41), (.move (.tmp 0)), none⟩,
  ⟨(some 42), (.move (.tmp 5)), none⟩,
  ⟨(some 43), (.indexAddr 69 (.tmp 41) (.tmp 42)), none⟩,
  ⟨(some 44), (.fieldAddr 114 (.tmp 43) 2), none⟩,
  ⟨(some 45), (.load 3 (.tmp 44)), none⟩,
  ⟨(some 46), (.move (.tmp 1)), none⟩,
  ⟨(some 47), (.binOp .neq 3 (.tmp 45) (.tmp 46) 3), none⟩]
attribute [go_sem] r105_13
def r105_14 : List PO := [⟨(some 4), (.assign (.const (.int .i64 (-1)))), none⟩]
attribute [go_sem] r105_14
def r105_15 : List PO := [⟨(some 48), (.move (.tmp 1)), none⟩,
  ⟨(some 49), (.binOp .add 3 (.tmp 48) (.const (.int .i64 1)) 3), none⟩,
  ⟨(some 1), (.assign (.tmp 49)), none⟩]
attribute [go_sem] r105_15
def r105_3 : List PO := [⟨(some 10), (.move (.tmp 5)), none⟩,
  ⟨(some 11), (.binOp .add 3 (.tmp 10) (.const (.int .i64 1)) 3), none⟩,
  ⟨(some 5), (.assign (.tmp 11)), none⟩]
attribute [go_sem] r105_3
def k105_1b : PC := (.seq (.seq (.reg r105_2) (.cond (.tmp 9) .skip (.pre ⟨[1], [], [], []⟩ (.exit 0)))) (.seq (.block 1 (.seq (.seq (.reg r105_4) (.cond (.tmp 19) (.seq (.reg r105_5) (.pre ⟨[4], [], [], []⟩ .ret)) .skip)) (.seq (.reg r105_6) (.seq (.seq (.reg r105_7) (.cond (.tmp 29) (.seq (.reg r105_8) (.pre ⟨[4], [], [], []⟩ .ret)) .skip)) (.seq (.reg r105_9) (.seq (.seq (.reg r105_10) (.cond (.tmp 38) (.seq (.reg r105_11) (.pre ⟨[4], [], [], []⟩ .ret)) .skip)) (.seq (.reg r105_12) (.seq (.seq (.reg r105_13) (.cond (.tmp 47) (.seq (.reg r105_14) (.pre ⟨[4], [], [], []⟩ .ret)) .skip)) (.reg r105_15))))))))) (.post (.reg r105_3) ⟨[0, 1, 5], [], [], []⟩)))
def r105_0 : List PO := [⟨(some 4), (.assign (.const (.int .i64 0))), none⟩]
attribute [go_sem] r105_0
def r105_1 : List PO := [⟨(some 5), (.assign (.const (.int .i64 0))), none⟩]
attribute [go_sem] r105_1
def r105_16 : List PO := [⟨(some 50), (.move (.tmp 1)), none⟩,
  ⟨(some 4), (.assign (.tmp 50)), none⟩]
attribute [go_sem] r105_16
def c105 : PC := (.seq (.reg r105_0) (.seq (.seq (.reg r105_1) (.block 0 (.pre ⟨[0, 1, 5], [], [], []⟩ (.loop k105_1b)))) (.seq (.reg r105_16) .ret)))
def i105 : FnI := ⟨51, [(.tmp 4)], c105, 0, [[4], [0]], [[0]], false, false, 0, false⟩
-- loop.example/g00344/laws.heldReCellS
def r106_2 : List PO := [⟨(some 6), (.move (.tmp 5)), none⟩,
  ⟨(some 7), (.move (.tmp 0)), none⟩,
  ⟨(some 8), (.call { callee := (.builtin .len), args := #[(.tmp 7)], argTypes := #[70] }), none⟩,
  ⟨(some 9), (.binOp .lss 3 (.tmp 6) (.tmp 8) 3), none⟩]
attribute [go_sem] r106_2
def r106_4 : List PO := [⟨(some 12), (.move (.tmp 0)), none⟩,
  ⟨(some 13), (.move (.tmp 5)), none⟩,
  ⟨(some 14), (.indexAddr 70 (.tmp 12) (.tmp 13)), none⟩,
  ⟨(some 15), (.fieldAddr 129 (.tmp 14) 0), none⟩,
  ⟨(some 16), (.load 3 (.tmp 15)), none⟩,
  ⟨(some 17), (.move (.tmp 1)), none⟩,
  ⟨(some 18), (.binOp .neq 3 (.tmp 16) (.tmp 17) 3), none⟩]
attribute [go_sem] r106_4
def r106_5 : List PO := [⟨(some 4), (.assign (.const (.int .i64 (-1)))), none⟩]
attribute [go_sem] r106_5
def r106_6 : List PO := [⟨(some 19), (.move (.tmp 1)), none⟩,
  ⟨(some 20), (.binOp .add 3 (.tmp 19) (.const (.int .i64 1)) 3), none⟩,
  ⟨(some 1), (.assign (.tmp 20)), none⟩]
attribute [go_sem] r106_6
def r106_7 : List PO := [⟨(some 21), (.move (.tmp 0)), none⟩,
  ⟨(some 22), (.move (.tmp 5)), none⟩,
  ⟨(some 23), (.indexAddr 70 (.tmp 21) (.tmp 22)), none⟩,
  ⟨(some 24), (.fieldAddr 129 (.tmp 23) 1), none⟩,
  ⟨(some 25), (.load 3 (.tmp 24)), none⟩,
  ⟨(some 26), (.move (.tmp 1)), none⟩,
  ⟨(some 27), (.binOp .neq 3 (.tmp 25) (.tmp 26) 3), none⟩]
attribute [go_sem] r106_7
def r106_8 : List PO := [⟨(some 4), (.assign (.const (.int .i64 (-1)))), none⟩]
attribute [go_sem] r106_8
def r106_9 : List PO := [⟨(some 28), (.move (.tmp 1)), none⟩,
  ⟨(some 29), (.binOp .add 3 (.tmp 28) (.const (.int .i64 1)) 3), none⟩,
  ⟨(some 1), (.assign (.tmp 29)), none⟩]
attribute [go_sem] r106_9
def r106_3 : List PO := [⟨(some 10), (.move (.tmp 5)), none⟩,
  ⟨(some 11), (.binOp .add 3 (.tmp 10) (.const (.int .i64 1)) 3), none⟩,
  ⟨(some 5), (.assign (.tmp 11)), none⟩]
attribute [go_sem] r106_3
def k106_1b : PC := (.seq (.seq (.reg r106_2) (.cond (.tmp 9) .skip (.pre ⟨[1], [], [], []⟩ (.exit 0)))) (.seq (.block 1 (.seq (.seq (.reg r106_4) (.cond (.tmp 18) (.seq (.reg r106_5) (.pre ⟨[4], [], [], []⟩ .ret)) .skip)) (.seq (.reg r106_6) (.seq (.seq (.reg r106_7) (.cond (.tmp 27) (.seq (.reg r106_8) (.pre ⟨[4], [], [], []⟩ .ret)) .skip)) (.reg r106_9))))) (.post (.reg r106_3) ⟨[0, 1, 5], [], [], []⟩)))
def r106_0 : List PO := [⟨(some 4), (.assign (.const (.int .i64 0))), none⟩]
attribute [go_sem] r106_0
def r106_1 : List PO := [⟨(some 5), (.assign (.const (.int .i64 0))), none⟩]
attribute [go_sem] r106_1
def r106_10 : List PO := [⟨(some 30), (.move (.tmp 1)), none⟩,
  ⟨(some 4), (.assign (.tmp 30)), none⟩]
attribute [go_sem] r106_10
def c106 : PC := (.seq (.reg r106_0) (.seq (.seq (.reg r106_1) (.block 0 (.pre ⟨[0, 1, 5], [], [], []⟩ (.loop k106_1b)))) (.seq (.reg r106_10) .ret)))
def i106 : FnI := ⟨31, [(.tmp 4)], c106, 0, [[2], [0]], [[0]], false, false, 0, false⟩
-- loop.example/g00344/laws.heldActS
def r107_2 : List PO := [⟨(some 6), (.move (.tmp 5)), none⟩,
  ⟨(some 7), (.move (.tmp 0)), none⟩,
  ⟨(some 8), (.call { callee := (.builtin .len), args := #[(.tmp 7)], argTypes := #[71] }), none⟩,
  ⟨(some 9), (.binOp .lss 3 (.tmp 6) (.tmp 8) 3), none⟩]
attribute [go_sem] r107_2
def r107_4 : List PO := [⟨(some 12), (.move (.tmp 0)), none⟩,
  ⟨(some 13), (.move (.tmp 5)), none⟩,
  ⟨(some 14), (.indexAddr 71 (.tmp 12) (.tmp 13)), none⟩,
  ⟨(some 15), (.fieldAddr 53 (.tmp 14) 0), none⟩,
  ⟨(some 16), (.load 3 (.tmp 15)), none⟩,
  ⟨(some 17), (.move (.tmp 1)), none⟩,
  ⟨(some 18), (.binOp .neq 3 (.tmp 16) (.tmp 17) 3), none⟩]
attribute [go_sem] r107_4
def r107_5 : List PO := [⟨(some 4), (.assign (.const (.int .i64 (-1)))), none⟩]
attribute [go_sem] r107_5
def r107_6 : List PO := [⟨(some 19), (.move (.tmp 1)), none⟩,
  ⟨(some 20), (.binOp .add 3 (.tmp 19) (.const (.int .i64 1)) 3), none⟩,
  ⟨(some 1), (.assign (.tmp 20)), none⟩]
attribute [go_sem] r107_6
def r107_7 : List PO := [⟨(some 21), (.move (.tmp 0)), none⟩,
  ⟨(some 22), (.move (.tmp 5)), none⟩,
  ⟨(some 23), (.indexAddr 71 (.tmp 21) (.tmp 22)), none⟩,
  ⟨(some 24), (.fieldAddr 53 (.tmp 23) 1), none⟩,
  ⟨(some 25), (.load 3 (.tmp 24)), none⟩,
  ⟨(some 26), (.move (.tmp 1)), none⟩,
  ⟨(some 27), (.binOp .neq 3 (.tmp 25) (.tmp 26) 3), none⟩]
attribute [go_sem] r107_7
def r107_8 : List PO := [⟨(some 4), (.assign (.const (.int .i64 (-1)))), none⟩]
attribute [go_sem] r107_8
def r107_9 : List PO := [⟨(some 28), (.move (.tmp 1)), none⟩,
  ⟨(some 29), (.binOp .add 3 (.tmp 28) (.const (.int .i64 1)) 3), none⟩,
  ⟨(some 1), (.assign (.tmp 29)), none⟩]
attribute [go_sem] r107_9
def r107_3 : List PO := [⟨(some 10), (.move (.tmp 5)), none⟩,
  ⟨(some 11), (.binOp .add 3 (.tmp 10) (.const (.int .i64 1)) 3), none⟩,
  ⟨(some 5), (.assign (.tmp 11)), none⟩]
attribute [go_sem] r107_3
def k107_1b : PC := (.seq (.seq (.reg r107_2) (.cond (.tmp 9) .skip (.pre ⟨[1], [], [], []⟩ (.exit 0)))) (.seq (.block 1 (.seq (.seq (.reg r107_4) (.cond (.tmp 18) (.seq (.reg r107_5) (.pre ⟨[4], [], [], []⟩ .ret)) .skip)) (.seq (.reg r107_6) (.seq (.seq (.reg r107_7) (.cond (.tmp 27) (.seq (.reg r107_8) (.pre ⟨[4], [], [], []⟩ .ret)) .skip)) (.reg r107_9))))) (.post (.reg r107_3) ⟨[0, 1, 5], [], [], []⟩)))
def r107_0 : List PO := [⟨(some 4), (.assign (.const (.int .i64 0))), none⟩]
attribute [go_sem] r107_0
def r107_1 : List PO := [⟨(some 5), (.assign (.const (.int .i64 0))), none⟩]
attribute [go_sem] r107_1
def r107_10 : List PO := [⟨(some 30), (.move (.tmp 1)), none⟩,
  ⟨(some 4), (.assign (.tmp 30)), none⟩]
attribute [go_sem] r107_10
def c107 : PC := (.seq (.reg r107_0) (.seq (.seq (.reg r107_1) (.block 0 (.pre ⟨[0, 1, 5], [], [], []⟩ (.loop k107_1b)))) (.seq (.reg r107_10) .ret)))
def i107 : FnI := ⟨31, [(.tmp 4)], c107, 0, [[2], [0]], [[0]], false, false, 0, false⟩
-- loop.example/g00344/laws.heldTermS
def r58_2 : List PO := [⟨(some 6), (.move (.tmp 5)), none⟩,
  ⟨(some 7), (.move (.tmp 0)), none⟩,
  ⟨(some 8), (.call { callee := (.builtin .len), args := #[(.tmp 7)], argTypes := #[43] }), none⟩,
  ⟨(some 9), (.binOp .lss 3 (.tmp 6) (.tmp 8) 3), none⟩]
attribute [go_sem] r58_2
def r58_4 : List PO := [⟨(some 12), (.move (.tmp 0)), none⟩,
  ⟨(some 13), (.move (.tmp 5)), none⟩,
  ⟨(some 14), (.indexAddr 43 (.tmp 12) (.tmp 13)), none⟩,
  ⟨(some 15), (.fieldAddr 73 (.tmp 14) 0), none⟩,
  ⟨(some 16), (.load 69 (.tmp 15)), none⟩,
  ⟨(some 17), (.move (.tmp 1)), none⟩,
  ⟨(some 18), (.call { callee := (.value (.func 105)), args := #[(.tmp 16), (.tmp 17)], argTypes := #[69, 3] }), none⟩,
  ⟨(some 1), (.assign (.tmp 18)), none⟩]
attribute [go_sem] r58_4
def r58_5 : List PO := [⟨(some 19), (.move (.tmp 1)), none⟩,
  ⟨(some 20), (.binOp .lss 3 (.tmp 19) (.const (.int .i64 0)) 3), none⟩]
attribute [go_sem] r58_5
def r58_6 : List PO := [⟨(some 4), (.assign (.const (.int .i64 (-1)))), none⟩]
attribute [go_sem] r58_6
def r58_7 : List PO := [⟨(some 21), (.move (.tmp 0)), none⟩,
  ⟨(some 22), (.move (.tmp 5)), none⟩,
  ⟨(some 23), (.indexAddr 43 (.tmp 21) (.tmp 22)), none⟩,
  ⟨(some 24), (.fieldAddr 73 (.tmp 23) 1), none⟩,
  ⟨(some 25), (.load 70 (.tmp 24)), none⟩,
  ⟨(some 26), (.move (.tmp 1)), none⟩,
  ⟨(some 27), (.call { callee := (.value (.func 106)), args := #[(.tmp 25), (.tmp 26)], argTypes := #[70, 3] }), none⟩,
  ⟨(some 1), (.assign (.tmp 27)), none⟩]
attribute [go_sem] r58_7
def r58_8 : List PO := [⟨(some 28), (.move (.tmp 1)), none⟩,
  ⟨(some 29), (.binOp .lss 3 (.tmp 28) (.const (.int .i64 0)) 3), none⟩]
attribute [go_sem] r58_8
def r58_9 : List PO := [⟨(some 4), (.assign (.const (.int .i64 (-1)))), none⟩]
attribute [go_sem] r58_9
def r58_10 : List PO := [⟨(some 30), (.move (.tmp 0)), none⟩,
  ⟨(some 31), (.move (.tmp 5)), none⟩,
  ⟨(some 32), (.indexAddr 43 (.tmp 30) (.tmp 31)), none⟩,
  ⟨(some 33), (.fieldAddr 73 (.tmp 32) 2), none⟩,
  ⟨(some 34), (.load 3 (.tmp 33)), none⟩,
  ⟨(some 35), (.move (.tmp 1)), none⟩,
  ⟨(some 36), (.binOp .neq 3 (.tmp 34) (.tmp 35) 3), none⟩]
attribute [go_sem] r58_10
def r58_11 : List PO := [⟨(some 4), (.assign (.const (.int .i64 (-1)))), none⟩]
attribute [go_sem] r58_11
def r58_12 : List PO := [⟨(some 37), (.move (.tmp 1)), none⟩,
  ⟨(some 38), (.binOp .add 3 (.tmp 37) (.const (.int .i64 1)) 3), none⟩,
  ⟨(some 1), (.assign (.tmp 38)), none⟩]
attribute [go_sem] r58_12
def r58_13 : List PO := [⟨(some 39), (.move (.tmp 0)), none⟩,
  ⟨(some 40), (.move (.tmp 5)), none⟩,
  ⟨(some 41), (.indexAddr 43 (.tmp 39) (.tmp 40)), none⟩,
  ⟨(some 42), (.fieldAddr 73 (.tmp 41) 3), none⟩,
  ⟨(some 43), (.load 71 (.tmp 42)), none⟩,
  ⟨(some 44), (.move (.tmp 1)), none⟩,
  ⟨(some 45), (.call { callee := (.value (.func 107)), args := #[(.tmp 43), (.tmp 44)], argTypes := #[71, 3] }), none⟩,
  ⟨(some 1), (.assign (.tmp 45)), none⟩]
attribute [go_sem] r58_13
def r58_14 : List PO := [⟨(some 46), (.move (.tmp 1)), none⟩,
  ⟨(some 47), (.binOp .lss 3 (.tmp 46) (.const (.int .i64 0)) 3), none⟩]
attribute [go_sem] r58_14
def r58_15 : List PO := [⟨(some 4), (.assign (.const (.int .i64 (-1)))), none⟩]
attribute [go_sem] r58_15
def r58_16 : List PO := [⟨(some 48), (.move (.tmp 0)), none⟩,
  ⟨(some 49), (.move (.tmp 5)), none⟩,
  ⟨(some 50), (.indexAddr 43 (.tmp 48) (.tmp 49)), none⟩,
  ⟨(some 51), (.fieldAddr 73 (.tmp 50) 4), none⟩,
  ⟨(some 52), (.load 3 (.tmp 51)), none⟩,
  ⟨(some 53), (.move (.tmp 1)), none⟩,
  ⟨(some 54), (.binOp .neq 3 (.tmp 52) (.tmp 53) 3), none⟩]
attribute [go_sem] r58_16
def r58_17 : List PO := [⟨(some 4), (.assign (.const (.int .i64 (-1)))), none⟩]
attribute [go_sem] r58_17
def r58_18 : List PO := [⟨(some 55), (.move (.tmp 1)), none⟩,
  ⟨(some 56), (.binOp .add 3 (.tmp 55) (.const (.int .i64 1)) 3), none⟩,
  ⟨(some 1), (.assign (.tmp 56)), none⟩]
attribute [go_sem] r58_18
def r58_3 : List PO := [⟨(some 10), (.move (.tmp 5)), none⟩,
  ⟨(some 11), (.binOp .add 3 (.tmp 10) (.const (.int .i64 1)) 3), none⟩,
  ⟨(some 5), (.assign (.tmp 11)), none⟩]
attribute [go_sem] r58_3
def k58_1b : PC := (.seq (.seq (.reg r58_2) (.cond (.tmp 9) .skip (.pre ⟨[1], [], [], []⟩ (.exit 0)))) (.seq (.block 1 (.seq (.reg r58_4) (.seq (.seq (.reg r58_5) (.cond (.tmp 20) (.seq (.reg r58_6) (.pre ⟨[4], [], [], []⟩ .ret)) .skip)) (.seq (.reg r58_7) (.seq (.seq (.reg r58_8) (.cond (.tmp 29) (.seq (.reg r58_9) (.pre ⟨[4], [], [], []⟩ .ret)) .skip)) (.seq (.seq (.reg r58_10) (.cond (.tmp 36) (.seq (.reg r58_11) (.pre ⟨[4], [], [], []⟩ .ret)) .skip)) (.seq (.reg r58_12) (.seq (.reg r58_13) (.seq (.seq (.reg r58_14) (.cond (.tmp 47) (.seq (.reg r58_15) (.pre ⟨[4], [], [], []⟩ .ret)) .skip)) (.seq (.seq (.reg r58_16) (.cond (.tmp 54) (.seq (.reg r58_17) (.pre ⟨[4], [], [], []⟩ .ret)) .skip)) (.reg r58_18))))))))))) (.post (.reg r58_3) ⟨[0, 1, 5], [], [], []⟩)))
def r58_0 : List PO := [⟨(some 4), (.assign (.const (.int .i64 0))), none⟩]
attribute [go_sem] r58_0
def r58_1 : List PO := [⟨(some 5), (.assign (.const (.int .i64 0))), none⟩]
attribute [go_sem] r58_1
def r58_19 : List PO := [⟨(some 57), (.move (.tmp 1)), none⟩,
  ⟨(some 4), (.assign (.tmp 57)), none⟩]
attribute [go_sem] r58_19
def c58 : PC := (.seq (.reg r58_0) (.seq (.seq (.reg r58_1) (.block 0 (.pre ⟨[0, 1, 5], [], [], []⟩ (.loop k58_1b)))) (.seq (.reg r58_19) .ret)))
def i58 : FnI := ⟨58, [(.tmp 4)], c58, 0, [[5], [0]], [[0]], false, false, 0, false⟩
-- loop.example/g00344/laws.heldPolicy
def r26_0 : List PO := [⟨(some 2), (.box 45 (.tmp 0)), none⟩,
  ⟨(some 4), (.assign (.const (.int .i64 0))), none⟩]
attribute [go_sem] r26_0
def r26_1 : List PO := [⟨(some 5), (.fieldAddr 45 (.tmp 2) 0), none⟩,
  ⟨(some 6), (.load 43 (.tmp 5)), none⟩,
  ⟨(some 7), (.move (.tmp 1)), none⟩,
  ⟨(some 8), (.call { callee := (.value (.func 58)), args := #[(.tmp 6), (.tmp 7)], argTypes := #[43, 3] }), none⟩,
  ⟨(some 1), (.assign (.tmp 8)), none⟩]
attribute [go_sem] r26_1
def r26_2 : List PO := [⟨(some 9), (.move (.tmp 1)), none⟩,
  ⟨(some 10), (.binOp .lss 3 (.tmp 9) (.const (.int .i64 0)) 3), none⟩]
attribute [go_sem] r26_2
def r26_3 : List PO := [⟨(some 4), (.assign (.const (.int .i64 (-1)))), none⟩]
attribute [go_sem] r26_3
def r26_4 : List PO := [⟨(some 11), (.move (.tmp 1)), none⟩,
  ⟨(some 4), (.assign (.tmp 11)), none⟩]
attribute [go_sem] r26_4
def c26 : PC := (.seq (.reg r26_0) (.seq (.reg r26_1) (.seq (.seq (.reg r26_2) (.cond (.tmp 10) (.seq (.reg r26_3) .ret) .skip)) (.seq (.reg r26_4) .ret))))
def i26 : FnI := ⟨12, [(.tmp 4)], c26, 0, [[5, 0], [0]], [[0]], false, false, 0, false⟩
-- loop.example/g00344/laws.FnExactThenPolicy
def r6_12 : List PO := [⟨(some 45), (.load 45 (.tmp 10)), none⟩,
  ⟨(some 46), (.load 45 (.tmp 6)), none⟩,
  ⟨(some 47), (.call { callee := (.value (.func 17)), args := #[(.tmp 45), (.tmp 46)], argTypes := #[45, 45] }), none⟩,
  ⟨(some 48), (.unOp .not 4 (.tmp 47)), none⟩,
  ⟨(some 49), (.move (.tmp 48)), none⟩,
  ⟨(some 50), (.move (.tmp 11)), (some (49, false))⟩,
  ⟨(some 51), (.move (.tmp 7)), (some (49, false))⟩,
  ⟨(some 52), (.binOp .neq 4 (.tmp 50) (.tmp 51) 4), (some (49, false))⟩,
  ⟨(some 53), (.pick (.tmp 49) (.const (.bool true)) (.tmp 52)), none⟩]
attribute [go_sem] r6_12
def k6_1 : PC := (.post (.reg r6_12) ⟨[2, 3, 6, 7, 8, 9, 10, 11, 53], [.old 0, .old 1, .old 2, .old 3, .old 4, .old 5, .old 6, .old 7, .old 8, .old 9], [], []⟩)
def r6_21 : List PO := [⟨(some 70), (.move (.tmp 12)), none⟩,
  ⟨(some 71), (.binOp .lss 3 (.tmp 70) (.const (.int .i64 0)) 3), none⟩,
  ⟨(some 72), (.move (.tmp 71)), none⟩,
  ⟨(some 73), (.load 45 (.tmp 10)), (some (72, false))⟩,
  ⟨(some 74), (.load 45 (.tmp 6)), (some (72, false))⟩,
  ⟨(some 75), (.call { callee := (.value (.func 17)), args := #[(.tmp 73), (.tmp 74)], argTypes := #[45, 45] }), (some (72, false))⟩,
  ⟨(some 76), (.unOp .not 4 (.tmp 75)), (some (72, false))⟩,
  ⟨(some 77), (.pick (.tmp 72) (.const (.bool true)) (.tmp 76)), none⟩,
  ⟨(some 78), (.move (.tmp 77)), none⟩,
  ⟨(some 79), (.move (.tmp 11)), (some (78, false))⟩,
  ⟨(some 80), (.move (.tmp 7)), (some (78, false))⟩,
  ⟨(some 81), (.binOp .neq 4 (.tmp 79) (.tmp 80) 4), (some (78, false))⟩,
  ⟨(some 82), (.pick (.tmp 78) (.const (.bool true)) (.tmp 81)), none⟩]
attribute [go_sem] r6_21
def k6_2 : PC := (.post (.reg r6_21) ⟨[2, 3, 6, 7, 10, 82], [.old 0, .old 1, .old 2, .old 3, .old 4, .old 5], [], []⟩)
def r6_32 : List PO := [⟨(some 102), (.load 45 (.tmp 15)), none⟩,
  ⟨(some 103), (.load 45 (.tmp 6)), none⟩,
  ⟨(some 104), (.call { callee := (.value (.func 17)), args := #[(.tmp 102), (.tmp 103)], argTypes := #[45, 45] }), none⟩,
  ⟨(some 105), (.unOp .not 4 (.tmp 104)), none⟩,
  ⟨(some 106), (.move (.tmp 105)), none⟩,
  ⟨(some 107), (.move (.tmp 16)), (some (106, false))⟩,
  ⟨(some 108), (.move (.tmp 7)), (some (106, false))⟩,
  ⟨(some 109), (.binOp .neq 4 (.tmp 107) (.tmp 108) 4), (some (106, false))⟩,
  ⟨(some 110), (.pick (.tmp 106) (.const (.bool true)) (.tmp 109)), none⟩]
attribute [go_sem] r6_32
def k6_3 : PC := (.post (.reg r6_32) ⟨[10, 13, 110], [.old 2, .old 3], [], []⟩)
def r6_0 : List PO := [⟨(some 2), (.box 40 (.tmp 0)), none⟩,
  ⟨(some 3), (.box 40 (.tmp 1)), none⟩,
  ⟨(some 4), (.assign (.const (.bool false))), none⟩]
attribute [go_sem] r6_0
def r6_1 : List PO := [⟨(some 5), (.assign (.const (.int .i64 1048576))), none⟩]
attribute [go_sem] r6_1
def r6_2 : List PO := [⟨(some 17), (.load 40 (.tmp 2)), none⟩,
  ⟨(some 18), (.move (.tmp 5)), none⟩,
  ⟨(some 19), (.call { callee := (.value (.func 13)), args := #[(.tmp 17), (.tmp 18)], argTypes := #[40, 3] }), none⟩,
  ⟨(some 5), (.assign (.tmp 19)), none⟩]
attribute [go_sem] r6_2
def r6_3 : List PO := [⟨(some 20), (.move (.tmp 5)), none⟩,
  ⟨(some 21), (.binOp .lss 3 (.tmp 20) (.const (.int .i64 0)) 3), none⟩]
attribute [go_sem] r6_3
def r6_4 : List PO := [⟨(some 4), (.assign (.const (.bool true))), none⟩]
attribute [go_sem] r6_4
def r6_5 : List PO := [⟨(some 22), (.load 40 (.tmp 3)), none⟩,
  ⟨(some 23), (.move (.tmp 5)), none⟩,
  ⟨(some 24), (.call { callee := (.value (.func 13)), args := #[(.tmp 22), (.tmp 23)], argTypes := #[40, 3] }), none⟩,
  ⟨(some 5), (.assign (.tmp 24)), none⟩]
attribute [go_sem] r6_5
def r6_6 : List PO := [⟨(some 25), (.move (.tmp 5)), none⟩,
  ⟨(some 26), (.binOp .lss 3 (.tmp 25) (.const (.int .i64 0)) 3), none⟩]
attribute [go_sem] r6_6
def r6_7 : List PO := [⟨(some 4), (.assign (.const (.bool true))), none⟩]
attribute [go_sem] r6_7
def r6_8 : List PO := [⟨(some 28), (.load 40 (.tmp 2)), none⟩,
  ⟨(some 29), (.call { callee := (.value (.func 15)), args := #[(.tmp 28)], argTypes := #[40] }), none⟩,
  ⟨(some 30), (.load 40 (.tmp 3)), none⟩,
  ⟨(some 31), (.call { callee := (.value (.func 15)), args := #[(.tmp 30)], argTypes := #[40] }), none⟩,
  ⟨(some 32), (.call { callee := (.value (.func 23)), args := #[(.tmp 29), (.tmp 31)], argTypes := #[45, 45] }), none⟩,
  ⟨(some 27), (.move (.tmp 32)), none⟩,
  ⟨(some 33), (.extract (.tmp 27) 0), none⟩,
  ⟨(some 34), (.extract (.tmp 27) 1), none⟩,
  ⟨(some 6), (.alloc 45), none⟩,
  ⟨none, (.store 45 (.tmp 6) (.tmp 33)), none⟩,
  ⟨(some 7), (.assign (.tmp 34)), none⟩]
attribute [go_sem] r6_8
def x6_8 : FxI := ⟨[1, 3, 4, 8, 9], [none, none, none, none, none, none, none, none, some 0, none, none], 1, [[], [1], [1, 3], [1, 3, 4], [1, 3, 4, 8], [1, 3, 4, 8, 9], [8], [1, 8], [1, 3, 8]], [(0, 8), (1, 8), (2, 8)], [(0, 6, 6), (1, 6, 7), (2, 0, 0), (2, 6, 6), (2, 7, 7), (3, 7, 8), (4, 8, 4), (8, 0, 6), (8, 1, 7), (8, 2, 8)]⟩
attribute [go_sem] x6_8
def r6_9 : List PO := [⟨(some 35), (.load 40 (.tmp 2)), none⟩,
  ⟨(some 36), (.call { callee := (.value (.func 15)), args := #[(.tmp 35)], argTypes := #[40] }), none⟩,
  ⟨(some 8), (.alloc 45), none⟩,
  ⟨none, (.store 45 (.tmp 8) (.tmp 36)), none⟩]
attribute [go_sem] r6_9
def r6_10 : List PO := [⟨(some 37), (.load 40 (.tmp 3)), none⟩,
  ⟨(some 38), (.call { callee := (.value (.func 15)), args := #[(.tmp 37)], argTypes := #[40] }), none⟩,
  ⟨(some 9), (.alloc 45), none⟩,
  ⟨none, (.store 45 (.tmp 9) (.tmp 38)), none⟩]
attribute [go_sem] r6_10
def r6_11 : List PO := [⟨(some 40), (.load 45 (.tmp 8)), none⟩,
  ⟨(some 41), (.load 45 (.tmp 9)), none⟩,
  ⟨(some 42), (.call { callee := (.value (.func 24)), args := #[(.tmp 40), (.tmp 41)], argTypes := #[45, 45] }), none⟩,
  ⟨(some 39), (.move (.tmp 42)), none⟩,
  ⟨(some 43), (.extract (.tmp 39) 0), none⟩,
  ⟨(some 44), (.extract (.tmp 39) 1), none⟩,
  ⟨(some 10), (.alloc 45), none⟩,
  ⟨none, (.store 45 (.tmp 10) (.tmp 43)), none⟩,
  ⟨(some 11), (.assign (.tmp 44)), none⟩]
attribute [go_sem] r6_11
def r6_13 : List PO := [⟨(some 4), (.assign (.const (.bool false))), none⟩]
attribute [go_sem] r6_13
def r6_14 : List PO := [⟨(some 54), (.load 45 (.tmp 8)), none⟩,
  ⟨(some 55), (.load 40 (.tmp 2)), none⟩,
  ⟨(some 56), (.call { callee := (.value (.func 15)), args := #[(.tmp 55)], argTypes := #[40] }), none⟩,
  ⟨(some 57), (.call { callee := (.value (.func 17)), args := #[(.tmp 54), (.tmp 56)], argTypes := #[45, 45] }), none⟩,
  ⟨(some 58), (.unOp .not 4 (.tmp 57)), none⟩]
attribute [go_sem] r6_14
def r6_15 : List PO := [⟨(some 4), (.assign (.const (.bool false))), none⟩]
attribute [go_sem] r6_15
def r6_16 : List PO := [⟨(some 59), (.load 45 (.tmp 9)), none⟩,
  ⟨(some 60), (.load 40 (.tmp 3)), none⟩,
  ⟨(some 61), (.call { callee := (.value (.func 15)), args := #[(.tmp 60)], argTypes := #[40] }), none⟩,
  ⟨(some 62), (.call { callee := (.value (.func 17)), args := #[(.tmp 59), (.tmp 61)], argTypes := #[45, 45] }), none⟩,
  ⟨(some 63), (.unOp .not 4 (.tmp 62)), none⟩]
attribute [go_sem] r6_16
def r6_17 : List PO := [⟨(some 4), (.assign (.const (.bool false))), none⟩]
attribute [go_sem] r6_17
def r6_18 : List PO := [⟨(some 12), (.assign (.const (.int .i64 1))), none⟩]
attribute [go_sem] r6_18
def r6_19 : List PO := [⟨(some 64), (.load 45 (.tmp 8)), none⟩,
  ⟨(some 65), (.move (.tmp 12)), none⟩,
  ⟨(some 66), (.call { callee := (.value (.func 25)), args := #[(.tmp 64), (.tmp 65)], argTypes := #[45, 3] }), none⟩,
  ⟨(some 12), (.assign (.tmp 66)), none⟩]
attribute [go_sem] r6_19
def r6_20 : List PO := [⟨(some 67), (.load 45 (.tmp 9)), none⟩,
  ⟨(some 68), (.move (.tmp 12)), none⟩,
  ⟨(some 69), (.call { callee := (.value (.func 25)), args := #[(.tmp 67), (.tmp 68)], argTypes := #[45, 3] }), none⟩,
  ⟨(some 12), (.assign (.tmp 69)), none⟩]
attribute [go_sem] r6_20
def r6_22 : List PO := [⟨(some 4), (.assign (.const (.bool false))), none⟩]
attribute [go_sem] r6_22
def r6_23 : List PO := [⟨(some 13), (.assign (.const (.int .i64 1))), none⟩]
attribute [go_sem] r6_23
def r6_24 : List PO := [⟨(some 83), (.load 45 (.tmp 10)), none⟩,
  ⟨(some 84), (.move (.tmp 13)), none⟩,
  ⟨(some 85), (.call { callee := (.value (.func 25)), args := #[(.tmp 83), (.tmp 84)], argTypes := #[45, 3] }), none⟩,
  ⟨(some 13), (.assign (.tmp 85)), none⟩]
attribute [go_sem] r6_24
def r6_25 : List PO := [⟨(some 14), (.assign (.const (.int .i64 1))), none⟩]
attribute [go_sem] r6_25
def r6_26 : List PO := [⟨(some 86), (.load 45 (.tmp 10)), none⟩,
  ⟨(some 87), (.move (.tmp 14)), none⟩,
  ⟨(some 88), (.call { callee := (.value (.func 26)), args := #[(.tmp 86), (.tmp 87)], argTypes := #[45, 3] }), none⟩,
  ⟨(some 14), (.assign (.tmp 88)), none⟩]
attribute [go_sem] r6_26
def r6_27 : List PO := [⟨(some 89), (.move (.tmp 14)), none⟩,
  ⟨(some 90), (.binOp .lss 3 (.tmp 89) (.const (.int .i64 0)) 3), none⟩]
attribute [go_sem] r6_27
def r6_28 : List PO := [⟨(some 4), (.assign (.const (.bool false))), none⟩]
attribute [go_sem] r6_28
def r6_29 : List PO := [⟨(some 91), (.move (.tmp 14)), none⟩,
  ⟨(some 92), (.move (.tmp 13)), none⟩,
  ⟨(some 93), (.binOp .neq 3 (.tmp 91) (.tmp 92) 3), none⟩]
attribute [go_sem] r6_29
def r6_30 : List PO := [⟨(some 4), (.assign (.const (.bool false))), none⟩]
attribute [go_sem] r6_30
def r6_31 : List PO := [⟨(some 95), (.load 40 (.tmp 2)), none⟩,
  ⟨(some 96), (.call { callee := (.value (.func 15)), args := #[(.tmp 95)], argTypes := #[40] }), none⟩,
  ⟨(some 97), (.load 40 (.tmp 3)), none⟩,
  ⟨(some 98), (.call { callee := (.value (.func 15)), args := #[(.tmp 97)], argTypes := #[40] }), none⟩,
  ⟨(some 99), (.call { callee := (.value (.func 24)), args := #[(.tmp 96), (.tmp 98)], argTypes := #[45, 45] }), none⟩,
  ⟨(some 94), (.move (.tmp 99)), none⟩,
  ⟨(some 100), (.extract (.tmp 94) 0), none⟩,
  ⟨(some 101), (.extract (.tmp 94) 1), none⟩,
  ⟨(some 15), (.alloc 45), none⟩,
  ⟨none, (.store 45 (.tmp 15) (.tmp 100)), none⟩,
  ⟨(some 16), (.assign (.tmp 101)), none⟩]
attribute [go_sem] r6_31
def x6_31 : FxI := ⟨[1, 3, 4, 8, 9], [none, none, none, none, none, none, none, none, some 0, none, none], 1, [[], [1], [1, 3], [1, 3, 4], [1, 3, 4, 8], [1, 3, 4, 8, 9], [8], [1, 8], [1, 3, 8]], [(0, 8), (1, 8), (2, 8)], [(0, 6, 6), (1, 6, 7), (2, 0, 0), (2, 6, 6), (2, 7, 7), (3, 7, 8), (4, 8, 4), (8, 0, 6), (8, 1, 7), (8, 2, 8)]⟩
attribute [go_sem] x6_31
def r6_33 : List PO := [⟨(some 4), (.assign (.const (.bool false))), none⟩]
attribute [go_sem] r6_33
def r6_34 : List PO := [⟨(some 14), (.assign (.const (.int .i64 1))), none⟩]
attribute [go_sem] r6_34
def r6_35 : List PO := [⟨(some 111), (.load 45 (.tmp 10)), none⟩,
  ⟨(some 112), (.move (.tmp 14)), none⟩,
  ⟨(some 113), (.call { callee := (.value (.func 26)), args := #[(.tmp 111), (.tmp 112)], argTypes := #[45, 3] }), none⟩,
  ⟨(some 14), (.assign (.tmp 113)), none⟩]
attribute [go_sem] r6_35
def r6_36 : List PO := [⟨(some 114), (.move (.tmp 14)), none⟩,
  ⟨(some 115), (.binOp .lss 3 (.tmp 114) (.const (.int .i64 0)) 3), none⟩]
attribute [go_sem] r6_36
def r6_38 : List PO := [⟨(some 116), (.move (.tmp 14)), none⟩,
  ⟨(some 117), (.move (.tmp 13)), none⟩,
  ⟨(some 118), (.binOp .neq 3 (.tmp 116) (.tmp 117) 3), none⟩]
attribute [go_sem] r6_38
def r6_40 : List PO := [⟨(some 4), (.assign (.const (.bool true))), none⟩]
attribute [go_sem] r6_40
def c6 : PC := (.seq (.reg r6_0) (.seq (.reg r6_1) (.seq (.reg r6_2) (.seq (.seq (.reg r6_3) (.cond (.tmp 21) (.seq (.reg r6_4) .ret) .skip)) (.seq (.reg r6_5) (.seq (.seq (.reg r6_6) (.cond (.tmp 26) (.seq (.reg r6_7) .ret) .skip)) (.seq (.fx r6_8 x6_8) (.seq (.reg r6_9) (.seq (.reg r6_10) (.seq (.reg r6_11) (.seq (.seq (.pre ⟨[2, 3, 6, 7, 8, 9, 10, 11], [.old 0, .old 1, .old 2, .old 5, .old 7, .old 6, .old 9, .old 8, .old 11, .old 10], [], []⟩ k6_1) (.cond (.tmp 53) (.seq (.reg r6_13) .ret) .skip)) (.seq (.seq (.fz r6_14) (.cond (.tmp 58) (.seq (.reg r6_15) .ret) .skip)) (.seq (.seq (.fz r6_16) (.cond (.tmp 63) (.seq (.reg r6_17) .ret) .skip)) (.seq (.reg r6_18) (.seq (.reg r6_19) (.seq (.reg r6_20) (.seq (.seq (.pre ⟨[2, 3, 6, 7, 10, 11, 12], [.old 0, .old 1, .old 2, .old 3, .old 8, .old 9], [], []⟩ k6_2) (.cond (.tmp 82) (.seq (.reg r6_22) .ret) .skip)) (.seq (.reg r6_23) (.seq (.reg r6_24) (.seq (.reg r6_25) (.seq (.reg r6_26) (.seq (.seq (.reg r6_27) (.cond (.tmp 90) (.seq (.reg r6_28) .ret) .skip)) (.seq (.seq (.reg r6_29) (.cond (.tmp 93) (.seq (.reg r6_30) .ret) .skip)) (.seq (.fx r6_31 x6_31) (.seq (.seq (.pre ⟨[6, 7, 10, 13, 15, 16], [.old 2, .old 3, .old 4, .old 5, .old 6, .old 9], [], []⟩ k6_3) (.cond (.tmp 110) (.seq (.reg r6_33) .ret) .skip)) (.seq (.reg r6_34) (.seq (.reg r6_35) (.seq (.seq (.reg r6_36) (.cond (.tmp 115) .bad .skip)) (.seq (.seq (.reg r6_38) (.cond (.tmp 118) .bad .skip)) (.seq (.reg r6_40) .ret))))))))))))))))))))))))))))))
def i6 : FnI := ⟨119, [(.tmp 4)], c6, 0, [[5, 0], [5, 0]], [[0]], false, false, 0, true⟩
def tys : List (Nat × TyI) := [(3, ⟨1, 8, false, [.int .i64 0], [0], 0, [], .int .i64, false⟩),
  (4, ⟨1, 1, false, [.bool false], [0], 0, [], .bool, false⟩),
  (23, ⟨2, 16, true, [.int .i64 0, .int .i64 0], [0, 0], 0, [(0, 1, false), (1, 1, false)], .other, true⟩),
  (31, ⟨2, 16, true, [.int .i64 0, .int .i64 0], [0, 0], 0, [(0, 1, false), (1, 1, false)], .other, true⟩),
  (38, ⟨1, 24, false, [.nil], [5], 65, [], .other, false⟩),
  (40, ⟨2, 32, true, [.nil, .bool false], [5, 0], 0, [(0, 1, false), (1, 1, false)], .other, false⟩),
  (43, ⟨1, 24, false, [.nil], [5], 73, [], .other, false⟩),
  (45, ⟨2, 32, true, [.nil, .bool false], [5, 0], 0, [(0, 1, false), (1, 1, false)], .other, false⟩),
  (50, ⟨2, 16, true, [.int .i64 0, .int .i64 0], [0, 0], 0, [(0, 1, false), (1, 1, false)], .other, true⟩),
  (53, ⟨2, 16, true, [.int .i64 0, .int .i64 0], [0, 0], 0, [(0, 1, false), (1, 1, false)], .other, true⟩),
  (61, ⟨1, 24, false, [.nil], [4], 138, [], .other, false⟩),
  (62, ⟨1, 24, false, [.nil], [2], 140, [], .other, false⟩),
  (63, ⟨1, 24, false, [.nil], [2], 50, [], .other, false⟩),
  (65, ⟨5, 88, true, [.nil, .nil, .int .i64 0, .nil, .int .i64 0], [4, 2, 0, 2, 0], 0, [(0, 1, false), (1, 1, false), (2, 1, false), (3, 1, false), (4, 1, false)], .other, false⟩),
  (69, ⟨1, 24, false, [.nil], [4], 114, [], .other, false⟩),
  (70, ⟨1, 24, false, [.nil], [2], 129, [], .other, false⟩),
  (71, ⟨1, 24, false, [.nil], [2], 53, [], .other, false⟩),
  (73, ⟨5, 88, true, [.nil, .nil, .int .i64 0, .nil, .int .i64 0], [4, 2, 0, 2, 0], 0, [(0, 1, false), (1, 1, false), (2, 1, false), (3, 1, false), (4, 1, false)], .other, false⟩),
  (114, ⟨4, 32, true, [.int .i64 0, .int .i64 0, .int .i64 0, .int .i64 0], [0, 0, 0, 0], 0, [(0, 2, true), (2, 1, false), (3, 1, false)], .other, false⟩),
  (129, ⟨2, 16, true, [.int .i64 0, .int .i64 0], [0, 0], 0, [(0, 1, false), (1, 1, false)], .other, true⟩),
  (138, ⟨4, 32, true, [.int .i64 0, .int .i64 0, .int .i64 0, .int .i64 0], [0, 0, 0, 0], 0, [(0, 2, true), (2, 1, false), (3, 1, false)], .other, false⟩),
  (140, ⟨2, 16, true, [.int .i64 0, .int .i64 0], [0, 0], 0, [(0, 1, false), (1, 1, false)], .other, true⟩),
  (145, ⟨1, 8, false, [.int .u64 0], [0], 0, [], .int .u64, false⟩),
  (147, ⟨1, 24, false, [.nil], [3], 149, [], .other, false⟩),
  (149, ⟨3, 40, true, [.int .i64 0, .int .i64 0, .nil], [0, 0, 3], 0, [(0, 1, false), (1, 1, false), (2, 1, false)], .other, false⟩)]
def fns : List (Nat × FnI) := [(6, i6), (13, i13), (14, i14), (15, i15), (16, i16), (17, i17), (19, i19), (23, i23), (24, i24), (25, i25), (26, i26), (27, i27), (29, i29), (31, i31), (33, i33), (35, i35), (37, i37), (39, i39), (41, i41), (42, i42), (43, i43), (44, i44), (45, i45), (46, i46), (47, i47), (48, i48), (50, i50), (54, i54), (55, i55), (56, i56), (57, i57), (58, i58), (59, i59), (60, i60), (61, i61), (63, i63), (64, i64), (65, i65), (67, i67), (68, i68), (69, i69), (71, i71), (72, i72), (73, i73), (75, i75), (76, i76), (77, i77), (79, i79), (82, i82), (83, i83), (84, i84), (85, i85), (86, i86), (87, i87), (88, i88), (91, i91), (99, i99), (100, i100), (101, i101), (102, i102), (103, i103), (104, i104), (105, i105), (106, i106), (107, i107), (111, i111), (112, i112), (117, i117), (118, i118), (119, i119), (122, i122), (123, i123), (124, i124), (125, i125), (126, i126), (127, i127), (143, i143), (144, i144), (145, i145), (154, i154)]
def T : Tab := mkTab tys fns
theorem soft0 : T.soft = false := rfl
theorem ty3 : T.ty 3 = some ⟨1, 8, false, [.int .i64 0], [0], 0, [], .int .i64, false⟩ := rfl
theorem base3 : T.baseOf 3 = Bs.int .i64 := rfl
theorem ty4 : T.ty 4 = some ⟨1, 1, false, [.bool false], [0], 0, [], .bool, false⟩ := rfl
theorem base4 : T.baseOf 4 = Bs.bool := rfl
theorem ty23 : T.ty 23 = some ⟨2, 16, true, [.int .i64 0, .int .i64 0], [0, 0], 0, [(0, 1, false), (1, 1, false)], .other, true⟩ := rfl
theorem base23 : T.baseOf 23 = Bs.other := rfl
theorem ty31 : T.ty 31 = some ⟨2, 16, true, [.int .i64 0, .int .i64 0], [0, 0], 0, [(0, 1, false), (1, 1, false)], .other, true⟩ := rfl
theorem base31 : T.baseOf 31 = Bs.other := rfl
theorem ty38 : T.ty 38 = some ⟨1, 24, false, [.nil], [5], 65, [], .other, false⟩ := rfl
theorem base38 : T.baseOf 38 = Bs.other := rfl
theorem elem38 : T.elemOf 38 = some ⟨5, 88, true, [.nil, .nil, .int .i64 0, .nil, .int .i64 0], [4, 2, 0, 2, 0], 0, [(0, 1, false), (1, 1, false), (2, 1, false), (3, 1, false), (4, 1, false)], .other, false⟩ := rfl
theorem ty40 : T.ty 40 = some ⟨2, 32, true, [.nil, .bool false], [5, 0], 0, [(0, 1, false), (1, 1, false)], .other, false⟩ := rfl
theorem base40 : T.baseOf 40 = Bs.other := rfl
theorem ty43 : T.ty 43 = some ⟨1, 24, false, [.nil], [5], 73, [], .other, false⟩ := rfl
theorem base43 : T.baseOf 43 = Bs.other := rfl
theorem elem43 : T.elemOf 43 = some ⟨5, 88, true, [.nil, .nil, .int .i64 0, .nil, .int .i64 0], [4, 2, 0, 2, 0], 0, [(0, 1, false), (1, 1, false), (2, 1, false), (3, 1, false), (4, 1, false)], .other, false⟩ := rfl
theorem ty45 : T.ty 45 = some ⟨2, 32, true, [.nil, .bool false], [5, 0], 0, [(0, 1, false), (1, 1, false)], .other, false⟩ := rfl
theorem base45 : T.baseOf 45 = Bs.other := rfl
theorem ty50 : T.ty 50 = some ⟨2, 16, true, [.int .i64 0, .int .i64 0], [0, 0], 0, [(0, 1, false), (1, 1, false)], .other, true⟩ := rfl
theorem base50 : T.baseOf 50 = Bs.other := rfl
theorem ty53 : T.ty 53 = some ⟨2, 16, true, [.int .i64 0, .int .i64 0], [0, 0], 0, [(0, 1, false), (1, 1, false)], .other, true⟩ := rfl
theorem base53 : T.baseOf 53 = Bs.other := rfl
theorem ty61 : T.ty 61 = some ⟨1, 24, false, [.nil], [4], 138, [], .other, false⟩ := rfl
theorem base61 : T.baseOf 61 = Bs.other := rfl
theorem elem61 : T.elemOf 61 = some ⟨4, 32, true, [.int .i64 0, .int .i64 0, .int .i64 0, .int .i64 0], [0, 0, 0, 0], 0, [(0, 2, true), (2, 1, false), (3, 1, false)], .other, false⟩ := rfl
theorem ty62 : T.ty 62 = some ⟨1, 24, false, [.nil], [2], 140, [], .other, false⟩ := rfl
theorem base62 : T.baseOf 62 = Bs.other := rfl
theorem elem62 : T.elemOf 62 = some ⟨2, 16, true, [.int .i64 0, .int .i64 0], [0, 0], 0, [(0, 1, false), (1, 1, false)], .other, true⟩ := rfl
theorem ty63 : T.ty 63 = some ⟨1, 24, false, [.nil], [2], 50, [], .other, false⟩ := rfl
theorem base63 : T.baseOf 63 = Bs.other := rfl
theorem elem63 : T.elemOf 63 = some ⟨2, 16, true, [.int .i64 0, .int .i64 0], [0, 0], 0, [(0, 1, false), (1, 1, false)], .other, true⟩ := rfl
theorem ty65 : T.ty 65 = some ⟨5, 88, true, [.nil, .nil, .int .i64 0, .nil, .int .i64 0], [4, 2, 0, 2, 0], 0, [(0, 1, false), (1, 1, false), (2, 1, false), (3, 1, false), (4, 1, false)], .other, false⟩ := rfl
theorem base65 : T.baseOf 65 = Bs.other := rfl
theorem ty69 : T.ty 69 = some ⟨1, 24, false, [.nil], [4], 114, [], .other, false⟩ := rfl
theorem base69 : T.baseOf 69 = Bs.other := rfl
theorem elem69 : T.elemOf 69 = some ⟨4, 32, true, [.int .i64 0, .int .i64 0, .int .i64 0, .int .i64 0], [0, 0, 0, 0], 0, [(0, 2, true), (2, 1, false), (3, 1, false)], .other, false⟩ := rfl
theorem ty70 : T.ty 70 = some ⟨1, 24, false, [.nil], [2], 129, [], .other, false⟩ := rfl
theorem base70 : T.baseOf 70 = Bs.other := rfl
theorem elem70 : T.elemOf 70 = some ⟨2, 16, true, [.int .i64 0, .int .i64 0], [0, 0], 0, [(0, 1, false), (1, 1, false)], .other, true⟩ := rfl
theorem ty71 : T.ty 71 = some ⟨1, 24, false, [.nil], [2], 53, [], .other, false⟩ := rfl
theorem base71 : T.baseOf 71 = Bs.other := rfl
theorem elem71 : T.elemOf 71 = some ⟨2, 16, true, [.int .i64 0, .int .i64 0], [0, 0], 0, [(0, 1, false), (1, 1, false)], .other, true⟩ := rfl
theorem ty73 : T.ty 73 = some ⟨5, 88, true, [.nil, .nil, .int .i64 0, .nil, .int .i64 0], [4, 2, 0, 2, 0], 0, [(0, 1, false), (1, 1, false), (2, 1, false), (3, 1, false), (4, 1, false)], .other, false⟩ := rfl
theorem base73 : T.baseOf 73 = Bs.other := rfl
theorem ty114 : T.ty 114 = some ⟨4, 32, true, [.int .i64 0, .int .i64 0, .int .i64 0, .int .i64 0], [0, 0, 0, 0], 0, [(0, 2, true), (2, 1, false), (3, 1, false)], .other, false⟩ := rfl
theorem base114 : T.baseOf 114 = Bs.other := rfl
theorem ty129 : T.ty 129 = some ⟨2, 16, true, [.int .i64 0, .int .i64 0], [0, 0], 0, [(0, 1, false), (1, 1, false)], .other, true⟩ := rfl
theorem base129 : T.baseOf 129 = Bs.other := rfl
theorem ty138 : T.ty 138 = some ⟨4, 32, true, [.int .i64 0, .int .i64 0, .int .i64 0, .int .i64 0], [0, 0, 0, 0], 0, [(0, 2, true), (2, 1, false), (3, 1, false)], .other, false⟩ := rfl
theorem base138 : T.baseOf 138 = Bs.other := rfl
theorem ty140 : T.ty 140 = some ⟨2, 16, true, [.int .i64 0, .int .i64 0], [0, 0], 0, [(0, 1, false), (1, 1, false)], .other, true⟩ := rfl
theorem base140 : T.baseOf 140 = Bs.other := rfl
theorem ty145 : T.ty 145 = some ⟨1, 8, false, [.int .u64 0], [0], 0, [], .int .u64, false⟩ := rfl
theorem base145 : T.baseOf 145 = Bs.int .u64 := rfl
theorem ty147 : T.ty 147 = some ⟨1, 24, false, [.nil], [3], 149, [], .other, false⟩ := rfl
theorem base147 : T.baseOf 147 = Bs.other := rfl
theorem elem147 : T.elemOf 147 = some ⟨3, 40, true, [.int .i64 0, .int .i64 0, .nil], [0, 0, 3], 0, [(0, 1, false), (1, 1, false), (2, 1, false)], .other, false⟩ := rfl
theorem ty149 : T.ty 149 = some ⟨3, 40, true, [.int .i64 0, .int .i64 0, .nil], [0, 0, 3], 0, [(0, 1, false), (1, 1, false), (2, 1, false)], .other, false⟩ := rfl
theorem base149 : T.baseOf 149 = Bs.other := rfl
attribute [go_sem] soft0 ty3 base3 ty4 base4 ty23 base23 ty31 base31 ty38 base38 elem38 ty40 base40 ty43 base43 elem43 ty45 base45 ty50 base50 ty53 base53 ty61 base61 elem61 ty62 base62 elem62 ty63 base63 elem63 ty65 base65 ty69 base69 elem69 ty70 base70 elem70 ty71 base71 elem71 ty73 base73 ty114 base114 ty129 base129 ty138 base138 ty140 base140 ty145 base145 ty147 base147 elem147 ty149 base149
theorem ok6 : FnOk Try.prog (6, i6) := ⟨Try.f6, _, Try.func6, rfl, by kernel_rfl, rfl, rfl, by kernel_rfl⟩
theorem ok13 : FnOk Try.prog (13, i13) := ⟨Try.f13, _, Try.func13, rfl, by kernel_rfl, rfl, rfl, by kernel_rfl⟩
theorem ok14 : FnOk Try.prog (14, i14) := ⟨Try.f14, _, Try.func14, rfl, by kernel_rfl, rfl, rfl, by kernel_rfl⟩
theorem ok15 : FnOk Try.prog (15, i15) := ⟨Try.f15, _, Try.func15, rfl, by kernel_rfl, rfl, rfl, by kernel_rfl⟩
theorem ok16 : FnOk Try.prog (16, i16) := ⟨Try.f16, _, Try.func16, rfl, by kernel_rfl, rfl, rfl, by kernel_rfl⟩
theorem ok17 : FnOk Try.prog (17, i17) := ⟨Try.f17, _, Try.func17, rfl, by kernel_rfl, rfl, rfl, by kernel_rfl⟩
theorem ok19 : FnOk Try.prog (19, i19) := ⟨Try.f19, _, Try.func19, rfl, by kernel_rfl, rfl, rfl, by kernel_rfl⟩
theorem ok23 : FnOk Try.prog (23, i23) := ⟨Try.f23, _, Try.func23, rfl, by kernel_rfl, rfl, rfl, by kernel_rfl⟩
theorem ok24 : FnOk Try.prog (24, i24) := ⟨Try.f24, _, Try.func24, rfl, by kernel_rfl, rfl, rfl, by kernel_rfl⟩
theorem ok25 : FnOk Try.prog (25, i25) := ⟨Try.f25, _, Try.func25, rfl, by kernel_rfl, rfl, rfl, by kernel_rfl⟩
theorem ok26 : FnOk Try.prog (26, i26) := ⟨Try.f26, _, Try.func26, rfl, by kernel_rfl, rfl, rfl, by kernel_rfl⟩
theorem ok27 : FnOk Try.prog (27, i27) := ⟨Try.f27, _, Try.func27, rfl, by kernel_rfl, rfl, rfl, by kernel_rfl⟩
theorem ok29 : FnOk Try.prog (29, i29) := ⟨Try.f29, _, Try.func29, rfl, by kernel_rfl, rfl, rfl, by kernel_rfl⟩
theorem ok31 : FnOk Try.prog (31, i31) := ⟨Try.f31, _, Try.func31, rfl, by kernel_rfl, rfl, rfl, by kernel_rfl⟩
theorem ok33 : FnOk Try.prog (33, i33) := ⟨Try.f33, _, Try.func33, rfl, by kernel_rfl, rfl, rfl, by kernel_rfl⟩
theorem ok35 : FnOk Try.prog (35, i35) := ⟨Try.f35, _, Try.func35, rfl, by kernel_rfl, rfl, rfl, by kernel_rfl⟩
theorem ok37 : FnOk Try.prog (37, i37) := ⟨Try.f37, _, Try.func37, rfl, by kernel_rfl, rfl, rfl, by kernel_rfl⟩
theorem ok39 : FnOk Try.prog (39, i39) := ⟨Try.f39, _, Try.func39, rfl, by kernel_rfl, rfl, rfl, by kernel_rfl⟩
theorem ok41 : FnOk Try.prog (41, i41) := ⟨Try.f41, _, Try.func41, rfl, by kernel_rfl, rfl, rfl, by kernel_rfl⟩
theorem ok42 : FnOk Try.prog (42, i42) := ⟨Try.f42, _, Try.func42, rfl, by kernel_rfl, rfl, rfl, by kernel_rfl⟩
theorem ok43 : FnOk Try.prog (43, i43) := ⟨Try.f43, _, Try.func43, rfl, by kernel_rfl, rfl, rfl, by kernel_rfl⟩
theorem ok44 : FnOk Try.prog (44, i44) := ⟨Try.f44, _, Try.func44, rfl, by kernel_rfl, rfl, rfl, by kernel_rfl⟩
theorem ok45 : FnOk Try.prog (45, i45) := ⟨Try.f45, _, Try.func45, rfl, by kernel_rfl, rfl, rfl, by kernel_rfl⟩
theorem ok46 : FnOk Try.prog (46, i46) := ⟨Try.f46, _, Try.func46, rfl, by kernel_rfl, rfl, rfl, by kernel_rfl⟩
theorem ok47 : FnOk Try.prog (47, i47) := ⟨Try.f47, _, Try.func47, rfl, by kernel_rfl, rfl, rfl, by kernel_rfl⟩
theorem ok48 : FnOk Try.prog (48, i48) := ⟨Try.f48, _, Try.func48, rfl, by kernel_rfl, rfl, rfl, by kernel_rfl⟩
theorem ok50 : FnOk Try.prog (50, i50) := ⟨Try.f50, _, Try.func50, rfl, by kernel_rfl, rfl, rfl, by kernel_rfl⟩
theorem ok54 : FnOk Try.prog (54, i54) := ⟨Try.f54, _, Try.func54, rfl, by kernel_rfl, rfl, rfl, by kernel_rfl⟩
theorem ok55 : FnOk Try.prog (55, i55) := ⟨Try.f55, _, Try.func55, rfl, by kernel_rfl, rfl, rfl, by kernel_rfl⟩
theorem ok56 : FnOk Try.prog (56, i56) := ⟨Try.f56, _, Try.func56, rfl, by kernel_rfl, rfl, rfl, by kernel_rfl⟩
theorem ok57 : FnOk Try.prog (57, i57) := ⟨Try.f57, _, Try.func57, rfl, by kernel_rfl, rfl, rfl, by kernel_rfl⟩
theorem ok58 : FnOk Try.prog (58, i58) := ⟨Try.f58, _, Try.func58, rfl, by kernel_rfl, rfl, rfl, by kernel_rfl⟩
theorem ok59 : FnOk Try.prog (59, i59) := ⟨Try.f59, _, Try.func59, rfl, by kernel_rfl, rfl, rfl, by kernel_rfl⟩
theorem ok60 : FnOk Try.prog (60, i60) := ⟨Try.f60, _, Try.func60, rfl, by kernel_rfl, rfl, rfl, by kernel_rfl⟩
theorem ok61 : FnOk Try.prog (61, i61) := ⟨Try.f61, _, Try.func61, rfl, by kernel_rfl, rfl, rfl, by kernel_rfl⟩
theorem ok63 : FnOk Try.prog (63, i63) := ⟨Try.f63, _, Try.func63, rfl, by kernel_rfl, rfl, rfl, by kernel_rfl⟩
theorem ok64 : FnOk Try.prog (64, i64) := ⟨Try.f64, _, Try.func64, rfl, by kernel_rfl, rfl, rfl, by kernel_rfl⟩
theorem ok65 : FnOk Try.prog (65, i65) := ⟨Try.f65, _, Try.func65, rfl, by kernel_rfl, rfl, rfl, by kernel_rfl⟩
theorem ok67 : FnOk Try.prog (67, i67) := ⟨Try.f67, _, Try.func67, rfl, by kernel_rfl, rfl, rfl, by kernel_rfl⟩
theorem ok68 : FnOk Try.prog (68, i68) := ⟨Try.f68, _, Try.func68, rfl, by kernel_rfl, rfl, rfl, by kernel_rfl⟩
theorem ok69 : FnOk Try.prog (69, i69) := ⟨Try.f69, _, Try.func69, rfl, by kernel_rfl, rfl, rfl, by kernel_rfl⟩
theorem ok71 : FnOk Try.prog (71, i71) := ⟨Try.f71, _, Try.func71, rfl, by kernel_rfl, rfl, rfl, by kernel_rfl⟩
theorem ok72 : FnOk Try.prog (72, i72) := ⟨Try.f72, _, Try.func72, rfl, by kernel_rfl, rfl, rfl, by kernel_rfl⟩
theorem ok73 : FnOk Try.prog (73, i73) := ⟨Try.f73, _, Try.func73, rfl, by kernel_rfl, rfl, rfl, by kernel_rfl⟩
theorem ok75 : FnOk Try.prog (75, i75) := ⟨Try.f75, _, Try.func75, rfl, by kernel_rfl, rfl, rfl, by kernel_rfl⟩
theorem ok76 : FnOk Try.prog (76, i76) := ⟨Try.f76, _, Try.func76, rfl, by kernel_rfl, rfl, rfl, by kernel_rfl⟩
theorem ok77 : FnOk Try.prog (77, i77) := ⟨Try.f77, _, Try.func77, rfl, by kernel_rfl, rfl, rfl, by kernel_rfl⟩
theorem ok79 : FnOk Try.prog (79, i79) := ⟨Try.f79, _, Try.func79, rfl, by kernel_rfl, rfl, rfl, by kernel_rfl⟩
theorem ok82 : FnOk Try.prog (82, i82) := ⟨Try.f82, _, Try.func82, rfl, by kernel_rfl, rfl, rfl, by kernel_rfl⟩
theorem ok83 : FnOk Try.prog (83, i83) := ⟨Try.f83, _, Try.func83, rfl, by kernel_rfl, rfl, rfl, by kernel_rfl⟩
theorem ok84 : FnOk Try.prog (84, i84) := ⟨Try.f84, _, Try.func84, rfl, by kernel_rfl, rfl, rfl, by kernel_rfl⟩
theorem ok85 : FnOk Try.prog (85, i85) := ⟨Try.f85, _, Try.func85, rfl, by kernel_rfl, rfl, rfl, by kernel_rfl⟩
theorem ok86 : FnOk Try.prog (86, i86) := ⟨Try.f86, _, Try.func86, rfl, by kernel_rfl, rfl, rfl, by kernel_rfl⟩
theorem ok87 : FnOk Try.prog (87, i87) := ⟨Try.f87, _, Try.func87, rfl, by kernel_rfl, rfl, rfl, by kernel_rfl⟩
theorem ok88 : FnOk Try.prog (88, i88) := ⟨Try.f88, _, Try.func88, rfl, by kernel_rfl, rfl, rfl, by kernel_rfl⟩
theorem ok91 : FnOk Try.prog (91, i91) := ⟨Try.f91, _, Try.func91, rfl, by kernel_rfl, rfl, rfl, by kernel_rfl⟩
theorem ok99 : FnOk Try.prog (99, i99) := ⟨Try.f99, _, Try.func99, rfl, by kernel_rfl, rfl, rfl, by kernel_rfl⟩
theorem ok100 : FnOk Try.prog (100, i100) := ⟨Try.f100, _, Try.func100, rfl, by kernel_rfl, rfl, rfl, by kernel_rfl⟩
theorem ok101 : FnOk Try.prog (101, i101) := ⟨Try.f101, _, Try.func101, rfl, by kernel_rfl, rfl, rfl, by kernel_rfl⟩
theorem ok102 : FnOk Try.prog (102, i102) := ⟨Try.f102, _, Try.func102, rfl, by kernel_rfl, rfl, rfl, by kernel_rfl⟩
theorem ok103 : FnOk Try.prog (103, i103) := ⟨Try.f103, _, Try.func103, rfl, by kernel_rfl, rfl, rfl, by kernel_rfl⟩
theorem ok104 : FnOk Try.prog (104, i104) := ⟨Try.f104, _, Try.func104, rfl, by kernel_rfl, rfl, rfl, by kernel_rfl⟩
theorem ok105 : FnOk Try.prog (105, i105) := ⟨Try.f105, _, Try.func105, rfl, by kernel_rfl, rfl, rfl, by kernel_rfl⟩
theorem ok106 : FnOk Try.prog (106, i106) := ⟨Try.f106, _, Try.func106, rfl, by kernel_rfl, rfl, rfl, by kernel_rfl⟩
theorem ok107 : FnOk Try.prog (107, i107) := ⟨Try.f107, _, Try.func107, rfl, by kernel_rfl, rfl, rfl, by kernel_rfl⟩
theorem ok111 : FnOk Try.prog (111, i111) := ⟨Try.f111, _, Try.func111, rfl, by kernel_rfl, rfl, rfl, by kernel_rfl⟩
theorem ok112 : FnOk Try.prog (112, i112) := ⟨Try.f112, _, Try.func112, rfl, by kernel_rfl, rfl, rfl, by kernel_rfl⟩
theorem ok117 : FnOk Try.prog (117, i117) := ⟨Try.f117, _, Try.func117, rfl, by kernel_rfl, rfl, rfl, by kernel_rfl⟩
theorem ok118 : FnOk Try.prog (118, i118) := ⟨Try.f118, _, Try.func118, rfl, by kernel_rfl, rfl, rfl, by kernel_rfl⟩
theorem ok119 : FnOk Try.prog (119, i119) := ⟨Try.f119, _, Try.func119, rfl, by kernel_rfl, rfl, rfl, by kernel_rfl⟩
theorem ok122 : FnOk Try.prog (122, i122) := ⟨Try.f122, _, Try.func122, rfl, by kernel_rfl, rfl, rfl, by kernel_rfl⟩
theorem ok123 : FnOk Try.prog (123, i123) := ⟨Try.f123, _, Try.func123, rfl, by kernel_rfl, rfl, rfl, by kernel_rfl⟩
theorem ok124 : FnOk Try.prog (124, i124) := ⟨Try.f124, _, Try.func124, rfl, by kernel_rfl, rfl, rfl, by kernel_rfl⟩
theorem ok125 : FnOk Try.prog (125, i125) := ⟨Try.f125, _, Try.func125, rfl, by kernel_rfl, rfl, rfl, by kernel_rfl⟩
theorem ok126 : FnOk Try.prog (126, i126) := ⟨Try.f126, _, Try.func126, rfl, by kernel_rfl, rfl, rfl, by kernel_rfl⟩
theorem ok127 : FnOk Try.prog (127, i127) := ⟨Try.f127, _, Try.func127, rfl, by kernel_rfl, rfl, rfl, by kernel_rfl⟩
theorem ok143 : FnOk Try.prog (143, i143) := ⟨Try.f143, _, Try.func143, rfl, by kernel_rfl, rfl, rfl, by kernel_rfl⟩
theorem ok144 : FnOk Try.prog (144, i144) := ⟨Try.f144, _, Try.func144, rfl, by kernel_rfl, rfl, rfl, by kernel_rfl⟩
theorem ok145 : FnOk Try.prog (145, i145) := ⟨Try.f145, _, Try.func145, rfl, by kernel_rfl, rfl, rfl, by kernel_rfl⟩
theorem ok154 : FnOk Try.prog (154, i154) := ⟨Try.f154, _, Try.func154, rfl, by kernel_rfl, rfl, rfl, by kernel_rfl⟩
theorem tab : TabOk Try.prog T := tabOk_of (by kernel_rfl) (.cons ok6 (.cons ok13 (.cons ok14 (.cons ok15 (.cons ok16 (.cons ok17 (.cons ok19 (.cons ok23 (.cons ok24 (.cons ok25 (.cons ok26 (.cons ok27 (.cons ok29 (.cons ok31 (.cons ok33 (.cons ok35 (.cons ok37 (.cons ok39 (.cons ok41 (.cons ok42 (.cons ok43 (.cons ok44 (.cons ok45 (.cons ok46 (.cons ok47 (.cons ok48 (.cons ok50 (.cons ok54 (.cons ok55 (.cons ok56 (.cons ok57 (.cons ok58 (.cons ok59 (.cons ok60 (.cons ok61 (.cons ok63 (.cons ok64 (.cons ok65 (.cons ok67 (.cons ok68 (.cons ok69 (.cons ok71 (.cons ok72 (.cons ok73 (.cons ok75 (.cons ok76 (.cons ok77 (.cons ok79 (.cons ok82 (.cons ok83 (.cons ok84 (.cons ok85 (.cons ok86 (.cons ok87 (.cons ok88 (.cons ok91 (.cons ok99 (.cons ok100 (.cons ok101 (.cons ok102 (.cons ok103 (.cons ok104 (.cons ok105 (.cons ok106 (.cons ok107 (.cons ok111 (.cons ok112 (.cons ok117 (.cons ok118 (.cons ok119 (.cons ok122 (.cons ok123 (.cons ok124 (.cons ok125 (.cons ok126 (.cons ok127 (.cons ok143 (.cons ok144 (.cons ok145 (.cons ok154 (.nil)))))))))))))))))))))))))))))))))))))))))))))))))))))))))))))))))))))))))))))))))
theorem fn6 : T.fn 6 = some i6 := rfl
theorem fn13 : T.fn 13 = some i13 := rfl
theorem fn14 : T.fn 14 = some i14 := rfl
theorem fn15 : T.fn 15 = some i15 := rfl
theorem fn16 : T.fn 16 = some i16 := rfl
theorem fn17 : T.fn 17 = some i17 := rfl
theorem fn19 : T.fn 19 = some i19 := rfl
theorem fn23 : T.fn 23 = some i23 := rfl
theorem fn24 : T.fn 24 = some i24 := rfl
theorem fn25 : T.fn 25 = some i25 := rfl
theorem fn26 : T.fn 26 = some i26 := rfl
theorem fn27 : T.fn 27 = some i27 := rfl
theorem fn29 : T.fn 29 = some i29 := rfl
theorem fn31 : T.fn 31 = some i31 := rfl
theorem fn33 : T.fn 33 = some i33 := rfl
theorem fn35 : T.fn 35 = some i35 := rfl
theorem fn37 : T.fn 37 = some i37 := rfl
theorem fn39 : T.fn 39 = some i39 := rfl
theorem fn41 : T.fn 41 = some i41 := rfl
theorem fn42 : T.fn 42 = some i42 := rfl
theorem fn43 : T.fn 43 = some i43 := rfl
theorem fn44 : T.fn 44 = some i44 := rfl
theorem fn45 : T.fn 45 = some i45 := rfl
theorem fn46 : T.fn 46 = some i46 := rfl
theorem fn47 : T.fn 47 = some i47 := rfl
theorem fn48 : T.fn 48 = some i48 := rfl
theorem fn50 : T.fn 50 = some i50 := rfl
theorem fn54 : T.fn 54 = some i54 := rfl
theorem fn55 : T.fn 55 = some i55 := rfl
theorem fn56 : T.fn 56 = some i56 := rfl
theorem fn57 : T.fn 57 = some i57 := rfl
theorem fn58 : T.fn 58 = some i58 := rfl
theorem fn59 : T.fn 59 = some i59 := rfl
theorem fn60 : T.fn 60 = some i60 := rfl
theorem fn61 : T.fn 61 = some i61 := rfl
theorem fn63 : T.fn 63 = some i63 := rfl
theorem fn64 : T.fn 64 = some i64 := rfl
theorem fn65 : T.fn 65 = some i65 := rfl
theorem fn67 : T.fn 67 = some i67 := rfl
theorem fn68 : T.fn 68 = some i68 := rfl
theorem fn69 : T.fn 69 = some i69 := rfl
theorem fn71 : T.fn 71 = some i71 := rfl
theorem fn72 : T.fn 72 = some i72 := rfl
theorem fn73 : T.fn 73 = some i73 := rfl
theorem fn75 : T.fn 75 = some i75 := rfl
theorem fn76 : T.fn 76 = some i76 := rfl
theorem fn77 : T.fn 77 = some i77 := rfl
theorem fn79 : T.fn 79 = some i79 := rfl
theorem fn82 : T.fn 82 = some i82 := rfl
theorem fn83 : T.fn 83 = some i83 := rfl
theorem fn84 : T.fn 84 = some i84 := rfl
theorem fn85 : T.fn 85 = some i85 := rfl
theorem fn86 : T.fn 86 = some i86 := rfl
theorem fn87 : T.fn 87 = some i87 := rfl
theorem fn88 : T.fn 88 = some i88 := rfl
theorem fn91 : T.fn 91 = some i91 := rfl
theorem fn99 : T.fn 99 = some i99 := rfl
theorem fn100 : T.fn 100 = some i100 := rfl
theorem fn101 : T.fn 101 = some i101 := rfl
theorem fn102 : T.fn 102 = some i102 := rfl
theorem fn103 : T.fn 103 = some i103 := rfl
theorem fn104 : T.fn 104 = some i104 := rfl
theorem fn105 : T.fn 105 = some i105 := rfl
theorem fn106 : T.fn 106 = some i106 := rfl
theorem fn107 : T.fn 107 = some i107 := rfl
theorem fn111 : T.fn 111 = some i111 := rfl
theorem fn112 : T.fn 112 = some i112 := rfl
theorem fn117 : T.fn 117 = some i117 := rfl
theorem fn118 : T.fn 118 = some i118 := rfl
theorem fn119 : T.fn 119 = some i119 := rfl
theorem fn122 : T.fn 122 = some i122 := rfl
theorem fn123 : T.fn 123 = some i123 := rfl
theorem fn124 : T.fn 124 = some i124 := rfl
theorem fn125 : T.fn 125 = some i125 := rfl
theorem fn126 : T.fn 126 = some i126 := rfl
theorem fn127 : T.fn 127 = some i127 := rfl
theorem fn143 : T.fn 143 = some i143 := rfl
theorem fn144 : T.fn 144 = some i144 := rfl
theorem fn145 : T.fn 145 = some i145 := rfl
theorem fn154 : T.fn 154 = some i154 := rfl
theorem fns6 : (T.at true).fn 6 = some i6 := rfl
theorem fns13 : (T.at true).fn 13 = some i13 := rfl
theorem fns14 : (T.at true).fn 14 = some i14 := rfl
theorem fns15 : (T.at true).fn 15 = some i15 := rfl
theorem fns16 : (T.at true).fn 16 = some i16 := rfl
theorem fns17 : (T.at true).fn 17 = some i17 := rfl
theorem fns19 : (T.at true).fn 19 = some i19 := rfl
theorem fns23 : (T.at true).fn 23 = some i23 := rfl
theorem fns24 : (T.at true).fn 24 = some i24 := rfl
theorem fns25 : (T.at true).fn 25 = some i25 := rfl
theorem fns26 : (T.at true).fn 26 = some i26 := rfl
theorem fns27 : (T.at true).fn 27 = some i27 := rfl
theorem fns29 : (T.at true).fn 29 = some i29 := rfl
theorem fns31 : (T.at true).fn 31 = some i31 := rfl
theorem fns33 : (T.at true).fn 33 = some i33 := rfl
theorem fns35 : (T.at true).fn 35 = some i35 := rfl
theorem fns37 : (T.at true).fn 37 = some i37 := rfl
theorem fns39 : (T.at true).fn 39 = some i39 := rfl
theorem fns41 : (T.at true).fn 41 = some i41 := rfl
theorem fns42 : (T.at true).fn 42 = some i42 := rfl
theorem fns43 : (T.at true).fn 43 = some i43 := rfl
theorem fns44 : (T.at true).fn 44 = some i44 := rfl
theorem fns45 : (T.at true).fn 45 = some i45 := rfl
theorem fns46 : (T.at true).fn 46 = some i46 := rfl
theorem fns47 : (T.at true).fn 47 = some i47 := rfl
theorem fns48 : (T.at true).fn 48 = some i48 := rfl
theorem fns50 : (T.at true).fn 50 = some i50 := rfl
theorem fns54 : (T.at true).fn 54 = some i54 := rfl
theorem fns55 : (T.at true).fn 55 = some i55 := rfl
theorem fns56 : (T.at true).fn 56 = some i56 := rfl
theorem fns57 : (T.at true).fn 57 = some i57 := rfl
theorem fns58 : (T.at true).fn 58 = some i58 := rfl
theorem fns59 : (T.at true).fn 59 = some i59 := rfl
theorem fns60 : (T.at true).fn 60 = some i60 := rfl
theorem fns61 : (T.at true).fn 61 = some i61 := rfl
theorem fns63 : (T.at true).fn 63 = some i63 := rfl
theorem fns64 : (T.at true).fn 64 = some i64 := rfl
theorem fns65 : (T.at true).fn 65 = some i65 := rfl
theorem fns67 : (T.at true).fn 67 = some i67 := rfl
theorem fns68 : (T.at true).fn 68 = some i68 := rfl
theorem fns69 : (T.at true).fn 69 = some i69 := rfl
theorem fns71 : (T.at true).fn 71 = some i71 := rfl
theorem fns72 : (T.at true).fn 72 = some i72 := rfl
theorem fns73 : (T.at true).fn 73 = some i73 := rfl
theorem fns75 : (T.at true).fn 75 = some i75 := rfl
theorem fns76 : (T.at true).fn 76 = some i76 := rfl
theorem fns77 : (T.at true).fn 77 = some i77 := rfl
theorem fns79 : (T.at true).fn 79 = some i79 := rfl
theorem fns82 : (T.at true).fn 82 = some i82 := rfl
theorem fns83 : (T.at true).fn 83 = some i83 := rfl
theorem fns84 : (T.at true).fn 84 = some i84 := rfl
theorem fns85 : (T.at true).fn 85 = some i85 := rfl
theorem fns86 : (T.at true).fn 86 = some i86 := rfl
theorem fns87 : (T.at true).fn 87 = some i87 := rfl
theorem fns88 : (T.at true).fn 88 = some i88 := rfl
theorem fns91 : (T.at true).fn 91 = some i91 := rfl
theorem fns99 : (T.at true).fn 99 = some i99 := rfl
theorem fns100 : (T.at true).fn 100 = some i100 := rfl
theorem fns101 : (T.at true).fn 101 = some i101 := rfl
theorem fns102 : (T.at true).fn 102 = some i102 := rfl
theorem fns103 : (T.at true).fn 103 = some i103 := rfl
theorem fns104 : (T.at true).fn 104 = some i104 := rfl
theorem fns105 : (T.at true).fn 105 = some i105 := rfl
theorem fns106 : (T.at true).fn 106 = some i106 := rfl
theorem fns107 : (T.at true).fn 107 = some i107 := rfl
theorem fns111 : (T.at true).fn 111 = some i111 := rfl
theorem fns112 : (T.at true).fn 112 = some i112 := rfl
theorem fns117 : (T.at true).fn 117 = some i117 := rfl
theorem fns118 : (T.at true).fn 118 = some i118 := rfl
theorem fns119 : (T.at true).fn 119 = some i119 := rfl
theorem fns122 : (T.at true).fn 122 = some i122 := rfl
theorem fns123 : (T.at true).fn 123 = some i123 := rfl
theorem fns124 : (T.at true).fn 124 = some i124 := rfl
theorem fns125 : (T.at true).fn 125 = some i125 := rfl
theorem fns126 : (T.at true).fn 126 = some i126 := rfl
theorem fns127 : (T.at true).fn 127 = some i127 := rfl
theorem fns143 : (T.at true).fn 143 = some i143 := rfl
theorem fns144 : (T.at true).fn 144 = some i144 := rfl
theorem fns145 : (T.at true).fn 145 = some i145 := rfl
theorem fns154 : (T.at true).fn 154 = some i154 := rfl
end Go.Pi.Ythidbgihjhkjaaa.ThenPolicy
