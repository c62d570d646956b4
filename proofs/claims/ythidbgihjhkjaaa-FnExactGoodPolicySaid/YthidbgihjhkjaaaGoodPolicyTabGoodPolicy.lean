/- What functions of the program answer, and that the law answers true at every input; no condition -/
import Derived.Test.YthidbgihjhkjaaaProg
import Derived.Test.YthidbgihjhkjaaaPiD
import Derived.Test.YthidbgihjhkjaaaPiC
set_option linter.all false
/- The program's tables for Pi: types and functions, as they stand in the loaded program, with hints. -/
namespace Go.Pi.Ythidbgihjhkjaaa.GoodPolicy
open Go Go.Proofs Go.Pi
set_option maxRecDepth 100000

-- loop.example/g00344/laws.szRangeS
def r59_0 : List PO := [⟨(some 4), (Op.assign (Operand.const (Value.int IntKind.i64 0))), none⟩]
attribute [go_sem] r59_0
def r59_1 : List PO := [⟨(some 5), (Op.move (Operand.tmp 1)), none⟩,
  ⟨(some 6), (Op.move (Operand.tmp 0)), none⟩,
  ⟨(some 7), (Op.call { callee := (Callee.builtin Builtin.len), args := #[(Operand.tmp 6)], argTypes := #[61] }), none⟩,
  ⟨(some 8), (Op.binOp BinOp.sub 3 (Operand.tmp 5) (Operand.tmp 7) 3), none⟩,
  ⟨(some 1), (Op.assign (Operand.tmp 8)), none⟩]
attribute [go_sem] r59_1
def r59_2 : List PO := [⟨(some 9), (Op.move (Operand.tmp 1)), none⟩,
  ⟨(some 10), (Op.binOp BinOp.lss 3 (Operand.tmp 9) (Operand.const (Value.int IntKind.i64 0)) 3), none⟩]
attribute [go_sem] r59_2
def r59_3 : List PO := [⟨(some 4), (Op.assign (Operand.const (Value.int IntKind.i64 (-1)))), none⟩]
attribute [go_sem] r59_3
def r59_4 : List PO := [⟨(some 11), (Op.move (Operand.tmp 1)), none⟩,
  ⟨(some 4), (Op.assign (Operand.tmp 11)), none⟩]
attribute [go_sem] r59_4
def c59 : PC := (.seq (.reg r59_0) (.seq (.reg r59_1) (.seq (.seq (.reg r59_2) (.cond (Operand.tmp 10) (.seq (.reg r59_3) .ret) .skip)) (.seq (.reg r59_4) .ret))))
def i59 : FnI := ⟨12, [(ResultVar.tmp 4)], c59, 0, [[4], [0]], [[0]], false, false, 0⟩
-- loop.example/g00344/laws.szReCellS
def r60_0 : List PO := [⟨(some 4), (Op.assign (Operand.const (Value.int IntKind.i64 0))), none⟩]
attribute [go_sem] r60_0
def r60_1 : List PO := [⟨(some 5), (Op.move (Operand.tmp 1)), none⟩,
  ⟨(some 6), (Op.move (Operand.tmp 0)), none⟩,
  ⟨(some 7), (Op.call { callee := (Callee.builtin Builtin.len), args := #[(Operand.tmp 6)], argTypes := #[62] }), none⟩,
  ⟨(some 8), (Op.binOp BinOp.sub 3 (Operand.tmp 5) (Operand.tmp 7) 3), none⟩,
  ⟨(some 1), (Op.assign (Operand.tmp 8)), none⟩]
attribute [go_sem] r60_1
def r60_2 : List PO := [⟨(some 9), (Op.move (Operand.tmp 1)), none⟩,
  ⟨(some 10), (Op.binOp BinOp.lss 3 (Operand.tmp 9) (Operand.const (Value.int IntKind.i64 0)) 3), none⟩]
attribute [go_sem] r60_2
def r60_3 : List PO := [⟨(some 4), (Op.assign (Operand.const (Value.int IntKind.i64 (-1)))), none⟩]
attribute [go_sem] r60_3
def r60_4 : List PO := [⟨(some 11), (Op.move (Operand.tmp 1)), none⟩,
  ⟨(some 4), (Op.assign (Operand.tmp 11)), none⟩]
attribute [go_sem] r60_4
def c60 : PC := (.seq (.reg r60_0) (.seq (.reg r60_1) (.seq (.seq (.reg r60_2) (.cond (Operand.tmp 10) (.seq (.reg r60_3) .ret) .skip)) (.seq (.reg r60_4) .ret))))
def i60 : FnI := ⟨12, [(ResultVar.tmp 4)], c60, 0, [[2], [0]], [[0]], false, false, 0⟩
-- loop.example/g00344/laws.szActS
def r61_0 : List PO := [⟨(some 4), (Op.assign (Operand.const (Value.int IntKind.i64 0))), none⟩]
attribute [go_sem] r61_0
def r61_1 : List PO := [⟨(some 5), (Op.move (Operand.tmp 1)), none⟩,
  ⟨(some 6), (Op.move (Operand.tmp 0)), none⟩,
  ⟨(some 7), (Op.call { callee := (Callee.builtin Builtin.len), args := #[(Operand.tmp 6)], argTypes := #[63] }), none⟩,
  ⟨(some 8), (Op.binOp BinOp.sub 3 (Operand.tmp 5) (Operand.tmp 7) 3), none⟩,
  ⟨(some 1), (Op.assign (Operand.tmp 8)), none⟩]
attribute [go_sem] r61_1
def r61_2 : List PO := [⟨(some 9), (Op.move (Operand.tmp 1)), none⟩,
  ⟨(some 10), (Op.binOp BinOp.lss 3 (Operand.tmp 9) (Operand.const (Value.int IntKind.i64 0)) 3), none⟩]
attribute [go_sem] r61_2
def r61_3 : List PO := [⟨(some 4), (Op.assign (Operand.const (Value.int IntKind.i64 (-1)))), none⟩]
attribute [go_sem] r61_3
def r61_4 : List PO := [⟨(some 11), (Op.move (Operand.tmp 1)), none⟩,
  ⟨(some 4), (Op.assign (Operand.tmp 11)), none⟩]
attribute [go_sem] r61_4
def c61 : PC := (.seq (.reg r61_0) (.seq (.reg r61_1) (.seq (.seq (.reg r61_2) (.cond (Operand.tmp 10) (.seq (.reg r61_3) .ret) .skip)) (.seq (.reg r61_4) .ret))))
def i61 : FnI := ⟨12, [(ResultVar.tmp 4)], c61, 0, [[2], [0]], [[0]], false, false, 0⟩
-- loop.example/g00344/laws.szTerm
def r27_0 : List PO := [⟨(some 2), (Op.box 65 (Operand.tmp 0)), none⟩,
  ⟨(some 4), (Op.assign (Operand.const (Value.int IntKind.i64 0))), none⟩]
attribute [go_sem] r27_0
def r27_1 : List PO := [⟨(some 5), (Op.fieldAddr 65 (Operand.tmp 2) 0), none⟩,
  ⟨(some 6), (Op.load 61 (Operand.tmp 5)), none⟩,
  ⟨(some 7), (Op.move (Operand.tmp 1)), none⟩,
  ⟨(some 8), (Op.call { callee := (Callee.value (Operand.func 59)), args := #[(Operand.tmp 6), (Operand.tmp 7)], argTypes := #[61, 3] }), none⟩,
  ⟨(some 1), (Op.assign (Operand.tmp 8)), none⟩]
attribute [go_sem] r27_1
def r27_2 : List PO := [⟨(some 9), (Op.move (Operand.tmp 1)), none⟩,
  ⟨(some 10), (Op.binOp BinOp.lss 3 (Operand.tmp 9) (Operand.const (Value.int IntKind.i64 0)) 3), none⟩]
attribute [go_sem] r27_2
def r27_3 : List PO := [⟨(some 4), (Op.assign (Operand.const (Value.int IntKind.i64 (-1)))), none⟩]
attribute [go_sem] r27_3
def r27_4 : List PO := [⟨(some 11), (Op.fieldAddr 65 (Operand.tmp 2) 1), none⟩,
  ⟨(some 12), (Op.load 62 (Operand.tmp 11)), none⟩,
  ⟨(some 13), (Op.move (Operand.tmp 1)), none⟩,
  ⟨(some 14), (Op.call { callee := (Callee.value (Operand.func 60)), args := #[(Operand.tmp 12), (Operand.tmp 13)], argTypes := #[62, 3] }), none⟩,
  ⟨(some 1), (Op.assign (Operand.tmp 14)), none⟩]
attribute [go_sem] r27_4
def r27_5 : List PO := [⟨(some 15), (Op.move (Operand.tmp 1)), none⟩,
  ⟨(some 16), (Op.binOp BinOp.lss 3 (Operand.tmp 15) (Operand.const (Value.int IntKind.i64 0)) 3), none⟩]
attribute [go_sem] r27_5
def r27_6 : List PO := [⟨(some 4), (Op.assign (Operand.const (Value.int IntKind.i64 (-1)))), none⟩]
attribute [go_sem] r27_6
def r27_7 : List PO := [⟨(some 17), (Op.fieldAddr 65 (Operand.tmp 2) 3), none⟩,
  ⟨(some 18), (Op.load 63 (Operand.tmp 17)), none⟩,
  ⟨(some 19), (Op.move (Operand.tmp 1)), none⟩,
  ⟨(some 20), (Op.call { callee := (Callee.value (Operand.func 61)), args := #[(Operand.tmp 18), (Operand.tmp 19)], argTypes := #[63, 3] }), none⟩,
  ⟨(some 1), (Op.assign (Operand.tmp 20)), none⟩]
attribute [go_sem] r27_7
def r27_8 : List PO := [⟨(some 21), (Op.move (Operand.tmp 1)), none⟩,
  ⟨(some 22), (Op.binOp BinOp.lss 3 (Operand.tmp 21) (Operand.const (Value.int IntKind.i64 0)) 3), none⟩]
attribute [go_sem] r27_8
def r27_9 : List PO := [⟨(some 4), (Op.assign (Operand.const (Value.int IntKind.i64 (-1)))), none⟩]
attribute [go_sem] r27_9
def r27_10 : List PO := [⟨(some 23), (Op.move (Operand.tmp 1)), none⟩,
  ⟨(some 4), (Op.assign (Operand.tmp 23)), none⟩]
attribute [go_sem] r27_10
def c27 : PC := (.seq (.reg r27_0) (.seq (.reg r27_1) (.seq (.seq (.reg r27_2) (.cond (Operand.tmp 10) (.seq (.reg r27_3) .ret) .skip)) (.seq (.reg r27_4) (.seq (.seq (.reg r27_5) (.cond (Operand.tmp 16) (.seq (.reg r27_6) .ret) .skip)) (.seq (.reg r27_7) (.seq (.seq (.reg r27_8) (.cond (Operand.tmp 22) (.seq (.reg r27_9) .ret) .skip)) (.seq (.reg r27_10) .ret))))))))
def i27 : FnI := ⟨24, [(ResultVar.tmp 4)], c27, 0, [[4, 2, 0, 2, 0], [0]], [[0]], false, false, 0⟩
-- loop.example/g00344/laws.szTermS
def r41_5 : List PO := [⟨(some 12), (Op.move (Operand.tmp 5)), none⟩,
  ⟨(some 13), (Op.move (Operand.tmp 0)), none⟩,
  ⟨(some 14), (Op.call { callee := (Callee.builtin Builtin.len), args := #[(Operand.tmp 13)], argTypes := #[38] }), none⟩,
  ⟨(some 15), (Op.binOp BinOp.lss 3 (Operand.tmp 12) (Operand.tmp 14) 3), none⟩]
attribute [go_sem] r41_5
def r41_7 : List PO := [⟨(some 18), (Op.move (Operand.tmp 0)), none⟩,
  ⟨(some 19), (Op.move (Operand.tmp 5)), none⟩,
  ⟨(some 20), (Op.indexAddr 38 (Operand.tmp 18) (Operand.tmp 19)), none⟩,
  ⟨(some 21), (Op.load 65 (Operand.tmp 20)), none⟩,
  ⟨(some 22), (Op.move (Operand.tmp 1)), none⟩,
  ⟨(some 23), (Op.call { callee := (Callee.value (Operand.func 27)), args := #[(Operand.tmp 21), (Operand.tmp 22)], argTypes := #[65, 3] }), none⟩,
  ⟨(some 1), (Op.assign (Operand.tmp 23)), none⟩]
attribute [go_sem] r41_7
def r41_8 : List PO := [⟨(some 24), (Op.move (Operand.tmp 1)), none⟩,
  ⟨(some 25), (Op.binOp BinOp.lss 3 (Operand.tmp 24) (Operand.const (Value.int IntKind.i64 0)) 3), none⟩]
attribute [go_sem] r41_8
def r41_9 : List PO := [⟨(some 4), (Op.assign (Operand.const (Value.int IntKind.i64 (-1)))), none⟩]
attribute [go_sem] r41_9
def r41_6 : List PO := [⟨(some 16), (Op.move (Operand.tmp 5)), none⟩,
  ⟨(some 17), (Op.binOp BinOp.add 3 (Operand.tmp 16) (Operand.const (Value.int IntKind.i64 1)) 3), none⟩,
  ⟨(some 5), (Op.assign (Operand.tmp 17)), none⟩]
attribute [go_sem] r41_6
def k41_1b : PC := (.seq (.seq (.reg r41_5) (.cond (Operand.tmp 15) .skip (.pre ⟨[1], [], []⟩ (.exit 0)))) (.seq (.block 1 (.seq (.reg r41_7) (.seq (.reg r41_8) (.cond (Operand.tmp 25) (.seq (.reg r41_9) (.pre ⟨[4], [], []⟩ .ret)) .skip)))) (.post (.reg r41_6) ⟨[0, 1, 5], [], []⟩)))
def r41_0 : List PO := [⟨(some 4), (Op.assign (Operand.const (Value.int IntKind.i64 0))), none⟩]
attribute [go_sem] r41_0
def r41_1 : List PO := [⟨(some 6), (Op.move (Operand.tmp 1)), none⟩,
  ⟨(some 7), (Op.move (Operand.tmp 0)), none⟩,
  ⟨(some 8), (Op.call { callee := (Callee.builtin Builtin.len), args := #[(Operand.tmp 7)], argTypes := #[38] }), none⟩,
  ⟨(some 9), (Op.binOp BinOp.sub 3 (Operand.tmp 6) (Operand.tmp 8) 3), none⟩,
  ⟨(some 1), (Op.assign (Operand.tmp 9)), none⟩]
attribute [go_sem] r41_1
def r41_2 : List PO := [⟨(some 10), (Op.move (Operand.tmp 1)), none⟩,
  ⟨(some 11), (Op.binOp BinOp.lss 3 (Operand.tmp 10) (Operand.const (Value.int IntKind.i64 0)) 3), none⟩]
attribute [go_sem] r41_2
def r41_3 : List PO := [⟨(some 4), (Op.assign (Operand.const (Value.int IntKind.i64 (-1)))), none⟩]
attribute [go_sem] r41_3
def r41_4 : List PO := [⟨(some 5), (Op.assign (Operand.const (Value.int IntKind.i64 0))), none⟩]
attribute [go_sem] r41_4
def r41_10 : List PO := [⟨(some 26), (Op.move (Operand.tmp 1)), none⟩,
  ⟨(some 4), (Op.assign (Operand.tmp 26)), none⟩]
attribute [go_sem] r41_10
def c41 : PC := (.seq (.reg r41_0) (.seq (.reg r41_1) (.seq (.seq (.reg r41_2) (.cond (Operand.tmp 11) (.seq (.reg r41_3) .ret) .skip)) (.seq (.seq (.reg r41_4) (.block 0 (.pre ⟨[0, 1, 5], [], []⟩ (.loop k41_1b)))) (.seq (.reg r41_10) .ret)))))
def i41 : FnI := ⟨27, [(ResultVar.tmp 4)], c41, 0, [[5], [0]], [[0]], false, false, 0⟩
-- loop.example/g00344/laws.szPolicy
def r13_0 : List PO := [⟨(some 2), (Op.box 40 (Operand.tmp 0)), none⟩,
  ⟨(some 4), (Op.assign (Operand.const (Value.int IntKind.i64 0))), none⟩]
attribute [go_sem] r13_0
def r13_1 : List PO := [⟨(some 5), (Op.fieldAddr 40 (Operand.tmp 2) 0), none⟩,
  ⟨(some 6), (Op.load 38 (Operand.tmp 5)), none⟩,
  ⟨(some 7), (Op.move (Operand.tmp 1)), none⟩,
  ⟨(some 8), (Op.call { callee := (Callee.value (Operand.func 41)), args := #[(Operand.tmp 6), (Operand.tmp 7)], argTypes := #[38, 3] }), none⟩,
  ⟨(some 1), (Op.assign (Operand.tmp 8)), none⟩]
attribute [go_sem] r13_1
def r13_2 : List PO := [⟨(some 9), (Op.move (Operand.tmp 1)), none⟩,
  ⟨(some 10), (Op.binOp BinOp.lss 3 (Operand.tmp 9) (Operand.const (Value.int IntKind.i64 0)) 3), none⟩]
attribute [go_sem] r13_2
def r13_3 : List PO := [⟨(some 4), (Op.assign (Operand.const (Value.int IntKind.i64 (-1)))), none⟩]
attribute [go_sem] r13_3
def r13_4 : List PO := [⟨(some 11), (Op.move (Operand.tmp 1)), none⟩,
  ⟨(some 4), (Op.assign (Operand.tmp 11)), none⟩]
attribute [go_sem] r13_4
def c13 : PC := (.seq (.reg r13_0) (.seq (.reg r13_1) (.seq (.seq (.reg r13_2) (.cond (Operand.tmp 10) (.seq (.reg r13_3) .ret) .skip)) (.seq (.reg r13_4) .ret))))
def i13 : FnI := ⟨12, [(ResultVar.tmp 4)], c13, 0, [[5, 0], [0]], [[0]], false, false, 0⟩
-- loop.example/g00344/laws.toPrefix
def r35_0 : List PO := [⟨(some 1), (Op.box 23 (Operand.tmp 0)), none⟩,
  ⟨(some 2), (Op.alloc 31), none⟩]
attribute [go_sem] r35_0
def r35_1 : List PO := [⟨(some 3), (Op.alloc 31), none⟩]
attribute [go_sem] r35_1
def r35_2 : List PO := [⟨(some 4), (Op.fieldAddr 23 (Operand.tmp 1) 0), none⟩,
  ⟨(some 5), (Op.load 3 (Operand.tmp 4)), none⟩,
  ⟨(some 6), (Op.fieldAddr 31 (Operand.tmp 3) 0), none⟩,
  ⟨none, (Op.store 3 (Operand.tmp 6) (Operand.tmp 5)), none⟩]
attribute [go_sem] r35_2
def r35_3 : List PO := [⟨(some 7), (Op.fieldAddr 23 (Operand.tmp 1) 1), none⟩,
  ⟨(some 8), (Op.load 3 (Operand.tmp 7)), none⟩,
  ⟨(some 9), (Op.fieldAddr 31 (Operand.tmp 3) 1), none⟩,
  ⟨none, (Op.store 3 (Operand.tmp 9) (Operand.tmp 8)), none⟩]
attribute [go_sem] r35_3
def r35_4 : List PO := [⟨(some 10), (Op.load 31 (Operand.tmp 3)), none⟩,
  ⟨none, (Op.store 31 (Operand.tmp 2) (Operand.tmp 10)), none⟩]
attribute [go_sem] r35_4
def c35 : PC := (.seq (.reg r35_0) (.seq (.reg r35_1) (.seq (.reg r35_2) (.seq (.reg r35_3) (.seq (.reg r35_4) .ret)))))
def i35 : FnI := ⟨11, [(ResultVar.cell 2 31)], c35, 0, [[0, 0]], [[0, 0]], false, false, 0⟩
-- loop.example/g00344/laws.toRange
def r111_0 : List PO := [⟨(some 1), (Op.box 138 (Operand.tmp 0)), none⟩,
  ⟨(some 2), (Op.alloc 114), none⟩]
attribute [go_sem] r111_0
def r111_1 : List PO := [⟨(some 3), (Op.alloc 114), none⟩]
attribute [go_sem] r111_1
def r111_2 : List PO := [⟨(some 4), (Op.fieldAddr 138 (Operand.tmp 1) 0), none⟩,
  ⟨(some 5), (Op.load 23 (Operand.tmp 4)), none⟩,
  ⟨(some 6), (Op.call { callee := (Callee.value (Operand.func 35)), args := #[(Operand.tmp 5)], argTypes := #[23] }), none⟩,
  ⟨(some 7), (Op.fieldAddr 114 (Operand.tmp 3) 0), none⟩,
  ⟨none, (Op.store 31 (Operand.tmp 7) (Operand.tmp 6)), none⟩]
attribute [go_sem] r111_2
def r111_3 : List PO := [⟨(some 8), (Op.fieldAddr 138 (Operand.tmp 1) 1), none⟩,
  ⟨(some 9), (Op.load 3 (Operand.tmp 8)), none⟩,
  ⟨(some 10), (Op.fieldAddr 114 (Operand.tmp 3) 1), none⟩,
  ⟨none, (Op.store 3 (Operand.tmp 10) (Operand.tmp 9)), none⟩]
attribute [go_sem] r111_3
def r111_4 : List PO := [⟨(some 11), (Op.fieldAddr 138 (Operand.tmp 1) 2), none⟩,
  ⟨(some 12), (Op.load 3 (Operand.tmp 11)), none⟩,
  ⟨(some 13), (Op.fieldAddr 114 (Operand.tmp 3) 2), none⟩,
  ⟨none, (Op.store 3 (Operand.tmp 13) (Operand.tmp 12)), none⟩]
attribute [go_sem] r111_4
def r111_5 : List PO := [⟨(some 14), (Op.load 114 (Operand.tmp 3)), none⟩,
  ⟨none, (Op.store 114 (Operand.tmp 2) (Operand.tmp 14)), none⟩]
attribute [go_sem] r111_5
def c111 : PC := (.seq (.reg r111_0) (.seq (.reg r111_1) (.seq (.reg r111_2) (.seq (.reg r111_3) (.seq (.reg r111_4) (.seq (.reg r111_5) .ret))))))
def i111 : FnI := ⟨15, [(ResultVar.cell 2 114)], c111, 0, [[0, 0, 0, 0]], [[0, 0, 0, 0]], false, false, 0⟩
-- loop.example/g00344/laws.toRangeS
def r63_3 : List PO := [⟨(some 8), (Op.move (Operand.tmp 4)), none⟩,
  ⟨(some 9), (Op.move (Operand.tmp 0)), none⟩,
  ⟨(some 10), (Op.call { callee := (Callee.builtin Builtin.len), args := #[(Operand.tmp 9)], argTypes := #[61] }), none⟩,
  ⟨(some 11), (Op.binOp BinOp.lss 3 (Operand.tmp 8) (Operand.tmp 10) 3), none⟩]
attribute [go_sem] r63_3
def r63_5 : List PO := [⟨(some 14), (Op.move (Operand.tmp 3)), none⟩,
  ⟨(some 15), (Op.move (Operand.tmp 4)), none⟩,
  ⟨(some 16), (Op.move (Operand.tmp 0)), none⟩,
  ⟨(some 17), (Op.move (Operand.tmp 4)), none⟩,
  ⟨(some 18), (Op.indexAddr 61 (Operand.tmp 16) (Operand.tmp 17)), none⟩,
  ⟨(some 19), (Op.load 138 (Operand.tmp 18)), none⟩,
  ⟨(some 20), (Op.call { callee := (Callee.value (Operand.func 111)), args := #[(Operand.tmp 19)], argTypes := #[138] }), none⟩,
  ⟨(some 21), (Op.indexAddr 69 (Operand.tmp 14) (Operand.tmp 15)), none⟩,
  ⟨none, (Op.store 114 (Operand.tmp 21) (Operand.tmp 20)), none⟩]
attribute [go_sem] r63_5
def r63_4 : List PO := [⟨(some 12), (Op.move (Operand.tmp 4)), none⟩,
  ⟨(some 13), (Op.binOp BinOp.add 3 (Operand.tmp 12) (Operand.const (Value.int IntKind.i64 1)) 3), none⟩,
  ⟨(some 4), (Op.assign (Operand.tmp 13)), none⟩]
attribute [go_sem] r63_4
def k63_1b : PC := (.seq (.seq (.reg r63_3) (.cond (Operand.tmp 11) .skip (.pre ⟨[3], [.old 0], []⟩ (.exit 0)))) (.seq (.block 1 (.reg r63_5)) (.post (.reg r63_4) ⟨[0, 3, 4], [.old 0], []⟩)))
def r63_0 : List PO := [⟨(some 2), (Op.assign (Operand.const (Value.slice none 0 0))), none⟩]
attribute [go_sem] r63_0
def r63_1 : List PO := [⟨(some 5), (Op.move (Operand.tmp 0)), none⟩,
  ⟨(some 6), (Op.call { callee := (Callee.builtin Builtin.len), args := #[(Operand.tmp 5)], argTypes := #[61] }), none⟩,
  ⟨(some 7), (Op.makeSlice 69 (Operand.tmp 6) (Operand.tmp 6)), none⟩,
  ⟨(some 3), (Op.assign (Operand.tmp 7)), none⟩]
attribute [go_sem] r63_1
def r63_2 : List PO := [⟨(some 4), (Op.assign (Operand.const (Value.int IntKind.i64 0))), none⟩]
attribute [go_sem] r63_2
def r63_6 : List PO := [⟨(some 22), (Op.move (Operand.tmp 3)), none⟩,
  ⟨(some 2), (Op.assign (Operand.tmp 22)), none⟩]
attribute [go_sem] r63_6
def c63 : PC := (.seq (.reg r63_0) (.seq (.reg r63_1) (.seq (.seq (.reg r63_2) (.block 0 (.pre ⟨[0, 3, 4], [.old 0], []⟩ (.loop k63_1b)))) (.seq (.reg r63_6) .ret))))
def i63 : FnI := ⟨23, [(ResultVar.tmp 2)], c63, 0, [[4]], [[4]], false, false, 0⟩
-- loop.example/g00344/laws.toReCell
def r112_0 : List PO := [⟨(some 1), (Op.box 140 (Operand.tmp 0)), none⟩,
  ⟨(some 2), (Op.alloc 129), none⟩]
attribute [go_sem] r112_0
def r112_1 : List PO := [⟨(some 3), (Op.alloc 129), none⟩]
attribute [go_sem] r112_1
def r112_2 : List PO := [⟨(some 4), (Op.fieldAddr 140 (Operand.tmp 1) 0), none⟩,
  ⟨(some 5), (Op.load 3 (Operand.tmp 4)), none⟩,
  ⟨(some 6), (Op.fieldAddr 129 (Operand.tmp 3) 0), none⟩,
  ⟨none, (Op.store 3 (Operand.tmp 6) (Operand.tmp 5)), none⟩]
attribute [go_sem] r112_2
def r112_3 : List PO := [⟨(some 7), (Op.fieldAddr 140 (Operand.tmp 1) 1), none⟩,
  ⟨(some 8), (Op.load 3 (Operand.tmp 7)), none⟩,
  ⟨(some 9), (Op.fieldAddr 129 (Operand.tmp 3) 1), none⟩,
  ⟨none, (Op.store 3 (Operand.tmp 9) (Operand.tmp 8)), none⟩]
attribute [go_sem] r112_3
def r112_4 : List PO := [⟨(some 10), (Op.load 129 (Operand.tmp 3)), none⟩,
  ⟨none, (Op.store 129 (Operand.tmp 2) (Operand.tmp 10)), none⟩]
attribute [go_sem] r112_4
def c112 : PC := (.seq (.reg r112_0) (.seq (.reg r112_1) (.seq (.reg r112_2) (.seq (.reg r112_3) (.seq (.reg r112_4) .ret)))))
def i112 : FnI := ⟨11, [(ResultVar.cell 2 129)], c112, 0, [[0, 0]], [[0, 0]], false, false, 0⟩
-- loop.example/g00344/laws.toReCellS
def r64_3 : List PO := [⟨(some 8), (Op.move (Operand.tmp 4)), none⟩,
  ⟨(some 9), (Op.move (Operand.tmp 0)), none⟩,
  ⟨(some 10), (Op.call { callee := (Callee.builtin Builtin.len), args := #[(Operand.tmp 9)], argTypes := #[62] }), none⟩,
  ⟨(some 11), (Op.binOp BinOp.lss 3 (Operand.tmp 8) (Operand.tmp 10) 3), none⟩]
attribute [go_sem] r64_3
def r64_5 : List PO := [⟨(some 14), (Op.move (Operand.tmp 3)), none⟩,
  ⟨(some 15), (Op.move (Operand.tmp 4)), none⟩,
  ⟨(some 16), (Op.move (Operand.tmp 0)), none⟩,
  ⟨(some 17), (Op.move (Operand.tmp 4)), none⟩,
  ⟨(some 18), (Op.indexAddr 62 (Operand.tmp 16) (Operand.tmp 17)), none⟩,
  ⟨(some 19), (Op.load 140 (Operand.tmp 18)), none⟩,
  ⟨(some 20), (Op.call { callee := (Callee.value (Operand.func 112)), args := #[(Operand.tmp 19)], argTypes := #[140] }), none⟩,
  ⟨(some 21), (Op.indexAddr 70 (Operand.tmp 14) (Operand.tmp 15)), none⟩,
  ⟨none, (Op.store 129 (Operand.tmp 21) (Operand.tmp 20)), none⟩]
attribute [go_sem] r64_5
def r64_4 : List PO := [⟨(some 12), (Op.move (Operand.tmp 4)), none⟩,
  ⟨(some 13), (Op.binOp BinOp.add 3 (Operand.tmp 12) (Operand.const (Value.int IntKind.i64 1)) 3), none⟩,
  ⟨(some 4), (Op.assign (Operand.tmp 13)), none⟩]
attribute [go_sem] r64_4
def k64_1b : PC := (.seq (.seq (.reg r64_3) (.cond (Operand.tmp 11) .skip (.pre ⟨[3], [.old 0], []⟩ (.exit 0)))) (.seq (.block 1 (.reg r64_5)) (.post (.reg r64_4) ⟨[0, 3, 4], [.old 0], []⟩)))
def r64_0 : List PO := [⟨(some 2), (Op.assign (Operand.const (Value.slice none 0 0))), none⟩]
attribute [go_sem] r64_0
def r64_1 : List PO := [⟨(some 5), (Op.move (Operand.tmp 0)), none⟩,
  ⟨(some 6), (Op.call { callee := (Callee.builtin Builtin.len), args := #[(Operand.tmp 5)], argTypes := #[62] }), none⟩,
  ⟨(some 7), (Op.makeSlice 70 (Operand.tmp 6) (Operand.tmp 6)), none⟩,
  ⟨(some 3), (Op.assign (Operand.tmp 7)), none⟩]
attribute [go_sem] r64_1
def r64_2 : List PO := [⟨(some 4), (Op.assign (Operand.const (Value.int IntKind.i64 0))), none⟩]
attribute [go_sem] r64_2
def r64_6 : List PO := [⟨(some 22), (Op.move (Operand.tmp 3)), none⟩,
  ⟨(some 2), (Op.assign (Operand.tmp 22)), none⟩]
attribute [go_sem] r64_6
def c64 : PC := (.seq (.reg r64_0) (.seq (.reg r64_1) (.seq (.seq (.reg r64_2) (.block 0 (.pre ⟨[0, 3, 4], [.old 0], []⟩ (.loop k64_1b)))) (.seq (.reg r64_6) .ret))))
def i64 : FnI := ⟨23, [(ResultVar.tmp 2)], c64, 0, [[2]], [[2]], false, false, 0⟩
-- loop.example/g00344/laws.toAct
def r19_0 : List PO := [⟨(some 1), (Op.box 50 (Operand.tmp 0)), none⟩,
  ⟨(some 2), (Op.alloc 53), none⟩]
attribute [go_sem] r19_0
def r19_1 : List PO := [⟨(some 3), (Op.alloc 53), none⟩]
attribute [go_sem] r19_1
def r19_2 : List PO := [⟨(some 4), (Op.fieldAddr 50 (Operand.tmp 1) 0), none⟩,
  ⟨(some 5), (Op.load 3 (Operand.tmp 4)), none⟩,
  ⟨(some 6), (Op.fieldAddr 53 (Operand.tmp 3) 0), none⟩,
  ⟨none, (Op.store 3 (Operand.tmp 6) (Operand.tmp 5)), none⟩]
attribute [go_sem] r19_2
def r19_3 : List PO := [⟨(some 7), (Op.fieldAddr 50 (Operand.tmp 1) 1), none⟩,
  ⟨(some 8), (Op.load 3 (Operand.tmp 7)), none⟩,
  ⟨(some 9), (Op.fieldAddr 53 (Operand.tmp 3) 1), none⟩,
  ⟨none, (Op.store 3 (Operand.tmp 9) (Operand.tmp 8)), none⟩]
attribute [go_sem] r19_3
def r19_4 : List PO := [⟨(some 10), (Op.load 53 (Operand.tmp 3)), none⟩,
  ⟨none, (Op.store 53 (Operand.tmp 2) (Operand.tmp 10)), none⟩]
attribute [go_sem] r19_4
def c19 : PC := (.seq (.reg r19_0) (.seq (.reg r19_1) (.seq (.reg r19_2) (.seq (.reg r19_3) (.seq (.reg r19_4) .ret)))))
def i19 : FnI := ⟨11, [(ResultVar.cell 2 53)], c19, 0, [[0, 0]], [[0, 0]], false, false, 0⟩
-- loop.example/g00344/laws.toActS
def r65_3 : List PO := [⟨(some 8), (Op.move (Operand.tmp 4)), none⟩,
  ⟨(some 9), (Op.move (Operand.tmp 0)), none⟩,
  ⟨(some 10), (Op.call { callee := (Callee.builtin Builtin.len), args := #[(Operand.tmp 9)], argTypes := #[63] }), none⟩,
  ⟨(some 11), (Op.binOp BinOp.lss 3 (Operand.tmp 8) (Operand.tmp 10) 3), none⟩]
attribute [go_sem] r65_3
def r65_5 : List PO := [⟨(some 14), (Op.move (Operand.tmp 3)), none⟩,
  ⟨(some 15), (Op.move (Operand.tmp 4)), none⟩,
  ⟨(some 16), (Op.move (Operand.tmp 0)), none⟩,
  ⟨(some 17), (Op.move (Operand.tmp 4)), none⟩,
  ⟨(some 18), (Op.indexAddr 63 (Operand.tmp 16) (Operand.tmp 17)), none⟩,
  ⟨(some 19), (Op.load 50 (Operand.tmp 18)), none⟩,
  ⟨(some 20), (Op.call { callee := (Callee.value (Operand.func 19)), args := #[(Operand.tmp 19)], argTypes := #[50] }), none⟩,
  ⟨(some 21), (Op.indexAddr 71 (Operand.tmp 14) (Operand.tmp 15)), none⟩,
  ⟨none, (Op.store 53 (Operand.tmp 21) (Operand.tmp 20)), none⟩]
attribute [go_sem] r65_5
def r65_4 : List PO := [⟨(some 12), (Op.move (Operand.tmp 4)), none⟩,
  ⟨(some 13), (Op.binOp BinOp.add 3 (Operand.tmp 12) (Operand.const (Value.int IntKind.i64 1)) 3), none⟩,
  ⟨(some 4), (Op.assign (Operand.tmp 13)), none⟩]
attribute [go_sem] r65_4
def k65_1b : PC := (.seq (.seq (.reg r65_3) (.cond (Operand.tmp 11) .skip (.pre ⟨[3], [.old 0], []⟩ (.exit 0)))) (.seq (.block 1 (.reg r65_5)) (.post (.reg r65_4) ⟨[0, 3, 4], [.old 0], []⟩)))
def r65_0 : List PO := [⟨(some 2), (Op.assign (Operand.const (Value.slice none 0 0))), none⟩]
attribute [go_sem] r65_0
def r65_1 : List PO := [⟨(some 5), (Op.move (Operand.tmp 0)), none⟩,
  ⟨(some 6), (Op.call { callee := (Callee.builtin Builtin.len), args := #[(Operand.tmp 5)], argTypes := #[63] }), none⟩,
  ⟨(some 7), (Op.makeSlice 71 (Operand.tmp 6) (Operand.tmp 6)), none⟩,
  ⟨(some 3), (Op.assign (Operand.tmp 7)), none⟩]
attribute [go_sem] r65_1
def r65_2 : List PO := [⟨(some 4), (Op.assign (Operand.const (Value.int IntKind.i64 0))), none⟩]
attribute [go_sem] r65_2
def r65_6 : List PO := [⟨(some 22), (Op.move (Operand.tmp 3)), none⟩,
  ⟨(some 2), (Op.assign (Operand.tmp 22)), none⟩]
attribute [go_sem] r65_6
def c65 : PC := (.seq (.reg r65_0) (.seq (.reg r65_1) (.seq (.seq (.reg r65_2) (.block 0 (.pre ⟨[0, 3, 4], [.old 0], []⟩ (.loop k65_1b)))) (.seq (.reg r65_6) .ret))))
def i65 : FnI := ⟨23, [(ResultVar.tmp 2)], c65, 0, [[2]], [[2]], false, false, 0⟩
-- loop.example/g00344/laws.toTerm
def r29_0 : List PO := [⟨(some 1), (Op.box 65 (Operand.tmp 0)), none⟩,
  ⟨(some 2), (Op.alloc 73), none⟩]
attribute [go_sem] r29_0
def r29_1 : List PO := [⟨(some 3), (Op.alloc 73), none⟩]
attribute [go_sem] r29_1
def r29_2 : List PO := [⟨(some 4), (Op.fieldAddr 65 (Operand.tmp 1) 0), none⟩,
  ⟨(some 5), (Op.load 61 (Operand.tmp 4)), none⟩,
  ⟨(some 6), (Op.call { callee := (Callee.value (Operand.func 63)), args := #[(Operand.tmp 5)], argTypes := #[61] }), none⟩,
  ⟨(some 7), (Op.fieldAddr 73 (Operand.tmp 3) 0), none⟩,
  ⟨none, (Op.store 69 (Operand.tmp 7) (Operand.tmp 6)), none⟩]
attribute [go_sem] r29_2
def r29_3 : List PO := [⟨(some 8), (Op.fieldAddr 65 (Operand.tmp 1) 1), none⟩,
  ⟨(some 9), (Op.load 62 (Operand.tmp 8)), none⟩,
  ⟨(some 10), (Op.call { callee := (Callee.value (Operand.func 64)), args := #[(Operand.tmp 9)], argTypes := #[62] }), none⟩,
  ⟨(some 11), (Op.fieldAddr 73 (Operand.tmp 3) 1), none⟩,
  ⟨none, (Op.store 70 (Operand.tmp 11) (Operand.tmp 10)), none⟩]
attribute [go_sem] r29_3
def r29_4 : List PO := [⟨(some 12), (Op.fieldAddr 65 (Operand.tmp 1) 2), none⟩,
  ⟨(some 13), (Op.load 3 (Operand.tmp 12)), none⟩,
  ⟨(some 14), (Op.fieldAddr 73 (Operand.tmp 3) 2), none⟩,
  ⟨none, (Op.store 3 (Operand.tmp 14) (Operand.tmp 13)), none⟩]
attribute [go_sem] r29_4
def r29_5 : List PO := [⟨(some 15), (Op.fieldAddr 65 (Operand.tmp 1) 3), none⟩,
  ⟨(some 16), (Op.load 63 (Operand.tmp 15)), none⟩,
  ⟨(some 17), (Op.call { callee := (Callee.value (Operand.func 65)), args := #[(Operand.tmp 16)], argTypes := #[63] }), none⟩,
  ⟨(some 18), (Op.fieldAddr 73 (Operand.tmp 3) 3), none⟩,
  ⟨none, (Op.store 71 (Operand.tmp 18) (Operand.tmp 17)), none⟩]
attribute [go_sem] r29_5
def r29_6 : List PO := [⟨(some 19), (Op.fieldAddr 65 (Operand.tmp 1) 4), none⟩,
  ⟨(some 20), (Op.load 3 (Operand.tmp 19)), none⟩,
  ⟨(some 21), (Op.fieldAddr 73 (Operand.tmp 3) 4), none⟩,
  ⟨none, (Op.store 3 (Operand.tmp 21) (Operand.tmp 20)), none⟩]
attribute [go_sem] r29_6
def r29_7 : List PO := [⟨(some 22), (Op.load 73 (Operand.tmp 3)), none⟩,
  ⟨none, (Op.store 73 (Operand.tmp 2) (Operand.tmp 22)), none⟩]
attribute [go_sem] r29_7
def c29 : PC := (.seq (.reg r29_0) (.seq (.reg r29_1) (.seq (.reg r29_2) (.seq (.reg r29_3) (.seq (.reg r29_4) (.seq (.reg r29_5) (.seq (.reg r29_6) (.seq (.reg r29_7) .ret))))))))
def i29 : FnI := ⟨23, [(ResultVar.cell 2 73)], c29, 0, [[4, 2, 0, 2, 0]], [[4, 2, 0, 2, 0]], false, false, 0⟩
-- loop.example/g00344/laws.toTermS
def r43_3 : List PO := [⟨(some 8), (Op.move (Operand.tmp 4)), none⟩,
  ⟨(some 9), (Op.move (Operand.tmp 0)), none⟩,
  ⟨(some 10), (Op.call { callee := (Callee.builtin Builtin.len), args := #[(Operand.tmp 9)], argTypes := #[38] }), none⟩,
  ⟨(some 11), (Op.binOp BinOp.lss 3 (Operand.tmp 8) (Operand.tmp 10) 3), none⟩]
attribute [go_sem] r43_3
def r43_5 : List PO := [⟨(some 14), (Op.move (Operand.tmp 3)), none⟩,
  ⟨(some 15), (Op.move (Operand.tmp 4)), none⟩,
  ⟨(some 16), (Op.move (Operand.tmp 0)), none⟩,
  ⟨(some 17), (Op.move (Operand.tmp 4)), none⟩,
  ⟨(some 18), (Op.indexAddr 38 (Operand.tmp 16) (Operand.tmp 17)), none⟩,
  ⟨(some 19), (Op.load 65 (Operand.tmp 18)), none⟩,
  ⟨(some 20), (Op.call { callee := (Callee.value (Operand.func 29)), args := #[(Operand.tmp 19)], argTypes := #[65] }), none⟩,
  ⟨(some 21), (Op.indexAddr 43 (Operand.tmp 14) (Operand.tmp 15)), none⟩,
  ⟨none, (Op.store 73 (Operand.tmp 21) (Operand.tmp 20)), none⟩]
attribute [go_sem] r43_5
def r43_4 : List PO := [⟨(some 12), (Op.move (Operand.tmp 4)), none⟩,
  ⟨(some 13), (Op.binOp BinOp.add 3 (Operand.tmp 12) (Operand.const (Value.int IntKind.i64 1)) 3), none⟩,
  ⟨(some 4), (Op.assign (Operand.tmp 13)), none⟩]
attribute [go_sem] r43_4
def k43_1b : PC := (.seq (.seq (.reg r43_3) (.cond (Operand.tmp 11) .skip (.pre ⟨[3], [.old 0], []⟩ (.exit 0)))) (.seq (.block 1 (.reg r43_5)) (.post (.reg r43_4) ⟨[0, 3, 4], [.old 0], []⟩)))
def r43_0 : List PO := [⟨(some 2), (Op.assign (Operand.const (Value.slice none 0 0))), none⟩]
attribute [go_sem] r43_0
def r43_1 : List PO := [⟨(some 5), (Op.move (Operand.tmp 0)), none⟩,
  ⟨(some 6), (Op.call { callee := (Callee.builtin Builtin.len), args := #[(Operand.tmp 5)], argTypes := #[38] }), none⟩,
  ⟨(some 7), (Op.makeSlice 43 (Operand.tmp 6) (Operand.tmp 6)), none⟩,
  ⟨(some 3), (Op.assign (Operand.tmp 7)), none⟩]
attribute [go_sem] r43_1
def r43_2 : List PO := [⟨(some 4), (Op.assign (Operand.const (Value.int IntKind.i64 0))), none⟩]
attribute [go_sem] r43_2
def r43_6 : List PO := [⟨(some 22), (Op.move (Operand.tmp 3)), none⟩,
  ⟨(some 2), (Op.assign (Operand.tmp 22)), none⟩]
attribute [go_sem] r43_6
def c43 : PC := (.seq (.reg r43_0) (.seq (.reg r43_1) (.seq (.seq (.reg r43_2) (.block 0 (.pre ⟨[0, 3, 4], [.old 0], []⟩ (.loop k43_1b)))) (.seq (.reg r43_6) .ret))))
def i43 : FnI := ⟨23, [(ResultVar.tmp 2)], c43, 0, [[5]], [[5]], false, false, 0⟩
-- loop.example/g00344/laws.toPolicy
def r15_0 : List PO := [⟨(some 1), (Op.box 40 (Operand.tmp 0)), none⟩,
  ⟨(some 2), (Op.alloc 45), none⟩]
attribute [go_sem] r15_0
def r15_1 : List PO := [⟨(some 3), (Op.alloc 45), none⟩]
attribute [go_sem] r15_1
def r15_2 : List PO := [⟨(some 4), (Op.fieldAddr 40 (Operand.tmp 1) 0), none⟩,
  ⟨(some 5), (Op.load 38 (Operand.tmp 4)), none⟩,
  ⟨(some 6), (Op.call { callee := (Callee.value (Operand.func 43)), args := #[(Operand.tmp 5)], argTypes := #[38] }), none⟩,
  ⟨(some 7), (Op.fieldAddr 45 (Operand.tmp 3) 0), none⟩,
  ⟨none, (Op.store 43 (Operand.tmp 7) (Operand.tmp 6)), none⟩]
attribute [go_sem] r15_2
def r15_3 : List PO := [⟨(some 8), (Op.fieldAddr 40 (Operand.tmp 1) 1), none⟩,
  ⟨(some 9), (Op.load 4 (Operand.tmp 8)), none⟩,
  ⟨(some 10), (Op.fieldAddr 45 (Operand.tmp 3) 1), none⟩,
  ⟨none, (Op.store 4 (Operand.tmp 10) (Operand.tmp 9)), none⟩]
attribute [go_sem] r15_3
def r15_4 : List PO := [⟨(some 11), (Op.load 45 (Operand.tmp 3)), none⟩,
  ⟨none, (Op.store 45 (Operand.tmp 2) (Operand.tmp 11)), none⟩]
attribute [go_sem] r15_4
def c15 : PC := (.seq (.reg r15_0) (.seq (.reg r15_1) (.seq (.reg r15_2) (.seq (.reg r15_3) (.seq (.reg r15_4) .ret)))))
def i15 : FnI := ⟨12, [(ResultVar.cell 2 45)], c15, 0, [[5, 0]], [[5, 0]], false, false, 0⟩
-- loop.example/g00344/spec.l1In
def r71_1 : List PO := [⟨(some 7), (Op.move (Operand.tmp 0)), none⟩,
  ⟨(some 8), (Op.move (Operand.tmp 1)), none⟩,
  ⟨(some 9), (Op.binOp BinOp.geq 3 (Operand.tmp 7) (Operand.tmp 8) 3), none⟩,
  ⟨(some 10), (Op.move (Operand.tmp 9)), none⟩,
  ⟨(some 11), (Op.move (Operand.tmp 0)), (some (10, true))⟩,
  ⟨(some 12), (Op.move (Operand.tmp 2)), (some (10, true))⟩,
  ⟨(some 13), (Op.binOp BinOp.leq 3 (Operand.tmp 11) (Operand.tmp 12) 3), (some (10, true))⟩,
  ⟨(some 14), (Op.pick (Operand.tmp 10) (Operand.tmp 13) (Operand.const (Value.bool false))), none⟩,
  ⟨(some 6), (Op.assign (Operand.tmp 14)), none⟩]
attribute [go_sem] r71_1
def k71_1 : PC := (.post (.reg r71_1) ⟨[6], [], []⟩)
def r71_0 : List PO := [⟨(some 6), (Op.assign (Operand.const (Value.bool false))), none⟩]
attribute [go_sem] r71_0
def c71 : PC := (.seq (.reg r71_0) (.seq (.pre ⟨[0, 1, 2], [], []⟩ k71_1) .ret))
def i71 : FnI := ⟨15, [(ResultVar.tmp 6)], c71, 0, [[0], [0], [0]], [[0]], false, false, 0⟩
-- loop.example/g00344/spec.l1Addr
def r72_0 : List PO := [⟨(some 2), (Op.assign (Operand.const (Value.bool false))), none⟩]
attribute [go_sem] r72_0
def r72_1 : List PO := [⟨(some 3), (Op.move (Operand.tmp 0)), none⟩,
  ⟨(some 4), (Op.call { callee := (Callee.value (Operand.func 71)), args := #[(Operand.tmp 3), (Operand.const (Value.int IntKind.i64 0)), (Operand.const (Value.int IntKind.i64 4294967295))], argTypes := #[3, 3, 3] }), none⟩,
  ⟨(some 2), (Op.assign (Operand.tmp 4)), none⟩]
attribute [go_sem] r72_1
def c72 : PC := (.seq (.reg r72_0) (.seq (.reg r72_1) .ret))
def i72 : FnI := ⟨5, [(ResultVar.tmp 2)], c72, 0, [[0]], [[0]], false, false, 0⟩
-- loop.example/g00344/spec.l1Size
def r73_0 : List PO := [⟨(some 1), (Op.box 31 (Operand.tmp 0)), none⟩,
  ⟨(some 2), (Op.assign (Operand.const (Value.int IntKind.i64 0))), none⟩]
attribute [go_sem] r73_0
def r73_1 : List PO := [⟨(some 3), (Op.fieldAddr 31 (Operand.tmp 1) 1), none⟩,
  ⟨(some 4), (Op.load 3 (Operand.tmp 3)), none⟩,
  ⟨(some 5), (Op.binOp BinOp.sub 3 (Operand.const (Value.int IntKind.i64 32)) (Operand.tmp 4) 3), none⟩,
  ⟨(some 6), (Op.convert 3 145 (Operand.tmp 5)), none⟩,
  ⟨(some 7), (Op.binOp BinOp.shl 3 (Operand.const (Value.int IntKind.i64 1)) (Operand.tmp 6) 145), none⟩,
  ⟨(some 2), (Op.assign (Operand.tmp 7)), none⟩]
attribute [go_sem] r73_1
def c73 : PC := (.seq (.reg r73_0) (.seq (.reg r73_1) .ret))
def i73 : FnI := ⟨8, [(ResultVar.tmp 2)], c73, 0, [[0, 0]], [[0]], false, false, 0⟩
-- loop.example/g00344/spec.GoodPrefix
def r33_1 : List PO := [⟨(some 3), (Op.fieldAddr 31 (Operand.tmp 1) 1), none⟩,
  ⟨(some 4), (Op.load 3 (Operand.tmp 3)), none⟩,
  ⟨(some 5), (Op.call { callee := (Callee.value (Operand.func 71)), args := #[(Operand.tmp 4), (Operand.const (Value.int IntKind.i64 0)), (Operand.const (Value.int IntKind.i64 32))], argTypes := #[3, 3, 3] }), none⟩,
  ⟨(some 6), (Op.move (Operand.tmp 5)), none⟩,
  ⟨(some 7), (Op.fieldAddr 31 (Operand.tmp 1) 0), (some (6, true))⟩,
  ⟨(some 8), (Op.load 3 (Operand.tmp 7)), (some (6, true))⟩,
  ⟨(some 9), (Op.call { callee := (Callee.value (Operand.func 72)), args := #[(Operand.tmp 8)], argTypes := #[3] }), (some (6, true))⟩,
  ⟨(some 10), (Op.pick (Operand.tmp 6) (Operand.tmp 9) (Operand.const (Value.bool false))), none⟩,
  ⟨(some 11), (Op.move (Operand.tmp 10)), none⟩,
  ⟨(some 12), (Op.fieldAddr 31 (Operand.tmp 1) 0), (some (11, true))⟩,
  ⟨(some 13), (Op.load 3 (Operand.tmp 12)), (some (11, true))⟩,
  ⟨(some 14), (Op.load 31 (Operand.tmp 1)), (some (11, true))⟩,
  ⟨(some 15), (Op.call { callee := (Callee.value (Operand.func 73)), args := #[(Operand.tmp 14)], argTypes := #[31] }), (some (11, true))⟩,
  ⟨(some 16), (Op.binOp BinOp.rem 3 (Operand.tmp 13) (Operand.tmp 15) 3), (some (11, true))⟩,
  ⟨(some 17), (Op.binOp BinOp.eql 3 (Operand.tmp 16) (Operand.const (Value.int IntKind.i64 0)) 3), (some (11, true))⟩,
  ⟨(some 18), (Op.pick (Operand.tmp 11) (Operand.tmp 17) (Operand.const (Value.bool false))), none⟩,
  ⟨(some 2), (Op.assign (Operand.tmp 18)), none⟩]
attribute [go_sem] r33_1
def k33_1 : PC := (.post (.fz r33_1) ⟨[2], [], []⟩)
def r33_0 : List PO := [⟨(some 1), (Op.box 31 (Operand.tmp 0)), none⟩,
  ⟨(some 2), (Op.assign (Operand.const (Value.bool false))), none⟩]
attribute [go_sem] r33_0
def c33 : PC := (.seq (.reg r33_0) (.seq (.pre ⟨[1], [.old 0], []⟩ k33_1) .ret))
def i33 : FnI := ⟨19, [(ResultVar.tmp 2)], c33, 0, [[0, 0]], [[0]], false, false, 0⟩
-- loop.example/g00344/spec.l7Act
def r48_5 : List PO := [⟨(some 9), (Op.binOp BinOp.eql 3 (Operand.tmp 4) (Operand.const (Value.int IntKind.i64 4)) 3), none⟩,
  ⟨(some 5), (Op.assign (Operand.tmp 9)), none⟩]
attribute [go_sem] r48_5
def k48_3 : PC := (.cond (Operand.tmp 5) (.post .skip ⟨[1, 5], [.old 0], []⟩) (.post (.reg r48_5) ⟨[1, 5], [.old 0], []⟩))
def r48_4 : List PO := [⟨(some 8), (Op.binOp BinOp.eql 3 (Operand.tmp 4) (Operand.const (Value.int IntKind.i64 3)) 3), none⟩,
  ⟨(some 5), (Op.assign (Operand.tmp 8)), none⟩]
attribute [go_sem] r48_4
def k48_2 : PC := (.cond (Operand.tmp 5) (.post .skip ⟨[1, 5], [.old 0], []⟩) (.seq (.reg r48_4) (.post (.pre ⟨[1, 4, 5], [.old 0], []⟩ k48_3) ⟨[1, 5], [.old 0], []⟩)))
def r48_3 : List PO := [⟨(some 7), (Op.binOp BinOp.eql 3 (Operand.tmp 4) (Operand.const (Value.int IntKind.i64 2)) 3), none⟩,
  ⟨(some 5), (Op.assign (Operand.tmp 7)), none⟩]
attribute [go_sem] r48_3
def k48_1 : PC := (.cond (Operand.tmp 5) (.post .skip ⟨[1, 5], [.old 0], []⟩) (.seq (.reg r48_3) (.post (.pre ⟨[1, 4, 5], [.old 0], []⟩ k48_2) ⟨[1, 5], [.old 0], []⟩)))
def r48_7 : List PO := [⟨(some 13), (Op.fieldAddr 53 (Operand.tmp 1) 0), none⟩,
  ⟨(some 14), (Op.load 3 (Operand.tmp 13)), none⟩,
  ⟨(some 15), (Op.binOp BinOp.eql 3 (Operand.tmp 14) (Operand.const (Value.int IntKind.i64 5)) 3), none⟩,
  ⟨(some 16), (Op.move (Operand.tmp 15)), none⟩,
  ⟨(some 17), (Op.fieldAddr 53 (Operand.tmp 1) 1), (some (16, true))⟩,
  ⟨(some 18), (Op.load 3 (Operand.tmp 17)), (some (16, true))⟩,
  ⟨(some 19), (Op.call { callee := (Callee.value (Operand.func 71)), args := #[(Operand.tmp 18), (Operand.const (Value.int IntKind.i64 1)), (Operand.const (Value.int IntKind.i64 65535))], argTypes := #[3, 3, 3] }), (some (16, true))⟩,
  ⟨(some 20), (Op.pick (Operand.tmp 16) (Operand.tmp 19) (Operand.const (Value.bool false))), none⟩,
  ⟨(some 2), (Op.assign (Operand.tmp 20)), none⟩]
attribute [go_sem] r48_7
def k48_4 : PC := (.post (.reg r48_7) ⟨[2], [], []⟩)
def r48_0 : List PO := [⟨(some 1), (Op.box 53 (Operand.tmp 0)), none⟩,
  ⟨(some 2), (Op.assign (Operand.const (Value.bool false))), none⟩]
attribute [go_sem] r48_0
def r48_1 : List PO := [⟨(some 3), (Op.fieldAddr 53 (Operand.tmp 1) 0), none⟩,
  ⟨(some 4), (Op.load 3 (Operand.tmp 3)), none⟩]
attribute [go_sem] r48_1
def r48_2 : List PO := [⟨(some 6), (Op.binOp BinOp.eql 3 (Operand.tmp 4) (Operand.const (Value.int IntKind.i64 1)) 3), none⟩,
  ⟨(some 5), (Op.assign (Operand.tmp 6)), none⟩]
attribute [go_sem] r48_2
def r48_6 : List PO := [⟨(some 10), (Op.fieldAddr 53 (Operand.tmp 1) 1), none⟩,
  ⟨(some 11), (Op.load 3 (Operand.tmp 10)), none⟩,
  ⟨(some 12), (Op.call { callee := (Callee.value (Operand.func 71)), args := #[(Operand.tmp 11), (Operand.const (Value.int IntKind.i64 0)), (Operand.const (Value.int IntKind.i64 1000000))], argTypes := #[3, 3, 3] }), none⟩,
  ⟨(some 2), (Op.assign (Operand.tmp 12)), none⟩]
attribute [go_sem] r48_6
def c48 : PC := (.seq (.reg r48_0) (.seq (.seq (.reg r48_1) (.block 0 (.seq (.seq (.reg r48_2) (.pre ⟨[1, 4, 5], [.old 0], []⟩ k48_1)) (.cond (Operand.tmp 5) (.seq (.reg r48_6) .ret) .skip)))) (.seq (.pre ⟨[1], [.old 0], []⟩ k48_4) .ret)))
def i48 : FnI := ⟨21, [(ResultVar.tmp 2)], c48, 0, [[0, 0]], [[0]], false, false, 0⟩
-- loop.example/g00344/spec.l6Arity
def r154_5 : List PO := [⟨(some 8), (Op.binOp BinOp.eql 3 (Operand.tmp 3) (Operand.const (Value.int IntKind.i64 4)) 3), none⟩,
  ⟨(some 4), (Op.assign (Operand.tmp 8)), none⟩]
attribute [go_sem] r154_5
def k154_3 : PC := (.cond (Operand.tmp 4) (.post .skip ⟨[3, 4], [], []⟩) (.post (.reg r154_5) ⟨[3, 4], [], []⟩))
def r154_4 : List PO := [⟨(some 7), (Op.binOp BinOp.eql 3 (Operand.tmp 3) (Operand.const (Value.int IntKind.i64 3)) 3), none⟩,
  ⟨(some 4), (Op.assign (Operand.tmp 7)), none⟩]
attribute [go_sem] r154_4
def k154_2 : PC := (.cond (Operand.tmp 4) (.post .skip ⟨[3, 4], [], []⟩) (.seq (.reg r154_4) (.post (.pre ⟨[3, 4], [], []⟩ k154_3) ⟨[3, 4], [], []⟩)))
def r154_3 : List PO := [⟨(some 6), (Op.binOp BinOp.eql 3 (Operand.tmp 3) (Operand.const (Value.int IntKind.i64 2)) 3), none⟩,
  ⟨(some 4), (Op.assign (Operand.tmp 6)), none⟩]
attribute [go_sem] r154_3
def k154_1 : PC := (.cond (Operand.tmp 4) (.post .skip ⟨[3, 4], [], []⟩) (.seq (.reg r154_3) (.post (.pre ⟨[3, 4], [], []⟩ k154_2) ⟨[3, 4], [], []⟩)))
def r154_8 : List PO := [⟨(some 11), (Op.binOp BinOp.eql 3 (Operand.tmp 3) (Operand.const (Value.int IntKind.i64 6)) 3), none⟩,
  ⟨(some 9), (Op.assign (Operand.tmp 11)), none⟩]
attribute [go_sem] r154_8
def k154_4 : PC := (.cond (Operand.tmp 9) (.post .skip ⟨[3, 9], [], []⟩) (.post (.reg r154_8) ⟨[3, 9], [], []⟩))
def r154_0 : List PO := [⟨(some 2), (Op.assign (Operand.const (Value.int IntKind.i64 0))), none⟩]
attribute [go_sem] r154_0
def r154_1 : List PO := [⟨(some 3), (Op.move (Operand.tmp 0)), none⟩]
attribute [go_sem] r154_1
def r154_2 : List PO := [⟨(some 5), (Op.binOp BinOp.eql 3 (Operand.tmp 3) (Operand.const (Value.int IntKind.i64 1)) 3), none⟩,
  ⟨(some 4), (Op.assign (Operand.tmp 5)), none⟩]
attribute [go_sem] r154_2
def r154_6 : List PO := [⟨(some 2), (Op.assign (Operand.const (Value.int IntKind.i64 0))), none⟩]
attribute [go_sem] r154_6
def r154_7 : List PO := [⟨(some 10), (Op.binOp BinOp.eql 3 (Operand.tmp 3) (Operand.const (Value.int IntKind.i64 5)) 3), none⟩,
  ⟨(some 9), (Op.assign (Operand.tmp 10)), none⟩]
attribute [go_sem] r154_7
def r154_9 : List PO := [⟨(some 2), (Op.assign (Operand.const (Value.int IntKind.i64 2))), none⟩]
attribute [go_sem] r154_9
def r154_10 : List PO := [⟨(some 13), (Op.binOp BinOp.eql 3 (Operand.tmp 3) (Operand.const (Value.int IntKind.i64 7)) 3), none⟩,
  ⟨(some 12), (Op.assign (Operand.tmp 13)), none⟩]
attribute [go_sem] r154_10
def r154_11 : List PO := [⟨(some 2), (Op.assign (Operand.const (Value.int IntKind.i64 1))), none⟩]
attribute [go_sem] r154_11
def r154_12 : List PO := [⟨(some 2), (Op.assign (Operand.const (Value.int IntKind.i64 (-1)))), none⟩]
attribute [go_sem] r154_12
def c154 : PC := (.seq (.reg r154_0) (.seq (.seq (.reg r154_1) (.block 0 (.seq (.seq (.reg r154_2) (.pre ⟨[3, 4], [], []⟩ k154_1)) (.cond (Operand.tmp 4) (.seq (.reg r154_6) .ret) (.seq (.seq (.reg r154_7) (.pre ⟨[3, 9], [], []⟩ k154_4)) (.cond (Operand.tmp 9) (.seq (.reg r154_9) .ret) (.seq (.reg r154_10) (.cond (Operand.tmp 12) (.seq (.reg r154_11) .ret) .skip)))))))) (.seq (.reg r154_12) .ret)))
def i154 : FnI := ⟨14, [(ResultVar.tmp 2)], c154, 0, [[0]], [[0]], false, false, 0⟩
-- loop.example/g00344/spec.l6Read
def r143_5 : List PO := [⟨(some 23), (Op.move (Operand.tmp 7)), none⟩,
  ⟨(some 24), (Op.binOp BinOp.lss 3 (Operand.tmp 23) (Operand.const (Value.int IntKind.i64 0)) 3), none⟩,
  ⟨(some 25), (Op.move (Operand.tmp 24)), none⟩,
  ⟨(some 26), (Op.fieldAddr 129 (Operand.tmp 6) 0), (some (25, false))⟩,
  ⟨(some 27), (Op.load 3 (Operand.tmp 26)), (some (25, false))⟩,
  ⟨(some 28), (Op.binOp BinOp.eql 3 (Operand.tmp 27) (Operand.const (Value.int IntKind.i64 3)) 3), (some (25, false))⟩,
  ⟨(some 29), (Op.move (Operand.tmp 28)), (some (25, false))⟩,
  ⟨(some 30), (Op.fieldAddr 129 (Operand.tmp 6) 1), (some (29, true))⟩,
  ⟨(some 31), (Op.load 3 (Operand.tmp 30)), (some (29, true))⟩,
  ⟨(some 32), (Op.call { callee := (Callee.value (Operand.func 71)), args := #[(Operand.tmp 31), (Operand.const (Value.int IntKind.i64 1)), (Operand.const (Value.int IntKind.i64 65535))], argTypes := #[3, 3, 3] }), (some (29, true))⟩,
  ⟨(some 33), (Op.unOp UnOp.not 4 (Operand.tmp 32)), (some (29, true))⟩,
  ⟨(some 34), (Op.pick (Operand.tmp 29) (Operand.tmp 33) (Operand.const (Value.bool false))), (some (25, false))⟩,
  ⟨(some 35), (Op.pick (Operand.tmp 25) (Operand.const (Value.bool true)) (Operand.tmp 34)), none⟩,
  ⟨(some 36), (Op.move (Operand.tmp 35)), none⟩,
  ⟨(some 37), (Op.fieldAddr 129 (Operand.tmp 6) 0), (some (36, false))⟩,
  ⟨(some 38), (Op.load 3 (Operand.tmp 37)), (some (36, false))⟩,
  ⟨(some 39), (Op.binOp BinOp.neq 3 (Operand.tmp 38) (Operand.const (Value.int IntKind.i64 3)) 3), (some (36, false))⟩,
  ⟨(some 40), (Op.move (Operand.tmp 39)), (some (36, false))⟩,
  ⟨(some 41), (Op.fieldAddr 129 (Operand.tmp 6) 1), (some (40, true))⟩,
  ⟨(some 42), (Op.load 3 (Operand.tmp 41)), (some (40, true))⟩,
  ⟨(some 43), (Op.binOp BinOp.neq 3 (Operand.tmp 42) (Operand.const (Value.int IntKind.i64 0)) 3), (some (40, true))⟩,
  ⟨(some 44), (Op.pick (Operand.tmp 40) (Operand.tmp 43) (Operand.const (Value.bool false))), (some (36, false))⟩,
  ⟨(some 45), (Op.pick (Operand.tmp 36) (Operand.const (Value.bool true)) (Operand.tmp 44)), none⟩]
attribute [go_sem] r143_5
def k143_1 : PC := (.post (.reg r143_5) ⟨[0, 1, 4, 6, 7, 45], [.old 0, .old 1, .old 2], []⟩)
def r143_9 : List PO := [⟨(some 54), (Op.move (Operand.tmp 7)), none⟩,
  ⟨(some 55), (Op.binOp BinOp.gtr 3 (Operand.tmp 54) (Operand.const (Value.int IntKind.i64 0)) 3), none⟩]
attribute [go_sem] r143_9
def r143_11 : List PO := [⟨(some 59), (Op.move (Operand.tmp 0)), none⟩,
  ⟨(some 60), (Op.move (Operand.tmp 1)), none⟩,
  ⟨(some 61), (Op.call { callee := (Callee.value (Operand.func 143)), args := #[(Operand.tmp 59), (Operand.tmp 60)], argTypes := #[70, 3] }), none⟩,
  ⟨(some 58), (Op.move (Operand.tmp 61)), none⟩,
  ⟨(some 62), (Op.extract (Operand.tmp 58) 0), none⟩,
  ⟨(some 63), (Op.extract (Operand.tmp 58) 1), none⟩,
  ⟨(some 9), (Op.alloc 149), none⟩,
  ⟨none, (Op.store 149 (Operand.tmp 9) (Operand.tmp 62)), none⟩,
  ⟨(some 10), (Op.assign (Operand.tmp 63)), none⟩]
attribute [go_sem] r143_11
def r143_12 : List PO := [⟨(some 64), (Op.move (Operand.tmp 10)), none⟩,
  ⟨(some 65), (Op.binOp BinOp.eql 3 (Operand.tmp 64) (Operand.const (Value.int IntKind.i64 0)) 3), none⟩]
attribute [go_sem] r143_12
def r143_13 : List PO := [⟨(some 66), (Op.build 149 #[]), none⟩,
  ⟨none, (Op.store 149 (Operand.tmp 4) (Operand.tmp 66)), none⟩,
  ⟨(some 5), (Op.assign (Operand.const (Value.int IntKind.i64 0))), none⟩]
attribute [go_sem] r143_13
def r143_14 : List PO := [⟨(some 67), (Op.fieldAddr 149 (Operand.tmp 8) 2), none⟩,
  ⟨(some 68), (Op.load 147 (Operand.tmp 67)), none⟩,
  ⟨(some 69), (Op.load 149 (Operand.tmp 9)), none⟩,
  ⟨(some 70), (Op.buildSlice 147 1 #[(0, (Operand.tmp 69))]), none⟩,
  ⟨(some 71), (Op.call { callee := (Callee.builtin Builtin.append), args := #[(Operand.tmp 68), (Operand.tmp 70)], argTypes := #[147, 147] }), none⟩,
  ⟨(some 72), (Op.fieldAddr 149 (Operand.tmp 8) 2), none⟩,
  ⟨none, (Op.store 147 (Operand.tmp 72) (Operand.tmp 71)), none⟩]
attribute [go_sem] r143_14
def r143_15 : List PO := [⟨(some 73), (Op.move (Operand.tmp 10)), none⟩,
  ⟨(some 1), (Op.assign (Operand.tmp 73)), none⟩]
attribute [go_sem] r143_15
def r143_10 : List PO := [⟨(some 56), (Op.move (Operand.tmp 7)), none⟩,
  ⟨(some 57), (Op.binOp BinOp.sub 3 (Operand.tmp 56) (Operand.const (Value.int IntKind.i64 1)) 3), none⟩,
  ⟨(some 7), (Op.assign (Operand.tmp 57)), none⟩]
attribute [go_sem] r143_10
def k143_2b : PC := (.seq (.seq (.reg r143_9) (.cond (Operand.tmp 55) .skip (.pre ⟨[1, 4, 8], [.old 0, .old 1, .old 2, .old 3], []⟩ (.exit 0)))) (.seq (.block 1 (.seq (.reg r143_11) (.seq (.seq (.reg r143_12) (.cond (Operand.tmp 65) (.seq (.reg r143_13) (.pre ⟨[4, 5], [.old 0, .nilB 0 2 3], []⟩ .ret)) .skip)) (.seq (.reg r143_14) (.reg r143_15))))) (.post (.reg r143_10) ⟨[0, 1, 4, 7, 8], [.old 0, .old 1, .old 2, .old 7], []⟩)))
def r143_0 : List PO := [⟨(some 4), (Op.alloc 149), none⟩,
  ⟨(some 5), (Op.assign (Operand.const (Value.int IntKind.i64 0))), none⟩]
attribute [go_sem] r143_0
def r143_1 : List PO := [⟨(some 11), (Op.move (Operand.tmp 1)), none⟩,
  ⟨(some 12), (Op.move (Operand.tmp 0)), none⟩,
  ⟨(some 13), (Op.call { callee := (Callee.builtin Builtin.len), args := #[(Operand.tmp 12)], argTypes := #[70] }), none⟩,
  ⟨(some 14), (Op.binOp BinOp.geq 3 (Operand.tmp 11) (Operand.tmp 13) 3), none⟩]
attribute [go_sem] r143_1
def r143_2 : List PO := [⟨(some 15), (Op.build 149 #[]), none⟩,
  ⟨none, (Op.store 149 (Operand.tmp 4) (Operand.tmp 15)), none⟩,
  ⟨(some 5), (Op.assign (Operand.const (Value.int IntKind.i64 0))), none⟩]
attribute [go_sem] r143_2
def r143_3 : List PO := [⟨(some 16), (Op.move (Operand.tmp 0)), none⟩,
  ⟨(some 17), (Op.move (Operand.tmp 1)), none⟩,
  ⟨(some 18), (Op.indexAddr 70 (Operand.tmp 16) (Operand.tmp 17)), none⟩,
  ⟨(some 19), (Op.load 129 (Operand.tmp 18)), none⟩,
  ⟨(some 6), (Op.alloc 129), none⟩,
  ⟨none, (Op.store 129 (Operand.tmp 6) (Operand.tmp 19)), none⟩]
attribute [go_sem] r143_3
def r143_4 : List PO := [⟨(some 20), (Op.fieldAddr 129 (Operand.tmp 6) 0), none⟩,
  ⟨(some 21), (Op.load 3 (Operand.tmp 20)), none⟩,
  ⟨(some 22), (Op.call { callee := (Callee.value (Operand.func 154)), args := #[(Operand.tmp 21)], argTypes := #[3] }), none⟩,
  ⟨(some 7), (Op.assign (Operand.tmp 22)), none⟩]
attribute [go_sem] r143_4
def r143_6 : List PO := [⟨(some 46), (Op.build 149 #[]), none⟩,
  ⟨none, (Op.store 149 (Operand.tmp 4) (Operand.tmp 46)), none⟩,
  ⟨(some 5), (Op.assign (Operand.const (Value.int IntKind.i64 0))), none⟩]
attribute [go_sem] r143_6
def r143_7 : List PO := [⟨(some 47), (Op.fieldAddr 129 (Operand.tmp 6) 0), none⟩,
  ⟨(some 48), (Op.load 3 (Operand.tmp 47)), none⟩,
  ⟨(some 49), (Op.fieldAddr 129 (Operand.tmp 6) 1), none⟩,
  ⟨(some 50), (Op.load 3 (Operand.tmp 49)), none⟩,
  ⟨(some 51), (Op.build 149 #[(0, (Operand.tmp 48)), (1, (Operand.tmp 50))]), none⟩,
  ⟨(some 8), (Op.alloc 149), none⟩,
  ⟨none, (Op.store 149 (Operand.tmp 8) (Operand.tmp 51)), none⟩]
attribute [go_sem] r143_7
def r143_8 : List PO := [⟨(some 52), (Op.move (Operand.tmp 1)), none⟩,
  ⟨(some 53), (Op.binOp BinOp.add 3 (Operand.tmp 52) (Operand.const (Value.int IntKind.i64 1)) 3), none⟩,
  ⟨(some 1), (Op.assign (Operand.tmp 53)), none⟩]
attribute [go_sem] r143_8
def r143_16 : List PO := [⟨(some 74), (Op.load 149 (Operand.tmp 8)), none⟩,
  ⟨(some 75), (Op.move (Operand.tmp 1)), none⟩,
  ⟨none, (Op.store 149 (Operand.tmp 4) (Operand.tmp 74)), none⟩,
  ⟨(some 5), (Op.assign (Operand.tmp 75)), none⟩]
attribute [go_sem] r143_16
def c143 : PC := (.seq (.reg r143_0) (.seq (.seq (.reg r143_1) (.cond (Operand.tmp 14) (.seq (.reg r143_2) .ret) .skip)) (.seq (.reg r143_3) (.seq (.reg r143_4) (.seq (.seq (.pre ⟨[0, 1, 4, 6, 7], [.old 0, .nilB 0 2 3, .old 1], []⟩ k143_1) (.cond (Operand.tmp 45) (.seq (.reg r143_6) .ret) .skip)) (.seq (.reg r143_7) (.seq (.reg r143_8) (.seq (.block 0 (.pre ⟨[0, 1, 4, 7, 8], [.old 0, .old 1, .old 3, .nilB 3 2 3], []⟩ (.loop k143_2b))) (.seq (.reg r143_16) .ret)))))))))
def i143 : FnI := ⟨76, [(ResultVar.cell 4 149), (ResultVar.tmp 5)], c143, 0, [[2], [0]], [[0, 0, 3], [0]], false, false, 0⟩
-- loop.example/g00344/spec.l6Tree
def r122_4 : List PO := [⟨(some 15), (Op.load 149 (Operand.tmp 4)), none⟩,
  ⟨(some 16), (Op.move (Operand.tmp 5)), none⟩,
  ⟨(some 17), (Op.binOp BinOp.gtr 3 (Operand.tmp 16) (Operand.const (Value.int IntKind.i64 0)) 3), none⟩,
  ⟨(some 18), (Op.move (Operand.tmp 17)), none⟩,
  ⟨(some 19), (Op.move (Operand.tmp 5)), (some (18, true))⟩,
  ⟨(some 20), (Op.move (Operand.tmp 0)), (some (18, true))⟩,
  ⟨(some 21), (Op.call { callee := (Callee.builtin Builtin.len), args := #[(Operand.tmp 20)], argTypes := #[70] }), (some (18, true))⟩,
  ⟨(some 22), (Op.binOp BinOp.eql 3 (Operand.tmp 19) (Operand.tmp 21) 3), (some (18, true))⟩,
  ⟨(some 23), (Op.pick (Operand.tmp 18) (Operand.tmp 22) (Operand.const (Value.bool false))), none⟩,
  ⟨none, (Op.store 149 (Operand.tmp 2) (Operand.tmp 15)), none⟩,
  ⟨(some 3), (Op.assign (Operand.tmp 23)), none⟩]
attribute [go_sem] r122_4
def k122_1 : PC := (.post (.reg r122_4) ⟨[2, 3], [.old 0, .old 3], []⟩)
def r122_0 : List PO := [⟨(some 2), (Op.alloc 149), none⟩,
  ⟨(some 3), (Op.assign (Operand.const (Value.bool false))), none⟩]
attribute [go_sem] r122_0
def r122_1 : List PO := [⟨(some 6), (Op.move (Operand.tmp 0)), none⟩,
  ⟨(some 7), (Op.call { callee := (Callee.builtin Builtin.len), args := #[(Operand.tmp 6)], argTypes := #[70] }), none⟩,
  ⟨(some 8), (Op.binOp BinOp.gtr 3 (Operand.tmp 7) (Operand.const (Value.int IntKind.i64 30)) 3), none⟩]
attribute [go_sem] r122_1
def r122_2 : List PO := [⟨(some 9), (Op.build 149 #[]), none⟩,
  ⟨none, (Op.store 149 (Operand.tmp 2) (Operand.tmp 9)), none⟩,
  ⟨(some 3), (Op.assign (Operand.const (Value.bool false))), none⟩]
attribute [go_sem] r122_2
def r122_3 : List PO := [⟨(some 11), (Op.move (Operand.tmp 0)), none⟩,
  ⟨(some 12), (Op.call { callee := (Callee.value (Operand.func 143)), args := #[(Operand.tmp 11), (Operand.const (Value.int IntKind.i64 0))], argTypes := #[70, 3] }), none⟩,
  ⟨(some 10), (Op.move (Operand.tmp 12)), none⟩,
  ⟨(some 13), (Op.extract (Operand.tmp 10) 0), none⟩,
  ⟨(some 14), (Op.extract (Operand.tmp 10) 1), none⟩,
  ⟨(some 4), (Op.alloc 149), none⟩,
  ⟨none, (Op.store 149 (Operand.tmp 4) (Operand.tmp 13)), none⟩,
  ⟨(some 5), (Op.assign (Operand.tmp 14)), none⟩]
attribute [go_sem] r122_3
def c122 : PC := (.seq (.reg r122_0) (.seq (.seq (.reg r122_1) (.cond (Operand.tmp 8) (.seq (.reg r122_2) .ret) .skip)) (.seq (.reg r122_3) (.seq (.pre ⟨[0, 2, 4, 5], [.old 0, .nilB 0 2 3, .old 2, .old 1], []⟩ k122_1) .ret))))
def i122 : FnI := ⟨24, [(ResultVar.cell 2 149), (ResultVar.tmp 3)], c122, 0, [[2]], [[0, 0, 3], [0]], false, false, 0⟩
-- loop.example/g00344/spec.GoodRegex
def r82_0 : List PO := [⟨(some 2), (Op.assign (Operand.const (Value.bool false))), none⟩]
attribute [go_sem] r82_0
def r82_1 : List PO := [⟨(some 6), (Op.move (Operand.tmp 0)), none⟩,
  ⟨(some 7), (Op.call { callee := (Callee.value (Operand.func 122)), args := #[(Operand.tmp 6)], argTypes := #[70] }), none⟩,
  ⟨(some 5), (Op.move (Operand.tmp 7)), none⟩,
  ⟨(some 8), (Op.extract (Operand.tmp 5) 0), none⟩,
  ⟨(some 9), (Op.extract (Operand.tmp 5) 1), none⟩,
  ⟨(some 3), (Op.alloc 149), none⟩,
  ⟨none, (Op.store 149 (Operand.tmp 3) (Operand.tmp 8)), none⟩,
  ⟨(some 4), (Op.assign (Operand.tmp 9)), none⟩]
attribute [go_sem] r82_1
def r82_2 : List PO := [⟨(some 10), (Op.move (Operand.tmp 4)), none⟩,
  ⟨(some 2), (Op.assign (Operand.tmp 10)), none⟩]
attribute [go_sem] r82_2
def c82 : PC := (.seq (.reg r82_0) (.seq (.reg r82_1) (.seq (.reg r82_2) .ret)))
def i82 : FnI := ⟨11, [(ResultVar.tmp 2)], c82, 0, [[2]], [[0]], false, false, 0⟩
-- loop.example/g00344/spec.l7Term
def r42_4 : List PO := [⟨(some 14), (Op.fieldAddr 114 (Operand.tmp 4) 0), none⟩,
  ⟨(some 15), (Op.load 31 (Operand.tmp 14)), none⟩,
  ⟨(some 16), (Op.call { callee := (Callee.value (Operand.func 33)), args := #[(Operand.tmp 15)], argTypes := #[31] }), none⟩,
  ⟨(some 17), (Op.unOp UnOp.not 4 (Operand.tmp 16)), none⟩,
  ⟨(some 18), (Op.move (Operand.tmp 17)), none⟩,
  ⟨(some 19), (Op.fieldAddr 114 (Operand.tmp 4) 1), (some (18, false))⟩,
  ⟨(some 20), (Op.load 3 (Operand.tmp 19)), (some (18, false))⟩,
  ⟨(some 21), (Op.fieldAddr 114 (Operand.tmp 4) 0), (some (18, false))⟩,
  ⟨(some 22), (Op.fieldAddr 31 (Operand.tmp 21) 1), (some (18, false))⟩,
  ⟨(some 23), (Op.load 3 (Operand.tmp 22)), (some (18, false))⟩,
  ⟨(some 24), (Op.call { callee := (Callee.value (Operand.func 71)), args := #[(Operand.tmp 20), (Operand.tmp 23), (Operand.const (Value.int IntKind.i64 32))], argTypes := #[3, 3, 3] }), (some (18, false))⟩,
  ⟨(some 25), (Op.unOp UnOp.not 4 (Operand.tmp 24)), (some (18, false))⟩,
  ⟨(some 26), (Op.pick (Operand.tmp 18) (Operand.const (Value.bool true)) (Operand.tmp 25)), none⟩,
  ⟨(some 27), (Op.move (Operand.tmp 26)), none⟩,
  ⟨(some 28), (Op.fieldAddr 114 (Operand.tmp 4) 2), (some (27, false))⟩,
  ⟨(some 29), (Op.load 3 (Operand.tmp 28)), (some (27, false))⟩,
  ⟨(some 30), (Op.fieldAddr 114 (Operand.tmp 4) 1), (some (27, false))⟩,
  ⟨(some 31), (Op.load 3 (Operand.tmp 30)), (some (27, false))⟩,
  ⟨(some 32), (Op.call { callee := (Callee.value (Operand.func 71)), args := #[(Operand.tmp 29), (Operand.tmp 31), (Operand.const (Value.int IntKind.i64 32))], argTypes := #[3, 3, 3] }), (some (27, false))⟩,
  ⟨(some 33), (Op.unOp UnOp.not 4 (Operand.tmp 32)), (some (27, false))⟩,
  ⟨(some 34), (Op.pick (Operand.tmp 27) (Operand.const (Value.bool true)) (Operand.tmp 33)), none⟩]
attribute [go_sem] r42_4
def k42_3 : PC := (.post (.reg r42_4) ⟨[1, 8, 9, 10, 34], [.old 0], []⟩)
def r42_2 : List PO := [⟨(some 11), (Op.binOp BinOp.lss 3 (Operand.tmp 10) (Operand.tmp 9) 3), none⟩]
attribute [go_sem] r42_2
def r42_3 : List PO := [⟨(some 12), (Op.indexAddr 69 (Operand.tmp 8) (Operand.tmp 10)), none⟩,
  ⟨(some 13), (Op.load 114 (Operand.tmp 12)), none⟩,
  ⟨(some 4), (Op.alloc 114), none⟩,
  ⟨none, (Op.store 114 (Operand.tmp 4) (Operand.tmp 13)), none⟩]
attribute [go_sem] r42_3
def r42_5 : List PO := [⟨(some 2), (Op.assign (Operand.const (Value.bool false))), none⟩]
attribute [go_sem] r42_5
def r42_6 : List PO := [⟨(some 35), (Op.binOp BinOp.add 3 (Operand.tmp 10) (Operand.const (Value.int IntKind.i64 1)) 3), none⟩,
  ⟨(some 10), (Op.move (Operand.tmp 35)), none⟩]
attribute [go_sem] r42_6
def k42_1b : PC := (.seq (.reg r42_2) (.seq (.cond (Operand.tmp 11) .skip (.pre ⟨[1], [.old 0], []⟩ (.exit 0))) (.seq (.block 1 (.seq (.reg r42_3) (.seq (.pre ⟨[1, 4, 8, 9, 10], [.old 0, .old 1], []⟩ k42_3) (.cond (Operand.tmp 34) (.seq (.reg r42_5) (.pre ⟨[2], [], []⟩ .ret)) .skip)))) (.post (.reg r42_6) ⟨[1, 8, 9, 10], [.old 0], []⟩))))
def r42_8 : List PO := [⟨(some 40), (Op.binOp BinOp.lss 3 (Operand.tmp 39) (Operand.tmp 38) 3), none⟩]
attribute [go_sem] r42_8
def r42_9 : List PO := [⟨(some 41), (Op.indexAddr 71 (Operand.tmp 37) (Operand.tmp 39)), none⟩,
  ⟨(some 42), (Op.load 53 (Operand.tmp 41)), none⟩,
  ⟨(some 6), (Op.alloc 53), none⟩,
  ⟨none, (Op.store 53 (Operand.tmp 6) (Operand.tmp 42)), none⟩]
attribute [go_sem] r42_9
def r42_10 : List PO := [⟨(some 43), (Op.load 53 (Operand.tmp 6)), none⟩,
  ⟨(some 44), (Op.call { callee := (Callee.value (Operand.func 48)), args := #[(Operand.tmp 43)], argTypes := #[53] }), none⟩,
  ⟨(some 45), (Op.unOp UnOp.not 4 (Operand.tmp 44)), none⟩]
attribute [go_sem] r42_10
def r42_11 : List PO := [⟨(some 2), (Op.assign (Operand.const (Value.bool false))), none⟩]
attribute [go_sem] r42_11
def r42_12 : List PO := [⟨(some 46), (Op.binOp BinOp.add 3 (Operand.tmp 39) (Operand.const (Value.int IntKind.i64 1)) 3), none⟩,
  ⟨(some 39), (Op.move (Operand.tmp 46)), none⟩]
attribute [go_sem] r42_12
def k42_4b : PC := (.seq (.reg r42_8) (.seq (.cond (Operand.tmp 40) .skip (.pre ⟨[1], [.old 0], []⟩ (.exit 2))) (.seq (.block 3 (.seq (.reg r42_9) (.seq (.reg r42_10) (.cond (Operand.tmp 45) (.seq (.reg r42_11) (.pre ⟨[2], [], []⟩ .ret)) .skip)))) (.post (.reg r42_12) ⟨[1, 37, 38, 39], [.old 0], []⟩))))
def r42_13 : List PO := [⟨(some 47), (Op.fieldAddr 73 (Operand.tmp 1) 0), none⟩,
  ⟨(some 48), (Op.load 69 (Operand.tmp 47)), none⟩,
  ⟨(some 49), (Op.call { callee := (Callee.builtin Builtin.len), args := #[(Operand.tmp 48)], argTypes := #[69] }), none⟩,
  ⟨(some 50), (Op.binOp BinOp.leq 3 (Operand.tmp 49) (Operand.const (Value.int IntKind.i64 6)) 3), none⟩,
  ⟨(some 51), (Op.move (Operand.tmp 50)), none⟩,
  ⟨(some 52), (Op.fieldAddr 73 (Operand.tmp 1) 3), (some (51, true))⟩,
  ⟨(some 53), (Op.load 71 (Operand.tmp 52)), (some (51, true))⟩,
  ⟨(some 54), (Op.call { callee := (Callee.builtin Builtin.len), args := #[(Operand.tmp 53)], argTypes := #[71] }), (some (51, true))⟩,
  ⟨(some 55), (Op.binOp BinOp.leq 3 (Operand.tmp 54) (Operand.const (Value.int IntKind.i64 5)) 3), (some (51, true))⟩,
  ⟨(some 56), (Op.pick (Operand.tmp 51) (Operand.tmp 55) (Operand.const (Value.bool false))), none⟩,
  ⟨(some 57), (Op.move (Operand.tmp 56)), none⟩,
  ⟨(some 58), (Op.fieldAddr 73 (Operand.tmp 1) 1), (some (57, true))⟩,
  ⟨(some 59), (Op.load 70 (Operand.tmp 58)), (some (57, true))⟩,
  ⟨(some 60), (Op.call { callee := (Callee.builtin Builtin.len), args := #[(Operand.tmp 59)], argTypes := #[70] }), (some (57, true))⟩,
  ⟨(some 61), (Op.binOp BinOp.eql 3 (Operand.tmp 60) (Operand.const (Value.int IntKind.i64 0)) 3), (some (57, true))⟩,
  ⟨(some 62), (Op.move (Operand.tmp 61)), (some (57, true))⟩,
  ⟨(some 63), (Op.fieldAddr 73 (Operand.tmp 1) 1), (some (62, false))⟩,
  ⟨(some 64), (Op.load 70 (Operand.tmp 63)), (some (62, false))⟩,
  ⟨(some 65), (Op.call { callee := (Callee.value (Operand.func 82)), args := #[(Operand.tmp 64)], argTypes := #[70] }), (some (62, false))⟩,
  ⟨(some 66), (Op.pick (Operand.tmp 62) (Operand.const (Value.bool true)) (Operand.tmp 65)), (some (57, true))⟩,
  ⟨(some 67), (Op.pick (Operand.tmp 57) (Operand.tmp 66) (Operand.const (Value.bool false))), none⟩,
  ⟨(some 68), (Op.move (Operand.tmp 67)), none⟩,
  ⟨(some 69), (Op.fieldAddr 73 (Operand.tmp 1) 2), (some (68, true))⟩,
  ⟨(some 70), (Op.load 3 (Operand.tmp 69)), (some (68, true))⟩,
  ⟨(some 71), (Op.call { callee := (Callee.value (Operand.func 71)), args := #[(Operand.tmp 70), (Operand.const (Value.int IntKind.i64 (-1))), (Operand.const (Value.int IntKind.i64 1000000))], argTypes := #[3, 3, 3] }), (some (68, true))⟩,
  ⟨(some 72), (Op.pick (Operand.tmp 68) (Operand.tmp 71) (Operand.const (Value.bool false))), none⟩,
  ⟨(some 73), (Op.move (Operand.tmp 72)), none⟩,
  ⟨(some 74), (Op.fieldAddr 73 (Operand.tmp 1) 4), (some (73, true))⟩,
  ⟨(some 75), (Op.load 3 (Operand.tmp 74)), (some (73, true))⟩,
  ⟨(some 76), (Op.call { callee := (Callee.value (Operand.func 71)), args := #[(Operand.tmp 75), (Operand.const (Value.int IntKind.i64 0)), (Operand.const (Value.int IntKind.i64 2))], argTypes := #[3, 3, 3] }), (some (73, true))⟩,
  ⟨(some 77), (Op.pick (Operand.tmp 73) (Operand.tmp 76) (Operand.const (Value.bool false))), none⟩,
  ⟨(some 2), (Op.assign (Operand.tmp 77)), none⟩]
attribute [go_sem] r42_13
def k42_5 : PC := (.post (.reg r42_13) ⟨[2], [], []⟩)
def r42_0 : List PO := [⟨(some 1), (Op.box 73 (Operand.tmp 0)), none⟩,
  ⟨(some 2), (Op.assign (Operand.const (Value.bool false))), none⟩]
attribute [go_sem] r42_0
def r42_1 : List PO := [⟨(some 7), (Op.fieldAddr 73 (Operand.tmp 1) 0), none⟩,
  ⟨(some 8), (Op.load 69 (Operand.tmp 7)), none⟩,
  ⟨(some 9), (Op.call { callee := (Callee.builtin Builtin.len), args := #[(Operand.tmp 8)], argTypes := #[69] }), none⟩,
  ⟨(some 10), (Op.move (Operand.const (Value.int IntKind.i64 0))), none⟩]
attribute [go_sem] r42_1
def r42_7 : List PO := [⟨(some 36), (Op.fieldAddr 73 (Operand.tmp 1) 3), none⟩,
  ⟨(some 37), (Op.load 71 (Operand.tmp 36)), none⟩,
  ⟨(some 38), (Op.call { callee := (Callee.builtin Builtin.len), args := #[(Operand.tmp 37)], argTypes := #[71] }), none⟩,
  ⟨(some 39), (Op.move (Operand.const (Value.int IntKind.i64 0))), none⟩]
attribute [go_sem] r42_7
def c42 : PC := (.seq (.reg r42_0) (.seq (.seq (.reg r42_1) (.block 0 (.pre ⟨[1, 8, 9, 10], [.old 0], []⟩ (.loop k42_1b)))) (.seq (.seq (.reg r42_7) (.block 2 (.pre ⟨[1, 37, 38, 39], [.old 0], []⟩ (.loop k42_4b)))) (.seq (.pre ⟨[1], [.old 0], []⟩ k42_5) .ret))))
def i42 : FnI := ⟨78, [(ResultVar.tmp 2)], c42, 0, [[4, 2, 0, 2, 0]], [[0]], false, false, 0⟩
-- loop.example/g00344/spec.GoodPolicy
def r14_2 : List PO := [⟨(some 9), (Op.binOp BinOp.lss 3 (Operand.tmp 8) (Operand.tmp 7) 3), none⟩]
attribute [go_sem] r14_2
def r14_3 : List PO := [⟨(some 10), (Op.indexAddr 43 (Operand.tmp 6) (Operand.tmp 8)), none⟩,
  ⟨(some 11), (Op.load 73 (Operand.tmp 10)), none⟩,
  ⟨(some 4), (Op.alloc 73), none⟩,
  ⟨none, (Op.store 73 (Operand.tmp 4) (Operand.tmp 11)), none⟩]
attribute [go_sem] r14_3
def r14_4 : List PO := [⟨(some 12), (Op.load 73 (Operand.tmp 4)), none⟩,
  ⟨(some 13), (Op.call { callee := (Callee.value (Operand.func 42)), args := #[(Operand.tmp 12)], argTypes := #[73] }), none⟩,
  ⟨(some 14), (Op.unOp UnOp.not 4 (Operand.tmp 13)), none⟩]
attribute [go_sem] r14_4
def r14_5 : List PO := [⟨(some 2), (Op.assign (Operand.const (Value.bool false))), none⟩]
attribute [go_sem] r14_5
def r14_6 : List PO := [⟨(some 15), (Op.binOp BinOp.add 3 (Operand.tmp 8) (Operand.const (Value.int IntKind.i64 1)) 3), none⟩,
  ⟨(some 8), (Op.move (Operand.tmp 15)), none⟩]
attribute [go_sem] r14_6
def k14_1b : PC := (.seq (.reg r14_2) (.seq (.cond (Operand.tmp 9) .skip (.pre ⟨[1], [.old 0], []⟩ (.exit 0))) (.seq (.block 1 (.seq (.reg r14_3) (.seq (.reg r14_4) (.cond (Operand.tmp 14) (.seq (.reg r14_5) (.pre ⟨[2], [], []⟩ .ret)) .skip)))) (.post (.reg r14_6) ⟨[1, 6, 7, 8], [.old 0], []⟩))))
def r14_0 : List PO := [⟨(some 1), (Op.box 45 (Operand.tmp 0)), none⟩,
  ⟨(some 2), (Op.assign (Operand.const (Value.bool false))), none⟩]
attribute [go_sem] r14_0
def r14_1 : List PO := [⟨(some 5), (Op.fieldAddr 45 (Operand.tmp 1) 0), none⟩,
  ⟨(some 6), (Op.load 43 (Operand.tmp 5)), none⟩,
  ⟨(some 7), (Op.call { callee := (Callee.builtin Builtin.len), args := #[(Operand.tmp 6)], argTypes := #[43] }), none⟩,
  ⟨(some 8), (Op.move (Operand.const (Value.int IntKind.i64 0))), none⟩]
attribute [go_sem] r14_1
def r14_7 : List PO := [⟨(some 16), (Op.fieldAddr 45 (Operand.tmp 1) 0), none⟩,
  ⟨(some 17), (Op.load 43 (Operand.tmp 16)), none⟩,
  ⟨(some 18), (Op.call { callee := (Callee.builtin Builtin.len), args := #[(Operand.tmp 17)], argTypes := #[43] }), none⟩,
  ⟨(some 19), (Op.binOp BinOp.leq 3 (Operand.tmp 18) (Operand.const (Value.int IntKind.i64 8)) 3), none⟩,
  ⟨(some 2), (Op.assign (Operand.tmp 19)), none⟩]
attribute [go_sem] r14_7
def c14 : PC := (.seq (.reg r14_0) (.seq (.seq (.reg r14_1) (.block 0 (.pre ⟨[1, 6, 7, 8], [.old 0], []⟩ (.loop k14_1b)))) (.seq (.reg r14_7) .ret)))
def i14 : FnI := ⟨20, [(ResultVar.tmp 2)], c14, 0, [[5, 0]], [[0]], false, false, 0⟩
-- slices.IndexFunc[[]loop.example/g00344/impl.Term,loop.example/g00344/impl.Term]
def r83_2 : List PO := [⟨(some 9), (Op.binOp BinOp.lss 3 (Operand.tmp 8) (Operand.tmp 7) 3), none⟩]
attribute [go_sem] r83_2
def r83_3 : List PO := [⟨(some 10), (Op.move (Operand.tmp 8)), none⟩,
  ⟨(some 5), (Op.assign (Operand.tmp 10)), none⟩]
attribute [go_sem] r83_3
def r83_4 : List PO := [⟨(some 11), (Op.move (Operand.tmp 1)), none⟩,
  ⟨(some 12), (Op.move (Operand.tmp 0)), none⟩,
  ⟨(some 13), (Op.move (Operand.tmp 5)), none⟩,
  ⟨(some 14), (Op.indexAddr 43 (Operand.tmp 12) (Operand.tmp 13)), none⟩,
  ⟨(some 15), (Op.load 73 (Operand.tmp 14)), none⟩,
  ⟨(some 16), (Op.call { callee := (Callee.value (Operand.tmp 11)), args := #[(Operand.tmp 15)], argTypes := #[73] }), none⟩]
attribute [go_sem] r83_4
def r83_5 : List PO := [⟨(some 17), (Op.move (Operand.tmp 5)), none⟩,
  ⟨(some 4), (Op.assign (Operand.tmp 17)), none⟩]
attribute [go_sem] r83_5
def r83_6 : List PO := [⟨(some 18), (Op.binOp BinOp.add 3 (Operand.tmp 8) (Operand.const (Value.int IntKind.i64 1)) 3), none⟩,
  ⟨(some 8), (Op.move (Operand.tmp 18)), none⟩]
attribute [go_sem] r83_6
def k83_1b : PC := (.seq (.reg r83_2) (.seq (.cond (Operand.tmp 9) .skip (.pre ⟨[], [], []⟩ (.exit 0))) (.seq (.block 1 (.seq (.reg r83_3) (.seq (.reg r83_4) (.cond (Operand.tmp 16) (.seq (.reg r83_5) (.pre ⟨[4], [], []⟩ .ret)) .skip)))) (.post (.reg r83_6) ⟨[0, 1, 7, 8], [], []⟩))))
def r83_0 : List PO := [⟨(some 4), (Op.assign (Operand.const (Value.int IntKind.i64 0))), none⟩]
attribute [go_sem] r83_0
def r83_1 : List PO := [⟨(some 6), (Op.move (Operand.tmp 0)), none⟩,
  ⟨(some 7), (Op.call { callee := (Callee.builtin Builtin.len), args := #[(Operand.tmp 6)], argTypes := #[43] }), none⟩,
  ⟨(some 8), (Op.move (Operand.const (Value.int IntKind.i64 0))), none⟩]
attribute [go_sem] r83_1
def r83_7 : List PO := [⟨(some 4), (Op.assign (Operand.const (Value.int IntKind.i64 (-1)))), none⟩]
attribute [go_sem] r83_7
def c83 : PC := (.seq (.reg r83_0) (.seq (.seq (.reg r83_1) (.block 0 (.pre ⟨[0, 1, 7, 8], [], []⟩ (.loop k83_1b)))) (.seq (.reg r83_7) .ret)))
def i83 : FnI := ⟨19, [(ResultVar.tmp 4)], c83, 0, [[5], [0]], [[0]], false, false, 0⟩
-- slices.ContainsFunc[[]loop.example/g00344/impl.Term,loop.example/g00344/impl.Term]
def r44_0 : List PO := [⟨(some 4), (Op.assign (Operand.const (Value.bool false))), none⟩]
attribute [go_sem] r44_0
def r44_1 : List PO := [⟨(some 5), (Op.move (Operand.tmp 0)), none⟩,
  ⟨(some 6), (Op.move (Operand.tmp 1)), none⟩,
  ⟨(some 7), (Op.call { callee := (Callee.value (Operand.func 83)), args := #[(Operand.tmp 5), (Operand.tmp 6)], argTypes := #[43, 85] }), none⟩,
  ⟨(some 8), (Op.binOp BinOp.geq 3 (Operand.tmp 7) (Operand.const (Value.int IntKind.i64 0)) 3), none⟩,
  ⟨(some 4), (Op.assign (Operand.tmp 8)), none⟩]
attribute [go_sem] r44_1
def c44 : PC := (.seq (.reg r44_0) (.seq (.reg r44_1) .ret))
def i44 : FnI := ⟨9, [(ResultVar.tmp 4)], c44, 0, [[5], [0]], [[0]], false, false, 0⟩
-- loop.example/g00344/impl.within
def r75_1 : List PO := [⟨(some 7), (Op.move (Operand.tmp 0)), none⟩,
  ⟨(some 8), (Op.move (Operand.tmp 1)), none⟩,
  ⟨(some 9), (Op.binOp BinOp.geq 3 (Operand.tmp 7) (Operand.tmp 8) 3), none⟩,
  ⟨(some 10), (Op.move (Operand.tmp 9)), none⟩,
  ⟨(some 11), (Op.move (Operand.tmp 0)), (some (10, true))⟩,
  ⟨(some 12), (Op.move (Operand.tmp 2)), (some (10, true))⟩,
  ⟨(some 13), (Op.binOp BinOp.leq 3 (Operand.tmp 11) (Operand.tmp 12) 3), (some (10, true))⟩,
  ⟨(some 14), (Op.pick (Operand.tmp 10) (Operand.tmp 13) (Operand.const (Value.bool false))), none⟩,
  ⟨(some 6), (Op.assign (Operand.tmp 14)), none⟩]
attribute [go_sem] r75_1
def k75_1 : PC := (.post (.reg r75_1) ⟨[6], [], []⟩)
def r75_0 : List PO := [⟨(some 6), (Op.assign (Operand.const (Value.bool false))), none⟩]
attribute [go_sem] r75_0
def c75 : PC := (.seq (.reg r75_0) (.seq (.pre ⟨[0, 1, 2], [], []⟩ k75_1) .ret))
def i75 : FnI := ⟨15, [(ResultVar.tmp 6)], c75, 0, [[0], [0], [0]], [[0]], false, false, 0⟩
-- loop.example/g00344/impl.partsOf
def r144_5 : List PO := [⟨(some 8), (Op.binOp BinOp.eql 3 (Operand.tmp 3) (Operand.const (Value.int IntKind.i64 4)) 3), none⟩,
  ⟨(some 4), (Op.assign (Operand.tmp 8)), none⟩]
attribute [go_sem] r144_5
def k144_3 : PC := (.cond (Operand.tmp 4) (.post .skip ⟨[3, 4], [], []⟩) (.post (.reg r144_5) ⟨[3, 4], [], []⟩))
def r144_4 : List PO := [⟨(some 7), (Op.binOp BinOp.eql 3 (Operand.tmp 3) (Operand.const (Value.int IntKind.i64 3)) 3), none⟩,
  ⟨(some 4), (Op.assign (Operand.tmp 7)), none⟩]
attribute [go_sem] r144_4
def k144_2 : PC := (.cond (Operand.tmp 4) (.post .skip ⟨[3, 4], [], []⟩) (.seq (.reg r144_4) (.post (.pre ⟨[3, 4], [], []⟩ k144_3) ⟨[3, 4], [], []⟩)))
def r144_3 : List PO := [⟨(some 6), (Op.binOp BinOp.eql 3 (Operand.tmp 3) (Operand.const (Value.int IntKind.i64 2)) 3), none⟩,
  ⟨(some 4), (Op.assign (Operand.tmp 6)), none⟩]
attribute [go_sem] r144_3
def k144_1 : PC := (.cond (Operand.tmp 4) (.post .skip ⟨[3, 4], [], []⟩) (.seq (.reg r144_3) (.post (.pre ⟨[3, 4], [], []⟩ k144_2) ⟨[3, 4], [], []⟩)))
def r144_10 : List PO := [⟨(some 13), (Op.binOp BinOp.eql 3 (Operand.tmp 3) (Operand.const (Value.int IntKind.i64 6)) 3), none⟩,
  ⟨(some 11), (Op.assign (Operand.tmp 13)), none⟩]
attribute [go_sem] r144_10
def k144_4 : PC := (.cond (Operand.tmp 11) (.post .skip ⟨[11], [], []⟩) (.post (.reg r144_10) ⟨[11], [], []⟩))
def r144_0 : List PO := [⟨(some 2), (Op.assign (Operand.const (Value.int IntKind.i64 0))), none⟩]
attribute [go_sem] r144_0
def r144_1 : List PO := [⟨(some 3), (Op.move (Operand.tmp 0)), none⟩]
attribute [go_sem] r144_1
def r144_2 : List PO := [⟨(some 5), (Op.binOp BinOp.eql 3 (Operand.tmp 3) (Operand.const (Value.int IntKind.i64 1)) 3), none⟩,
  ⟨(some 4), (Op.assign (Operand.tmp 5)), none⟩]
attribute [go_sem] r144_2
def r144_6 : List PO := [⟨(some 2), (Op.assign (Operand.const (Value.int IntKind.i64 0))), none⟩]
attribute [go_sem] r144_6
def r144_7 : List PO := [⟨(some 10), (Op.binOp BinOp.eql 3 (Operand.tmp 3) (Operand.const (Value.int IntKind.i64 7)) 3), none⟩,
  ⟨(some 9), (Op.assign (Operand.tmp 10)), none⟩]
attribute [go_sem] r144_7
def r144_8 : List PO := [⟨(some 2), (Op.assign (Operand.const (Value.int IntKind.i64 1))), none⟩]
attribute [go_sem] r144_8
def r144_9 : List PO := [⟨(some 12), (Op.binOp BinOp.eql 3 (Operand.tmp 3) (Operand.const (Value.int IntKind.i64 5)) 3), none⟩,
  ⟨(some 11), (Op.assign (Operand.tmp 12)), none⟩]
attribute [go_sem] r144_9
def r144_11 : List PO := [⟨(some 2), (Op.assign (Operand.const (Value.int IntKind.i64 2))), none⟩]
attribute [go_sem] r144_11
def r144_12 : List PO := [⟨(some 2), (Op.assign (Operand.const (Value.int IntKind.i64 (-1)))), none⟩]
attribute [go_sem] r144_12
def c144 : PC := (.seq (.reg r144_0) (.seq (.seq (.reg r144_1) (.block 0 (.seq (.seq (.reg r144_2) (.pre ⟨[3, 4], [], []⟩ k144_1)) (.cond (Operand.tmp 4) (.seq (.reg r144_6) .ret) (.seq (.reg r144_7) (.cond (Operand.tmp 9) (.seq (.reg r144_8) .ret) (.seq (.seq (.reg r144_9) (.pre ⟨[3, 11], [], []⟩ k144_4)) (.cond (Operand.tmp 11) (.seq (.reg r144_11) .ret) .skip)))))))) (.seq (.reg r144_12) .ret)))
def i144 : FnI := ⟨14, [(ResultVar.tmp 2)], c144, 0, [[0]], [[0]], false, false, 0⟩
-- loop.example/g00344/impl.sizeAt
def r123_3 : List PO := [⟨(some 9), (Op.move (Operand.tmp 6)), none⟩,
  ⟨(some 10), (Op.move (Operand.tmp 0)), none⟩,
  ⟨(some 11), (Op.call { callee := (Callee.builtin Builtin.len), args := #[(Operand.tmp 10)], argTypes := #[70] }), none⟩,
  ⟨(some 12), (Op.binOp BinOp.lss 3 (Operand.tmp 9) (Operand.tmp 11) 3), none⟩]
attribute [go_sem] r123_3
def r123_5 : List PO := [⟨(some 15), (Op.move (Operand.tmp 0)), none⟩,
  ⟨(some 16), (Op.move (Operand.tmp 6)), none⟩,
  ⟨(some 17), (Op.indexAddr 70 (Operand.tmp 15) (Operand.tmp 16)), none⟩,
  ⟨(some 18), (Op.fieldAddr 129 (Operand.tmp 17) 0), none⟩,
  ⟨(some 19), (Op.load 3 (Operand.tmp 18)), none⟩,
  ⟨(some 20), (Op.call { callee := (Callee.value (Operand.func 144)), args := #[(Operand.tmp 19)], argTypes := #[3] }), none⟩,
  ⟨(some 7), (Op.assign (Operand.tmp 20)), none⟩]
attribute [go_sem] r123_5
def r123_6 : List PO := [⟨(some 21), (Op.move (Operand.tmp 7)), none⟩,
  ⟨(some 22), (Op.binOp BinOp.lss 3 (Operand.tmp 21) (Operand.const (Value.int IntKind.i64 0)) 3), none⟩]
attribute [go_sem] r123_6
def r123_7 : List PO := [⟨(some 4), (Op.assign (Operand.const (Value.int IntKind.i64 (-1)))), none⟩]
attribute [go_sem] r123_7
def r123_8 : List PO := [⟨(some 23), (Op.move (Operand.tmp 5)), none⟩,
  ⟨(some 24), (Op.move (Operand.tmp 7)), none⟩,
  ⟨(some 25), (Op.binOp BinOp.sub 3 (Operand.tmp 24) (Operand.const (Value.int IntKind.i64 1)) 3), none⟩,
  ⟨(some 26), (Op.binOp BinOp.add 3 (Operand.tmp 23) (Operand.tmp 25) 3), none⟩,
  ⟨(some 5), (Op.assign (Operand.tmp 26)), none⟩]
attribute [go_sem] r123_8
def r123_9 : List PO := [⟨(some 27), (Op.move (Operand.tmp 5)), none⟩,
  ⟨(some 28), (Op.binOp BinOp.eql 3 (Operand.tmp 27) (Operand.const (Value.int IntKind.i64 0)) 3), none⟩]
attribute [go_sem] r123_9
def r123_10 : List PO := [⟨(some 29), (Op.move (Operand.tmp 6)), none⟩,
  ⟨(some 30), (Op.binOp BinOp.add 3 (Operand.tmp 29) (Operand.const (Value.int IntKind.i64 1)) 3), none⟩,
  ⟨(some 31), (Op.move (Operand.tmp 1)), none⟩,
  ⟨(some 32), (Op.binOp BinOp.sub 3 (Operand.tmp 30) (Operand.tmp 31) 3), none⟩,
  ⟨(some 4), (Op.assign (Operand.tmp 32)), none⟩]
attribute [go_sem] r123_10
def r123_4 : List PO := [⟨(some 13), (Op.move (Operand.tmp 6)), none⟩,
  ⟨(some 14), (Op.binOp BinOp.add 3 (Operand.tmp 13) (Operand.const (Value.int IntKind.i64 1)) 3), none⟩,
  ⟨(some 6), (Op.assign (Operand.tmp 14)), none⟩]
attribute [go_sem] r123_4
def k123_1b : PC := (.seq (.seq (.reg r123_3) (.cond (Operand.tmp 12) .skip (.pre ⟨[], [], []⟩ (.exit 0)))) (.seq (.block 1 (.seq (.reg r123_5) (.seq (.seq (.reg r123_6) (.cond (Operand.tmp 22) (.seq (.reg r123_7) (.pre ⟨[4], [], []⟩ .ret)) .skip)) (.seq (.reg r123_8) (.seq (.reg r123_9) (.cond (Operand.tmp 28) (.seq (.reg r123_10) (.pre ⟨[4], [], []⟩ .ret)) .skip)))))) (.post (.reg r123_4) ⟨[0, 1, 5, 6], [], []⟩)))
def r123_0 : List PO := [⟨(some 4), (Op.assign (Operand.const (Value.int IntKind.i64 0))), none⟩]
attribute [go_sem] r123_0
def r123_1 : List PO := [⟨(some 5), (Op.assign (Operand.const (Value.int IntKind.i64 1))), none⟩]
attribute [go_sem] r123_1
def r123_2 : List PO := [⟨(some 8), (Op.move (Operand.tmp 1)), none⟩,
  ⟨(some 6), (Op.assign (Operand.tmp 8)), none⟩]
attribute [go_sem] r123_2
def r123_11 : List PO := [⟨(some 4), (Op.assign (Operand.const (Value.int IntKind.i64 (-1)))), none⟩]
attribute [go_sem] r123_11
def c123 : PC := (.seq (.reg r123_0) (.seq (.reg r123_1) (.seq (.seq (.reg r123_2) (.block 0 (.pre ⟨[0, 1, 5, 6], [], []⟩ (.loop k123_1b)))) (.seq (.reg r123_11) .ret))))
def i123 : FnI := ⟨33, [(ResultVar.tmp 4)], c123, 0, [[2], [0]], [[0]], false, false, 0⟩
-- slices.IndexFunc[[]loop.example/g00344/impl.ReCell,loop.example/g00344/impl.ReCell]
def r145_2 : List PO := [⟨(some 9), (Op.binOp BinOp.lss 3 (Operand.tmp 8) (Operand.tmp 7) 3), none⟩]
attribute [go_sem] r145_2
def r145_3 : List PO := [⟨(some 10), (Op.move (Operand.tmp 8)), none⟩,
  ⟨(some 5), (Op.assign (Operand.tmp 10)), none⟩]
attribute [go_sem] r145_3
def r145_4 : List PO := [⟨(some 11), (Op.move (Operand.tmp 1)), none⟩,
  ⟨(some 12), (Op.move (Operand.tmp 0)), none⟩,
  ⟨(some 13), (Op.move (Operand.tmp 5)), none⟩,
  ⟨(some 14), (Op.indexAddr 70 (Operand.tmp 12) (Operand.tmp 13)), none⟩,
  ⟨(some 15), (Op.load 129 (Operand.tmp 14)), none⟩,
  ⟨(some 16), (Op.call { callee := (Callee.value (Operand.tmp 11)), args := #[(Operand.tmp 15)], argTypes := #[129] }), none⟩]
attribute [go_sem] r145_4
def r145_5 : List PO := [⟨(some 17), (Op.move (Operand.tmp 5)), none⟩,
  ⟨(some 4), (Op.assign (Operand.tmp 17)), none⟩]
attribute [go_sem] r145_5
def r145_6 : List PO := [⟨(some 18), (Op.binOp BinOp.add 3 (Operand.tmp 8) (Operand.const (Value.int IntKind.i64 1)) 3), none⟩,
  ⟨(some 8), (Op.move (Operand.tmp 18)), none⟩]
attribute [go_sem] r145_6
def k145_1b : PC := (.seq (.reg r145_2) (.seq (.cond (Operand.tmp 9) .skip (.pre ⟨[], [], []⟩ (.exit 0))) (.seq (.block 1 (.seq (.reg r145_3) (.seq (.reg r145_4) (.cond (Operand.tmp 16) (.seq (.reg r145_5) (.pre ⟨[4], [], []⟩ .ret)) .skip)))) (.post (.reg r145_6) ⟨[0, 1, 7, 8], [], []⟩))))
def r145_0 : List PO := [⟨(some 4), (Op.assign (Operand.const (Value.int IntKind.i64 0))), none⟩]
attribute [go_sem] r145_0
def r145_1 : List PO := [⟨(some 6), (Op.move (Operand.tmp 0)), none⟩,
  ⟨(some 7), (Op.call { callee := (Callee.builtin Builtin.len), args := #[(Operand.tmp 6)], argTypes := #[70] }), none⟩,
  ⟨(some 8), (Op.move (Operand.const (Value.int IntKind.i64 0))), none⟩]
attribute [go_sem] r145_1
def r145_7 : List PO := [⟨(some 4), (Op.assign (Operand.const (Value.int IntKind.i64 (-1)))), none⟩]
attribute [go_sem] r145_7
def c145 : PC := (.seq (.reg r145_0) (.seq (.seq (.reg r145_1) (.block 0 (.pre ⟨[0, 1, 7, 8], [], []⟩ (.loop k145_1b)))) (.seq (.reg r145_7) .ret)))
def i145 : FnI := ⟨19, [(ResultVar.tmp 4)], c145, 0, [[2], [0]], [[0]], false, false, 0⟩
-- slices.ContainsFunc[[]loop.example/g00344/impl.ReCell,loop.example/g00344/impl.ReCell]
def r124_0 : List PO := [⟨(some 4), (Op.assign (Operand.const (Value.bool false))), none⟩]
attribute [go_sem] r124_0
def r124_1 : List PO := [⟨(some 5), (Op.move (Operand.tmp 0)), none⟩,
  ⟨(some 6), (Op.move (Operand.tmp 1)), none⟩,
  ⟨(some 7), (Op.call { callee := (Callee.value (Operand.func 145)), args := #[(Operand.tmp 5), (Operand.tmp 6)], argTypes := #[70, 153] }), none⟩,
  ⟨(some 8), (Op.binOp BinOp.geq 3 (Operand.tmp 7) (Operand.const (Value.int IntKind.i64 0)) 3), none⟩,
  ⟨(some 4), (Op.assign (Operand.tmp 8)), none⟩]
attribute [go_sem] r124_1
def c124 : PC := (.seq (.reg r124_0) (.seq (.reg r124_1) .ret))
def i124 : FnI := ⟨9, [(ResultVar.tmp 4)], c124, 0, [[2], [0]], [[0]], false, false, 0⟩
-- loop.example/g00344/impl.isAsn
def r91_0 : List PO := [⟨(some 2), (Op.assign (Operand.const (Value.bool false))), none⟩]
attribute [go_sem] r91_0
def r91_1 : List PO := [⟨(some 3), (Op.move (Operand.tmp 0)), none⟩,
  ⟨(some 4), (Op.call { callee := (Callee.value (Operand.func 75)), args := #[(Operand.tmp 3), (Operand.const (Value.int IntKind.i64 1)), (Operand.const (Value.int IntKind.i64 65535))], argTypes := #[3, 3, 3] }), none⟩,
  ⟨(some 2), (Op.assign (Operand.tmp 4)), none⟩]
attribute [go_sem] r91_1
def c91 : PC := (.seq (.reg r91_0) (.seq (.reg r91_1) .ret))
def i91 : FnI := ⟨5, [(ResultVar.tmp 2)], c91, 0, [[0]], [[0]], false, false, 0⟩
-- loop.example/g00344/impl.GoodRegex$1
def r125_1 : List PO := [⟨(some 3), (Op.fieldAddr 129 (Operand.tmp 1) 0), none⟩,
  ⟨(some 4), (Op.load 3 (Operand.tmp 3)), none⟩,
  ⟨(some 5), (Op.binOp BinOp.eql 3 (Operand.tmp 4) (Operand.const (Value.int IntKind.i64 3)) 3), none⟩,
  ⟨(some 6), (Op.move (Operand.tmp 5)), none⟩,
  ⟨(some 7), (Op.fieldAddr 129 (Operand.tmp 1) 1), (some (6, true))⟩,
  ⟨(some 8), (Op.load 3 (Operand.tmp 7)), (some (6, true))⟩,
  ⟨(some 9), (Op.call { callee := (Callee.value (Operand.func 91)), args := #[(Operand.tmp 8)], argTypes := #[3] }), (some (6, true))⟩,
  ⟨(some 10), (Op.unOp UnOp.not 4 (Operand.tmp 9)), (some (6, true))⟩,
  ⟨(some 11), (Op.pick (Operand.tmp 6) (Operand.tmp 10) (Operand.const (Value.bool false))), none⟩,
  ⟨(some 12), (Op.move (Operand.tmp 11)), none⟩,
  ⟨(some 13), (Op.fieldAddr 129 (Operand.tmp 1) 0), (some (12, false))⟩,
  ⟨(some 14), (Op.load 3 (Operand.tmp 13)), (some (12, false))⟩,
  ⟨(some 15), (Op.binOp BinOp.neq 3 (Operand.tmp 14) (Operand.const (Value.int IntKind.i64 3)) 3), (some (12, false))⟩,
  ⟨(some 16), (Op.move (Operand.tmp 15)), (some (12, false))⟩,
  ⟨(some 17), (Op.fieldAddr 129 (Operand.tmp 1) 1), (some (16, true))⟩,
  ⟨(some 18), (Op.load 3 (Operand.tmp 17)), (some (16, true))⟩,
  ⟨(some 19), (Op.binOp BinOp.neq 3 (Operand.tmp 18) (Operand.const (Value.int IntKind.i64 0)) 3), (some (16, true))⟩,
  ⟨(some 20), (Op.pick (Operand.tmp 16) (Operand.tmp 19) (Operand.const (Value.bool false))), (some (12, false))⟩,
  ⟨(some 21), (Op.pick (Operand.tmp 12) (Operand.const (Value.bool true)) (Operand.tmp 20)), none⟩,
  ⟨(some 2), (Op.assign (Operand.tmp 21)), none⟩]
attribute [go_sem] r125_1
def k125_1 : PC := (.post (.reg r125_1) ⟨[2], [], []⟩)
def r125_0 : List PO := [⟨(some 1), (Op.box 129 (Operand.tmp 0)), none⟩,
  ⟨(some 2), (Op.assign (Operand.const (Value.bool false))), none⟩]
attribute [go_sem] r125_0
def c125 : PC := (.seq (.reg r125_0) (.seq (.pre ⟨[1], [.old 0], []⟩ k125_1) .ret))
def i125 : FnI := ⟨22, [(ResultVar.tmp 2)], c125, 0, [[0, 0]], [[0]], false, false, 0⟩
-- loop.example/g00344/impl.GoodRegex
def r84_1 : List PO := [⟨(some 3), (Op.move (Operand.tmp 0)), none⟩,
  ⟨(some 4), (Op.call { callee := (Callee.builtin Builtin.len), args := #[(Operand.tmp 3)], argTypes := #[70] }), none⟩,
  ⟨(some 5), (Op.call { callee := (Callee.value (Operand.func 75)), args := #[(Operand.tmp 4), (Operand.const (Value.int IntKind.i64 1)), (Operand.const (Value.int IntKind.i64 30))], argTypes := #[3, 3, 3] }), none⟩,
  ⟨(some 6), (Op.unOp UnOp.not 4 (Operand.tmp 5)), none⟩,
  ⟨(some 7), (Op.move (Operand.tmp 6)), none⟩,
  ⟨(some 8), (Op.move (Operand.tmp 0)), (some (7, false))⟩,
  ⟨(some 9), (Op.call { callee := (Callee.value (Operand.func 123)), args := #[(Operand.tmp 8), (Operand.const (Value.int IntKind.i64 0))], argTypes := #[70, 3] }), (some (7, false))⟩,
  ⟨(some 10), (Op.move (Operand.tmp 0)), (some (7, false))⟩,
  ⟨(some 11), (Op.call { callee := (Callee.builtin Builtin.len), args := #[(Operand.tmp 10)], argTypes := #[70] }), (some (7, false))⟩,
  ⟨(some 12), (Op.binOp BinOp.neq 3 (Operand.tmp 9) (Operand.tmp 11) 3), (some (7, false))⟩,
  ⟨(some 13), (Op.pick (Operand.tmp 7) (Operand.const (Value.bool true)) (Operand.tmp 12)), none⟩]
attribute [go_sem] r84_1
def k84_1 : PC := (.post (.reg r84_1) ⟨[0, 13], [], []⟩)
def r84_0 : List PO := [⟨(some 2), (Op.assign (Operand.const (Value.bool false))), none⟩]
attribute [go_sem] r84_0
def r84_2 : List PO := [⟨(some 2), (Op.assign (Operand.const (Value.bool false))), none⟩]
attribute [go_sem] r84_2
def r84_3 : List PO := [⟨(some 14), (Op.move (Operand.tmp 0)), none⟩,
  ⟨(some 15), (Op.call { callee := (Callee.value (Operand.func 124)), args := #[(Operand.tmp 14), (Operand.func 125)], argTypes := #[70, 153] }), none⟩,
  ⟨(some 16), (Op.unOp UnOp.not 4 (Operand.tmp 15)), none⟩,
  ⟨(some 2), (Op.assign (Operand.tmp 16)), none⟩]
attribute [go_sem] r84_3
def c84 : PC := (.seq (.reg r84_0) (.seq (.seq (.pre ⟨[0], [], []⟩ k84_1) (.cond (Operand.tmp 13) (.seq (.reg r84_2) .ret) .skip)) (.seq (.reg r84_3) .ret)))
def i84 : FnI := ⟨17, [(ResultVar.tmp 2)], c84, 0, [[2]], [[0]], false, false, 0⟩
-- loop.example/g00344/impl.isValue
def r79_0 : List PO := [⟨(some 2), (Op.assign (Operand.const (Value.bool false))), none⟩]
attribute [go_sem] r79_0
def r79_1 : List PO := [⟨(some 3), (Op.move (Operand.tmp 0)), none⟩,
  ⟨(some 4), (Op.call { callee := (Callee.value (Operand.func 75)), args := #[(Operand.tmp 3), (Operand.const (Value.int IntKind.i64 0)), (Operand.const (Value.int IntKind.i64 1000000))], argTypes := #[3, 3, 3] }), none⟩,
  ⟨(some 2), (Op.assign (Operand.tmp 4)), none⟩]
attribute [go_sem] r79_1
def c79 : PC := (.seq (.reg r79_0) (.seq (.reg r79_1) .ret))
def i79 : FnI := ⟨5, [(ResultVar.tmp 2)], c79, 0, [[0]], [[0]], false, false, 0⟩
-- slices.IndexFunc[[]loop.example/g00344/impl.Range,loop.example/g00344/impl.Range]
def r126_2 : List PO := [⟨(some 9), (Op.binOp BinOp.lss 3 (Operand.tmp 8) (Operand.tmp 7) 3), none⟩]
attribute [go_sem] r126_2
def r126_3 : List PO := [⟨(some 10), (Op.move (Operand.tmp 8)), none⟩,
  ⟨(some 5), (Op.assign (Operand.tmp 10)), none⟩]
attribute [go_sem] r126_3
def r126_4 : List PO := [⟨(some 11), (Op.move (Operand.tmp 1)), none⟩,
  ⟨(some 12), (Op.move (Operand.tmp 0)), none⟩,
  ⟨(some 13), (Op.move (Operand.tmp 5)), none⟩,
  ⟨(some 14), (Op.indexAddr 69 (Operand.tmp 12) (Operand.tmp 13)), none⟩,
  ⟨(some 15), (Op.load 114 (Operand.tmp 14)), none⟩,
  ⟨(some 16), (Op.call { callee := (Callee.value (Operand.tmp 11)), args := #[(Operand.tmp 15)], argTypes := #[114] }), none⟩]
attribute [go_sem] r126_4
def r126_5 : List PO := [⟨(some 17), (Op.move (Operand.tmp 5)), none⟩,
  ⟨(some 4), (Op.assign (Operand.tmp 17)), none⟩]
attribute [go_sem] r126_5
def r126_6 : List PO := [⟨(some 18), (Op.binOp BinOp.add 3 (Operand.tmp 8) (Operand.const (Value.int IntKind.i64 1)) 3), none⟩,
  ⟨(some 8), (Op.move (Operand.tmp 18)), none⟩]
attribute [go_sem] r126_6
def k126_1b : PC := (.seq (.reg r126_2) (.seq (.cond (Operand.tmp 9) .skip (.pre ⟨[], [], []⟩ (.exit 0))) (.seq (.block 1 (.seq (.reg r126_3) (.seq (.reg r126_4) (.cond (Operand.tmp 16) (.seq (.reg r126_5) (.pre ⟨[4], [], []⟩ .ret)) .skip)))) (.post (.reg r126_6) ⟨[0, 1, 7, 8], [], []⟩))))
def r126_0 : List PO := [⟨(some 4), (Op.assign (Operand.const (Value.int IntKind.i64 0))), none⟩]
attribute [go_sem] r126_0
def r126_1 : List PO := [⟨(some 6), (Op.move (Operand.tmp 0)), none⟩,
  ⟨(some 7), (Op.call { callee := (Callee.builtin Builtin.len), args := #[(Operand.tmp 6)], argTypes := #[69] }), none⟩,
  ⟨(some 8), (Op.move (Operand.const (Value.int IntKind.i64 0))), none⟩]
attribute [go_sem] r126_1
def r126_7 : List PO := [⟨(some 4), (Op.assign (Operand.const (Value.int IntKind.i64 (-1)))), none⟩]
attribute [go_sem] r126_7
def c126 : PC := (.seq (.reg r126_0) (.seq (.seq (.reg r126_1) (.block 0 (.pre ⟨[0, 1, 7, 8], [], []⟩ (.loop k126_1b)))) (.seq (.reg r126_7) .ret)))
def i126 : FnI := ⟨19, [(ResultVar.tmp 4)], c126, 0, [[4], [0]], [[0]], false, false, 0⟩
-- slices.ContainsFunc[[]loop.example/g00344/impl.Range,loop.example/g00344/impl.Range]
def r85_0 : List PO := [⟨(some 4), (Op.assign (Operand.const (Value.bool false))), none⟩]
attribute [go_sem] r85_0
def r85_1 : List PO := [⟨(some 5), (Op.move (Operand.tmp 0)), none⟩,
  ⟨(some 6), (Op.move (Operand.tmp 1)), none⟩,
  ⟨(some 7), (Op.call { callee := (Callee.value (Operand.func 126)), args := #[(Operand.tmp 5), (Operand.tmp 6)], argTypes := #[69, 118] }), none⟩,
  ⟨(some 8), (Op.binOp BinOp.geq 3 (Operand.tmp 7) (Operand.const (Value.int IntKind.i64 0)) 3), none⟩,
  ⟨(some 4), (Op.assign (Operand.tmp 8)), none⟩]
attribute [go_sem] r85_1
def c85 : PC := (.seq (.reg r85_0) (.seq (.reg r85_1) .ret))
def i85 : FnI := ⟨9, [(ResultVar.tmp 4)], c85, 0, [[4], [0]], [[0]], false, false, 0⟩
-- loop.example/g00344/impl.isAddr
def r76_0 : List PO := [⟨(some 2), (Op.assign (Operand.const (Value.bool false))), none⟩]
attribute [go_sem] r76_0
def r76_1 : List PO := [⟨(some 3), (Op.move (Operand.tmp 0)), none⟩,
  ⟨(some 4), (Op.call { callee := (Callee.value (Operand.func 75)), args := #[(Operand.tmp 3), (Operand.const (Value.int IntKind.i64 0)), (Operand.const (Value.int IntKind.i64 4294967295))], argTypes := #[3, 3, 3] }), none⟩,
  ⟨(some 2), (Op.assign (Operand.tmp 4)), none⟩]
attribute [go_sem] r76_1
def c76 : PC := (.seq (.reg r76_0) (.seq (.reg r76_1) .ret))
def i76 : FnI := ⟨5, [(ResultVar.tmp 2)], c76, 0, [[0]], [[0]], false, false, 0⟩
-- loop.example/g00344/impl.sizeOf
def r77_0 : List PO := [⟨(some 2), (Op.assign (Operand.const (Value.int IntKind.i64 0))), none⟩]
attribute [go_sem] r77_0
def r77_1 : List PO := [⟨(some 3), (Op.move (Operand.tmp 0)), none⟩,
  ⟨(some 4), (Op.binOp BinOp.sub 3 (Operand.const (Value.int IntKind.i64 32)) (Operand.tmp 3) 3), none⟩,
  ⟨(some 5), (Op.binOp BinOp.shl 3 (Operand.const (Value.int IntKind.i64 1)) (Operand.tmp 4) 3), none⟩,
  ⟨(some 2), (Op.assign (Operand.tmp 5)), none⟩]
attribute [go_sem] r77_1
def c77 : PC := (.seq (.reg r77_0) (.seq (.reg r77_1) .ret))
def i77 : FnI := ⟨6, [(ResultVar.tmp 2)], c77, 0, [[0]], [[0]], false, false, 0⟩
-- loop.example/g00344/impl.GoodPrefix
def r37_1 : List PO := [⟨(some 3), (Op.fieldAddr 31 (Operand.tmp 1) 1), none⟩,
  ⟨(some 4), (Op.load 3 (Operand.tmp 3)), none⟩,
  ⟨(some 5), (Op.call { callee := (Callee.value (Operand.func 75)), args := #[(Operand.tmp 4), (Operand.const (Value.int IntKind.i64 0)), (Operand.const (Value.int IntKind.i64 32))], argTypes := #[3, 3, 3] }), none⟩,
  ⟨(some 6), (Op.move (Operand.tmp 5)), none⟩,
  ⟨(some 7), (Op.fieldAddr 31 (Operand.tmp 1) 0), (some (6, true))⟩,
  ⟨(some 8), (Op.load 3 (Operand.tmp 7)), (some (6, true))⟩,
  ⟨(some 9), (Op.call { callee := (Callee.value (Operand.func 76)), args := #[(Operand.tmp 8)], argTypes := #[3] }), (some (6, true))⟩,
  ⟨(some 10), (Op.pick (Operand.tmp 6) (Operand.tmp 9) (Operand.const (Value.bool false))), none⟩,
  ⟨(some 11), (Op.move (Operand.tmp 10)), none⟩,
  ⟨(some 12), (Op.fieldAddr 31 (Operand.tmp 1) 0), (some (11, true))⟩,
  ⟨(some 13), (Op.load 3 (Operand.tmp 12)), (some (11, true))⟩,
  ⟨(some 14), (Op.fieldAddr 31 (Operand.tmp 1) 1), (some (11, true))⟩,
  ⟨(some 15), (Op.load 3 (Operand.tmp 14)), (some (11, true))⟩,
  ⟨(some 16), (Op.call { callee := (Callee.value (Operand.func 77)), args := #[(Operand.tmp 15)], argTypes := #[3] }), (some (11, true))⟩,
  ⟨(some 17), (Op.binOp BinOp.rem 3 (Operand.tmp 13) (Operand.tmp 16) 3), (some (11, true))⟩,
  ⟨(some 18), (Op.binOp BinOp.eql 3 (Operand.tmp 17) (Operand.const (Value.int IntKind.i64 0)) 3), (some (11, true))⟩,
  ⟨(some 19), (Op.pick (Operand.tmp 11) (Operand.tmp 18) (Operand.const (Value.bool false))), none⟩,
  ⟨(some 2), (Op.assign (Operand.tmp 19)), none⟩]
attribute [go_sem] r37_1
def k37_1 : PC := (.post (.fz r37_1) ⟨[2], [], []⟩)
def r37_0 : List PO := [⟨(some 1), (Op.box 31 (Operand.tmp 0)), none⟩,
  ⟨(some 2), (Op.assign (Operand.const (Value.bool false))), none⟩]
attribute [go_sem] r37_0
def c37 : PC := (.seq (.reg r37_0) (.seq (.pre ⟨[1], [.old 0], []⟩ k37_1) .ret))
def i37 : FnI := ⟨20, [(ResultVar.tmp 2)], c37, 0, [[0, 0]], [[0]], false, false, 0⟩
-- loop.example/g00344/impl.isTerm$1
def r86_1 : List PO := [⟨(some 3), (Op.fieldAddr 114 (Operand.tmp 1) 0), none⟩,
  ⟨(some 4), (Op.load 31 (Operand.tmp 3)), none⟩,
  ⟨(some 5), (Op.call { callee := (Callee.value (Operand.func 37)), args := #[(Operand.tmp 4)], argTypes := #[31] }), none⟩,
  ⟨(some 6), (Op.unOp UnOp.not 4 (Operand.tmp 5)), none⟩,
  ⟨(some 7), (Op.move (Operand.tmp 6)), none⟩,
  ⟨(some 8), (Op.fieldAddr 114 (Operand.tmp 1) 1), (some (7, false))⟩,
  ⟨(some 9), (Op.load 3 (Operand.tmp 8)), (some (7, false))⟩,
  ⟨(some 10), (Op.fieldAddr 114 (Operand.tmp 1) 0), (some (7, false))⟩,
  ⟨(some 11), (Op.fieldAddr 31 (Operand.tmp 10) 1), (some (7, false))⟩,
  ⟨(some 12), (Op.load 3 (Operand.tmp 11)), (some (7, false))⟩,
  ⟨(some 13), (Op.binOp BinOp.lss 3 (Operand.tmp 9) (Operand.tmp 12) 3), (some (7, false))⟩,
  ⟨(some 14), (Op.pick (Operand.tmp 7) (Operand.const (Value.bool true)) (Operand.tmp 13)), none⟩,
  ⟨(some 15), (Op.move (Operand.tmp 14)), none⟩,
  ⟨(some 16), (Op.fieldAddr 114 (Operand.tmp 1) 2), (some (15, false))⟩,
  ⟨(some 17), (Op.load 3 (Operand.tmp 16)), (some (15, false))⟩,
  ⟨(some 18), (Op.fieldAddr 114 (Operand.tmp 1) 1), (some (15, false))⟩,
  ⟨(some 19), (Op.load 3 (Operand.tmp 18)), (some (15, false))⟩,
  ⟨(some 20), (Op.binOp BinOp.lss 3 (Operand.tmp 17) (Operand.tmp 19) 3), (some (15, false))⟩,
  ⟨(some 21), (Op.pick (Operand.tmp 15) (Operand.const (Value.bool true)) (Operand.tmp 20)), none⟩,
  ⟨(some 22), (Op.move (Operand.tmp 21)), none⟩,
  ⟨(some 23), (Op.fieldAddr 114 (Operand.tmp 1) 2), (some (22, false))⟩,
  ⟨(some 24), (Op.load 3 (Operand.tmp 23)), (some (22, false))⟩,
  ⟨(some 25), (Op.binOp BinOp.gtr 3 (Operand.tmp 24) (Operand.const (Value.int IntKind.i64 32)) 3), (some (22, false))⟩,
  ⟨(some 26), (Op.pick (Operand.tmp 22) (Operand.const (Value.bool true)) (Operand.tmp 25)), none⟩,
  ⟨(some 2), (Op.assign (Operand.tmp 26)), none⟩]
attribute [go_sem] r86_1
def k86_1 : PC := (.post (.reg r86_1) ⟨[2], [], []⟩)
def r86_0 : List PO := [⟨(some 1), (Op.box 114 (Operand.tmp 0)), none⟩,
  ⟨(some 2), (Op.assign (Operand.const (Value.bool false))), none⟩]
attribute [go_sem] r86_0
def c86 : PC := (.seq (.reg r86_0) (.seq (.pre ⟨[1], [.old 0], []⟩ k86_1) .ret))
def i86 : FnI := ⟨27, [(ResultVar.tmp 2)], c86, 0, [[0, 0, 0, 0]], [[0]], false, false, 0⟩
-- slices.IndexFunc[[]loop.example/g00344/impl.Act,loop.example/g00344/impl.Act]
def r127_2 : List PO := [⟨(some 9), (Op.binOp BinOp.lss 3 (Operand.tmp 8) (Operand.tmp 7) 3), none⟩]
attribute [go_sem] r127_2
def r127_3 : List PO := [⟨(some 10), (Op.move (Operand.tmp 8)), none⟩,
  ⟨(some 5), (Op.assign (Operand.tmp 10)), none⟩]
attribute [go_sem] r127_3
def r127_4 : List PO := [⟨(some 11), (Op.move (Operand.tmp 1)), none⟩,
  ⟨(some 12), (Op.move (Operand.tmp 0)), none⟩,
  ⟨(some 13), (Op.move (Operand.tmp 5)), none⟩,
  ⟨(some 14), (Op.indexAddr 71 (Operand.tmp 12) (Operand.tmp 13)), none⟩,
  ⟨(some 15), (Op.load 53 (Operand.tmp 14)), none⟩,
  ⟨(some 16), (Op.call { callee := (Callee.value (Operand.tmp 11)), args := #[(Operand.tmp 15)], argTypes := #[53] }), none⟩]
attribute [go_sem] r127_4
def r127_5 : List PO := [⟨(some 17), (Op.move (Operand.tmp 5)), none⟩,
  ⟨(some 4), (Op.assign (Operand.tmp 17)), none⟩]
attribute [go_sem] r127_5
def r127_6 : List PO := [⟨(some 18), (Op.binOp BinOp.add 3 (Operand.tmp 8) (Operand.const (Value.int IntKind.i64 1)) 3), none⟩,
  ⟨(some 8), (Op.move (Operand.tmp 18)), none⟩]
attribute [go_sem] r127_6
def k127_1b : PC := (.seq (.reg r127_2) (.seq (.cond (Operand.tmp 9) .skip (.pre ⟨[], [], []⟩ (.exit 0))) (.seq (.block 1 (.seq (.reg r127_3) (.seq (.reg r127_4) (.cond (Operand.tmp 16) (.seq (.reg r127_5) (.pre ⟨[4], [], []⟩ .ret)) .skip)))) (.post (.reg r127_6) ⟨[0, 1, 7, 8], [], []⟩))))
def r127_0 : List PO := [⟨(some 4), (Op.assign (Operand.const (Value.int IntKind.i64 0))), none⟩]
attribute [go_sem] r127_0
def r127_1 : List PO := [⟨(some 6), (Op.move (Operand.tmp 0)), none⟩,
  ⟨(some 7), (Op.call { callee := (Callee.builtin Builtin.len), args := #[(Operand.tmp 6)], argTypes := #[71] }), none⟩,
  ⟨(some 8), (Op.move (Operand.const (Value.int IntKind.i64 0))), none⟩]
attribute [go_sem] r127_1
def r127_7 : List PO := [⟨(some 4), (Op.assign (Operand.const (Value.int IntKind.i64 (-1)))), none⟩]
attribute [go_sem] r127_7
def c127 : PC := (.seq (.reg r127_0) (.seq (.seq (.reg r127_1) (.block 0 (.pre ⟨[0, 1, 7, 8], [], []⟩ (.loop k127_1b)))) (.seq (.reg r127_7) .ret)))
def i127 : FnI := ⟨19, [(ResultVar.tmp 4)], c127, 0, [[2], [0]], [[0]], false, false, 0⟩
-- slices.ContainsFunc[[]loop.example/g00344/impl.Act,loop.example/g00344/impl.Act]
def r87_0 : List PO := [⟨(some 4), (Op.assign (Operand.const (Value.bool false))), none⟩]
attribute [go_sem] r87_0
def r87_1 : List PO := [⟨(some 5), (Op.move (Operand.tmp 0)), none⟩,
  ⟨(some 6), (Op.move (Operand.tmp 1)), none⟩,
  ⟨(some 7), (Op.call { callee := (Callee.value (Operand.func 127)), args := #[(Operand.tmp 5), (Operand.tmp 6)], argTypes := #[71, 89] }), none⟩,
  ⟨(some 8), (Op.binOp BinOp.geq 3 (Operand.tmp 7) (Operand.const (Value.int IntKind.i64 0)) 3), none⟩,
  ⟨(some 4), (Op.assign (Operand.tmp 8)), none⟩]
attribute [go_sem] r87_1
def c87 : PC := (.seq (.reg r87_0) (.seq (.reg r87_1) .ret))
def i87 : FnI := ⟨9, [(ResultVar.tmp 4)], c87, 0, [[2], [0]], [[0]], false, false, 0⟩
-- loop.example/g00344/impl.isAct
def r50_5 : List PO := [⟨(some 9), (Op.binOp BinOp.eql 3 (Operand.tmp 4) (Operand.const (Value.int IntKind.i64 4)) 3), none⟩,
  ⟨(some 5), (Op.assign (Operand.tmp 9)), none⟩]
attribute [go_sem] r50_5
def k50_3 : PC := (.cond (Operand.tmp 5) (.post .skip ⟨[1, 4, 5], [.old 0], []⟩) (.post (.reg r50_5) ⟨[1, 4, 5], [.old 0], []⟩))
def r50_4 : List PO := [⟨(some 8), (Op.binOp BinOp.eql 3 (Operand.tmp 4) (Operand.const (Value.int IntKind.i64 3)) 3), none⟩,
  ⟨(some 5), (Op.assign (Operand.tmp 8)), none⟩]
attribute [go_sem] r50_4
def k50_2 : PC := (.cond (Operand.tmp 5) (.post .skip ⟨[1, 4, 5], [.old 0], []⟩) (.seq (.reg r50_4) (.post (.pre ⟨[1, 4, 5], [.old 0], []⟩ k50_3) ⟨[1, 4, 5], [.old 0], []⟩)))
def r50_3 : List PO := [⟨(some 7), (Op.binOp BinOp.eql 3 (Operand.tmp 4) (Operand.const (Value.int IntKind.i64 2)) 3), none⟩,
  ⟨(some 5), (Op.assign (Operand.tmp 7)), none⟩]
attribute [go_sem] r50_3
def k50_1 : PC := (.cond (Operand.tmp 5) (.post .skip ⟨[1, 4, 5], [.old 0], []⟩) (.seq (.reg r50_3) (.post (.pre ⟨[1, 4, 5], [.old 0], []⟩ k50_2) ⟨[1, 4, 5], [.old 0], []⟩)))
def r50_0 : List PO := [⟨(some 1), (Op.box 53 (Operand.tmp 0)), none⟩,
  ⟨(some 2), (Op.assign (Operand.const (Value.bool false))), none⟩]
attribute [go_sem] r50_0
def r50_1 : List PO := [⟨(some 3), (Op.fieldAddr 53 (Operand.tmp 1) 0), none⟩,
  ⟨(some 4), (Op.load 3 (Operand.tmp 3)), none⟩]
attribute [go_sem] r50_1
def r50_2 : List PO := [⟨(some 6), (Op.binOp BinOp.eql 3 (Operand.tmp 4) (Operand.const (Value.int IntKind.i64 1)) 3), none⟩,
  ⟨(some 5), (Op.assign (Operand.tmp 6)), none⟩]
attribute [go_sem] r50_2
def r50_6 : List PO := [⟨(some 10), (Op.fieldAddr 53 (Operand.tmp 1) 1), none⟩,
  ⟨(some 11), (Op.load 3 (Operand.tmp 10)), none⟩,
  ⟨(some 12), (Op.call { callee := (Callee.value (Operand.func 79)), args := #[(Operand.tmp 11)], argTypes := #[3] }), none⟩,
  ⟨(some 2), (Op.assign (Operand.tmp 12)), none⟩]
attribute [go_sem] r50_6
def r50_7 : List PO := [⟨(some 14), (Op.binOp BinOp.eql 3 (Operand.tmp 4) (Operand.const (Value.int IntKind.i64 5)) 3), none⟩,
  ⟨(some 13), (Op.assign (Operand.tmp 14)), none⟩]
attribute [go_sem] r50_7
def r50_8 : List PO := [⟨(some 15), (Op.fieldAddr 53 (Operand.tmp 1) 1), none⟩,
  ⟨(some 16), (Op.load 3 (Operand.tmp 15)), none⟩,
  ⟨(some 17), (Op.call { callee := (Callee.value (Operand.func 91)), args := #[(Operand.tmp 16)], argTypes := #[3] }), none⟩,
  ⟨(some 2), (Op.assign (Operand.tmp 17)), none⟩]
attribute [go_sem] r50_8
def r50_9 : List PO := [⟨(some 2), (Op.assign (Operand.const (Value.bool false))), none⟩]
attribute [go_sem] r50_9
def c50 : PC := (.seq (.reg r50_0) (.seq (.seq (.reg r50_1) (.block 0 (.seq (.seq (.reg r50_2) (.pre ⟨[1, 4, 5], [.old 0], []⟩ k50_1)) (.cond (Operand.tmp 5) (.seq (.reg r50_6) .ret) (.seq (.reg r50_7) (.cond (Operand.tmp 13) (.seq (.reg r50_8) .ret) .skip)))))) (.seq (.reg r50_9) .ret)))
def i50 : FnI := ⟨18, [(ResultVar.tmp 2)], c50, 0, [[0, 0]], [[0]], false, false, 0⟩
-- loop.example/g00344/impl.isTerm$2
def r88_0 : List PO := [⟨(some 1), (Op.box 53 (Operand.tmp 0)), none⟩,
  ⟨(some 2), (Op.assign (Operand.const (Value.bool false))), none⟩]
attribute [go_sem] r88_0
def r88_1 : List PO := [⟨(some 3), (Op.load 53 (Operand.tmp 1)), none⟩,
  ⟨(some 4), (Op.call { callee := (Callee.value (Operand.func 50)), args := #[(Operand.tmp 3)], argTypes := #[53] }), none⟩,
  ⟨(some 5), (Op.unOp UnOp.not 4 (Operand.tmp 4)), none⟩,
  ⟨(some 2), (Op.assign (Operand.tmp 5)), none⟩]
attribute [go_sem] r88_1
def c88 : PC := (.seq (.reg r88_0) (.seq (.reg r88_1) .ret))
def i88 : FnI := ⟨6, [(ResultVar.tmp 2)], c88, 0, [[0, 0]], [[0]], false, false, 0⟩
-- loop.example/g00344/impl.isTerm
def r46_1 : List PO := [⟨(some 3), (Op.fieldAddr 73 (Operand.tmp 1) 0), none⟩,
  ⟨(some 4), (Op.load 69 (Operand.tmp 3)), none⟩,
  ⟨(some 5), (Op.call { callee := (Callee.builtin Builtin.len), args := #[(Operand.tmp 4)], argTypes := #[69] }), none⟩,
  ⟨(some 6), (Op.binOp BinOp.gtr 3 (Operand.tmp 5) (Operand.const (Value.int IntKind.i64 6)) 3), none⟩,
  ⟨(some 7), (Op.move (Operand.tmp 6)), none⟩,
  ⟨(some 8), (Op.fieldAddr 73 (Operand.tmp 1) 1), (some (7, false))⟩,
  ⟨(some 9), (Op.load 70 (Operand.tmp 8)), (some (7, false))⟩,
  ⟨(some 10), (Op.call { callee := (Callee.builtin Builtin.len), args := #[(Operand.tmp 9)], argTypes := #[70] }), (some (7, false))⟩,
  ⟨(some 11), (Op.binOp BinOp.gtr 3 (Operand.tmp 10) (Operand.const (Value.int IntKind.i64 0)) 3), (some (7, false))⟩,
  ⟨(some 12), (Op.move (Operand.tmp 11)), (some (7, false))⟩,
  ⟨(some 13), (Op.fieldAddr 73 (Operand.tmp 1) 1), (some (12, true))⟩,
  ⟨(some 14), (Op.load 70 (Operand.tmp 13)), (some (12, true))⟩,
  ⟨(some 15), (Op.call { callee := (Callee.value (Operand.func 84)), args := #[(Operand.tmp 14)], argTypes := #[70] }), (some (12, true))⟩,
  ⟨(some 16), (Op.unOp UnOp.not 4 (Operand.tmp 15)), (some (12, true))⟩,
  ⟨(some 17), (Op.pick (Operand.tmp 12) (Operand.tmp 16) (Operand.const (Value.bool false))), (some (7, false))⟩,
  ⟨(some 18), (Op.pick (Operand.tmp 7) (Operand.const (Value.bool true)) (Operand.tmp 17)), none⟩,
  ⟨(some 19), (Op.move (Operand.tmp 18)), none⟩,
  ⟨(some 20), (Op.fieldAddr 73 (Operand.tmp 1) 2), (some (19, false))⟩,
  ⟨(some 21), (Op.load 3 (Operand.tmp 20)), (some (19, false))⟩,
  ⟨(some 22), (Op.binOp BinOp.neq 3 (Operand.tmp 21) (Operand.const (Value.int IntKind.i64 (-1))) 3), (some (19, false))⟩,
  ⟨(some 23), (Op.move (Operand.tmp 22)), (some (19, false))⟩,
  ⟨(some 24), (Op.fieldAddr 73 (Operand.tmp 1) 2), (some (23, true))⟩,
  ⟨(some 25), (Op.load 3 (Operand.tmp 24)), (some (23, true))⟩,
  ⟨(some 26), (Op.call { callee := (Callee.value (Operand.func 79)), args := #[(Operand.tmp 25)], argTypes := #[3] }), (some (23, true))⟩,
  ⟨(some 27), (Op.unOp UnOp.not 4 (Operand.tmp 26)), (some (23, true))⟩,
  ⟨(some 28), (Op.pick (Operand.tmp 23) (Operand.tmp 27) (Operand.const (Value.bool false))), (some (19, false))⟩,
  ⟨(some 29), (Op.pick (Operand.tmp 19) (Operand.const (Value.bool true)) (Operand.tmp 28)), none⟩,
  ⟨(some 30), (Op.move (Operand.tmp 29)), none⟩,
  ⟨(some 31), (Op.fieldAddr 73 (Operand.tmp 1) 3), (some (30, false))⟩,
  ⟨(some 32), (Op.load 71 (Operand.tmp 31)), (some (30, false))⟩,
  ⟨(some 33), (Op.call { callee := (Callee.builtin Builtin.len), args := #[(Operand.tmp 32)], argTypes := #[71] }), (some (30, false))⟩,
  ⟨(some 34), (Op.binOp BinOp.gtr 3 (Operand.tmp 33) (Operand.const (Value.int IntKind.i64 5)) 3), (some (30, false))⟩,
  ⟨(some 35), (Op.pick (Operand.tmp 30) (Operand.const (Value.bool true)) (Operand.tmp 34)), none⟩,
  ⟨(some 36), (Op.move (Operand.tmp 35)), none⟩,
  ⟨(some 37), (Op.fieldAddr 73 (Operand.tmp 1) 4), (some (36, false))⟩,
  ⟨(some 38), (Op.load 3 (Operand.tmp 37)), (some (36, false))⟩,
  ⟨(some 39), (Op.call { callee := (Callee.value (Operand.func 75)), args := #[(Operand.tmp 38), (Operand.const (Value.int IntKind.i64 0)), (Operand.const (Value.int IntKind.i64 2))], argTypes := #[3, 3, 3] }), (some (36, false))⟩,
  ⟨(some 40), (Op.unOp UnOp.not 4 (Operand.tmp 39)), (some (36, false))⟩,
  ⟨(some 41), (Op.pick (Operand.tmp 36) (Operand.const (Value.bool true)) (Operand.tmp 40)), none⟩]
attribute [go_sem] r46_1
def k46_1 : PC := (.post (.reg r46_1) ⟨[1, 41], [.old 0], []⟩)
def r46_3 : List PO := [⟨(some 42), (Op.fieldAddr 73 (Operand.tmp 1) 0), none⟩,
  ⟨(some 43), (Op.load 69 (Operand.tmp 42)), none⟩,
  ⟨(some 44), (Op.call { callee := (Callee.value (Operand.func 85)), args := #[(Operand.tmp 43), (Operand.func 86)], argTypes := #[69, 118] }), none⟩,
  ⟨(some 45), (Op.unOp UnOp.not 4 (Operand.tmp 44)), none⟩,
  ⟨(some 46), (Op.move (Operand.tmp 45)), none⟩,
  ⟨(some 47), (Op.fieldAddr 73 (Operand.tmp 1) 3), (some (46, true))⟩,
  ⟨(some 48), (Op.load 71 (Operand.tmp 47)), (some (46, true))⟩,
  ⟨(some 49), (Op.call { callee := (Callee.value (Operand.func 87)), args := #[(Operand.tmp 48), (Operand.func 88)], argTypes := #[71, 89] }), (some (46, true))⟩,
  ⟨(some 50), (Op.unOp UnOp.not 4 (Operand.tmp 49)), (some (46, true))⟩,
  ⟨(some 51), (Op.pick (Operand.tmp 46) (Operand.tmp 50) (Operand.const (Value.bool false))), none⟩,
  ⟨(some 2), (Op.assign (Operand.tmp 51)), none⟩]
attribute [go_sem] r46_3
def k46_2 : PC := (.post (.reg r46_3) ⟨[2], [], []⟩)
def r46_0 : List PO := [⟨(some 1), (Op.box 73 (Operand.tmp 0)), none⟩,
  ⟨(some 2), (Op.assign (Operand.const (Value.bool false))), none⟩]
attribute [go_sem] r46_0
def r46_2 : List PO := [⟨(some 2), (Op.assign (Operand.const (Value.bool false))), none⟩]
attribute [go_sem] r46_2
def c46 : PC := (.seq (.reg r46_0) (.seq (.seq (.pre ⟨[1], [.old 0], []⟩ k46_1) (.cond (Operand.tmp 41) (.seq (.reg r46_2) .ret) .skip)) (.seq (.pre ⟨[1], [.old 0], []⟩ k46_2) .ret)))
def i46 : FnI := ⟨52, [(ResultVar.tmp 2)], c46, 0, [[4, 2, 0, 2, 0]], [[0]], false, false, 0⟩
-- loop.example/g00344/impl.GoodPolicy$1
def r45_0 : List PO := [⟨(some 1), (Op.box 73 (Operand.tmp 0)), none⟩,
  ⟨(some 2), (Op.assign (Operand.const (Value.bool false))), none⟩]
attribute [go_sem] r45_0
def r45_1 : List PO := [⟨(some 3), (Op.load 73 (Operand.tmp 1)), none⟩,
  ⟨(some 4), (Op.call { callee := (Callee.value (Operand.func 46)), args := #[(Operand.tmp 3)], argTypes := #[73] }), none⟩,
  ⟨(some 5), (Op.unOp UnOp.not 4 (Operand.tmp 4)), none⟩,
  ⟨(some 2), (Op.assign (Operand.tmp 5)), none⟩]
attribute [go_sem] r45_1
def c45 : PC := (.seq (.reg r45_0) (.seq (.reg r45_1) .ret))
def i45 : FnI := ⟨6, [(ResultVar.tmp 2)], c45, 0, [[4, 2, 0, 2, 0]], [[0]], false, false, 0⟩
-- loop.example/g00344/impl.GoodPolicy
def r16_1 : List PO := [⟨(some 3), (Op.fieldAddr 45 (Operand.tmp 1) 0), none⟩,
  ⟨(some 4), (Op.load 43 (Operand.tmp 3)), none⟩,
  ⟨(some 5), (Op.call { callee := (Callee.builtin Builtin.len), args := #[(Operand.tmp 4)], argTypes := #[43] }), none⟩,
  ⟨(some 6), (Op.binOp BinOp.leq 3 (Operand.tmp 5) (Operand.const (Value.int IntKind.i64 8)) 3), none⟩,
  ⟨(some 7), (Op.move (Operand.tmp 6)), none⟩,
  ⟨(some 8), (Op.fieldAddr 45 (Operand.tmp 1) 0), (some (7, true))⟩,
  ⟨(some 9), (Op.load 43 (Operand.tmp 8)), (some (7, true))⟩,
  ⟨(some 10), (Op.call { callee := (Callee.value (Operand.func 44)), args := #[(Operand.tmp 9), (Operand.func 45)], argTypes := #[43, 85] }), (some (7, true))⟩,
  ⟨(some 11), (Op.unOp UnOp.not 4 (Operand.tmp 10)), (some (7, true))⟩,
  ⟨(some 12), (Op.pick (Operand.tmp 7) (Operand.tmp 11) (Operand.const (Value.bool false))), none⟩,
  ⟨(some 2), (Op.assign (Operand.tmp 12)), none⟩]
attribute [go_sem] r16_1
def k16_1 : PC := (.post (.reg r16_1) ⟨[2], [], []⟩)
def r16_0 : List PO := [⟨(some 1), (Op.box 45 (Operand.tmp 0)), none⟩,
  ⟨(some 2), (Op.assign (Operand.const (Value.bool false))), none⟩]
attribute [go_sem] r16_0
def c16 : PC := (.seq (.reg r16_0) (.seq (.pre ⟨[1], [.old 0], []⟩ k16_1) .ret))
def i16 : FnI := ⟨13, [(ResultVar.tmp 2)], c16, 0, [[5, 0]], [[0]], false, false, 0⟩
-- loop.example/g00344/laws.eqPrefix
def r39_0 : List PO := [⟨(some 2), (Op.box 31 (Operand.tmp 0)), none⟩,
  ⟨(some 3), (Op.box 31 (Operand.tmp 1)), none⟩,
  ⟨(some 4), (Op.assign (Operand.const (Value.bool false))), none⟩]
attribute [go_sem] r39_0
def r39_1 : List PO := [⟨(some 5), (Op.fieldAddr 31 (Operand.tmp 2) 0), none⟩,
  ⟨(some 6), (Op.load 3 (Operand.tmp 5)), none⟩,
  ⟨(some 7), (Op.fieldAddr 31 (Operand.tmp 3) 0), none⟩,
  ⟨(some 8), (Op.load 3 (Operand.tmp 7)), none⟩,
  ⟨(some 9), (Op.binOp BinOp.neq 3 (Operand.tmp 6) (Operand.tmp 8) 3), none⟩]
attribute [go_sem] r39_1
def r39_2 : List PO := [⟨(some 4), (Op.assign (Operand.const (Value.bool false))), none⟩]
attribute [go_sem] r39_2
def r39_3 : List PO := [⟨(some 10), (Op.fieldAddr 31 (Operand.tmp 2) 1), none⟩,
  ⟨(some 11), (Op.load 3 (Operand.tmp 10)), none⟩,
  ⟨(some 12), (Op.fieldAddr 31 (Operand.tmp 3) 1), none⟩,
  ⟨(some 13), (Op.load 3 (Operand.tmp 12)), none⟩,
  ⟨(some 14), (Op.binOp BinOp.neq 3 (Operand.tmp 11) (Operand.tmp 13) 3), none⟩]
attribute [go_sem] r39_3
def r39_4 : List PO := [⟨(some 4), (Op.assign (Operand.const (Value.bool false))), none⟩]
attribute [go_sem] r39_4
def r39_5 : List PO := [⟨(some 4), (Op.assign (Operand.const (Value.bool true))), none⟩]
attribute [go_sem] r39_5
def c39 : PC := (.seq (.reg r39_0) (.seq (.seq (.reg r39_1) (.cond (Operand.tmp 9) (.seq (.reg r39_2) .ret) .skip)) (.seq (.seq (.reg r39_3) (.cond (Operand.tmp 14) (.seq (.reg r39_4) .ret) .skip)) (.seq (.reg r39_5) .ret))))
def i39 : FnI := ⟨15, [(ResultVar.tmp 4)], c39, 0, [[0, 0], [0, 0]], [[0]], false, false, 0⟩
-- loop.example/g00344/laws.eqRange
def r117_0 : List PO := [⟨(some 2), (Op.box 114 (Operand.tmp 0)), none⟩,
  ⟨(some 3), (Op.box 114 (Operand.tmp 1)), none⟩,
  ⟨(some 4), (Op.assign (Operand.const (Value.bool false))), none⟩]
attribute [go_sem] r117_0
def r117_1 : List PO := [⟨(some 5), (Op.fieldAddr 114 (Operand.tmp 2) 0), none⟩,
  ⟨(some 6), (Op.load 31 (Operand.tmp 5)), none⟩,
  ⟨(some 7), (Op.fieldAddr 114 (Operand.tmp 3) 0), none⟩,
  ⟨(some 8), (Op.load 31 (Operand.tmp 7)), none⟩,
  ⟨(some 9), (Op.call { callee := (Callee.value (Operand.func 39)), args := #[(Operand.tmp 6), (Operand.tmp 8)], argTypes := #[31, 31] }), none⟩,
  ⟨(some 10), (Op.unOp UnOp.not 4 (Operand.tmp 9)), none⟩]
attribute [go_sem] r117_1
def r117_2 : List PO := [⟨(some 4), (Op.assign (Operand.const (Value.bool false))), none⟩]
attribute [go_sem] r117_2
def r117_3 : List PO := [⟨(some 11), (Op.fieldAddr 114 (Operand.tmp 2) 1), none⟩,
  ⟨(some 12), (Op.load 3 (Operand.tmp 11)), none⟩,
  ⟨(some 13), (Op.fieldAddr 114 (Operand.tmp 3) 1), none⟩,
  ⟨(some 14), (Op.load 3 (Operand.tmp 13)), none⟩,
  ⟨(some 15), (Op.binOp BinOp.neq 3 (Operand.tmp 12) (Operand.tmp 14) 3), none⟩]
attribute [go_sem] r117_3
def r117_4 : List PO := [⟨(some 4), (Op.assign (Operand.const (Value.bool false))), none⟩]
attribute [go_sem] r117_4
def r117_5 : List PO := [⟨(some 16), (Op.fieldAddr 114 (Operand.tmp 2) 2), none⟩,
  ⟨(some 17), (Op.load 3 (Operand.tmp 16)), none⟩,
  ⟨(some 18), (Op.fieldAddr 114 (Operand.tmp 3) 2), none⟩,
  ⟨(some 19), (Op.load 3 (Operand.tmp 18)), none⟩,
  ⟨(some 20), (Op.binOp BinOp.neq 3 (Operand.tmp 17) (Operand.tmp 19) 3), none⟩]
attribute [go_sem] r117_5
def r117_6 : List PO := [⟨(some 4), (Op.assign (Operand.const (Value.bool false))), none⟩]
attribute [go_sem] r117_6
def r117_7 : List PO := [⟨(some 4), (Op.assign (Operand.const (Value.bool true))), none⟩]
attribute [go_sem] r117_7
def c117 : PC := (.seq (.reg r117_0) (.seq (.seq (.reg r117_1) (.cond (Operand.tmp 10) (.seq (.reg r117_2) .ret) .skip)) (.seq (.seq (.reg r117_3) (.cond (Operand.tmp 15) (.seq (.reg r117_4) .ret) .skip)) (.seq (.seq (.reg r117_5) (.cond (Operand.tmp 20) (.seq (.reg r117_6) .ret) .skip)) (.seq (.reg r117_7) .ret)))))
def i117 : FnI := ⟨21, [(ResultVar.tmp 4)], c117, 0, [[0, 0, 0, 0], [0, 0, 0, 0]], [[0]], false, false, 0⟩
-- loop.example/g00344/laws.eqRangeS
def r67_4 : List PO := [⟨(some 11), (Op.move (Operand.tmp 5)), none⟩,
  ⟨(some 12), (Op.move (Operand.tmp 0)), none⟩,
  ⟨(some 13), (Op.call { callee := (Callee.builtin Builtin.len), args := #[(Operand.tmp 12)], argTypes := #[69] }), none⟩,
  ⟨(some 14), (Op.binOp BinOp.lss 3 (Operand.tmp 11) (Operand.tmp 13) 3), none⟩]
attribute [go_sem] r67_4
def r67_6 : List PO := [⟨(some 17), (Op.move (Operand.tmp 0)), none⟩,
  ⟨(some 18), (Op.move (Operand.tmp 5)), none⟩,
  ⟨(some 19), (Op.indexAddr 69 (Operand.tmp 17) (Operand.tmp 18)), none⟩,
  ⟨(some 20), (Op.load 114 (Operand.tmp 19)), none⟩,
  ⟨(some 21), (Op.move (Operand.tmp 1)), none⟩,
  ⟨(some 22), (Op.move (Operand.tmp 5)), none⟩,
  ⟨(some 23), (Op.indexAddr 69 (Operand.tmp 21) (Operand.tmp 22)), none⟩,
  ⟨(some 24), (Op.load 114 (Operand.tmp 23)), none⟩,
  ⟨(some 25), (Op.call { callee := (Callee.value (Operand.func 117)), args := #[(Operand.tmp 20), (Operand.tmp 24)], argTypes := #[114, 114] }), none⟩,
  ⟨(some 26), (Op.unOp UnOp.not 4 (Operand.tmp 25)), none⟩]
attribute [go_sem] r67_6
def r67_7 : List PO := [⟨(some 4), (Op.assign (Operand.const (Value.bool false))), none⟩]
attribute [go_sem] r67_7
def r67_5 : List PO := [⟨(some 15), (Op.move (Operand.tmp 5)), none⟩,
  ⟨(some 16), (Op.binOp BinOp.add 3 (Operand.tmp 15) (Operand.const (Value.int IntKind.i64 1)) 3), none⟩,
  ⟨(some 5), (Op.assign (Operand.tmp 16)), none⟩]
attribute [go_sem] r67_5
def k67_1b : PC := (.seq (.seq (.reg r67_4) (.cond (Operand.tmp 14) .skip (.pre ⟨[], [], []⟩ (.exit 0)))) (.seq (.block 1 (.seq (.fz r67_6) (.cond (Operand.tmp 26) (.seq (.reg r67_7) (.pre ⟨[4], [], []⟩ .ret)) .skip))) (.post (.reg r67_5) ⟨[0, 1, 5], [], []⟩)))
def r67_0 : List PO := [⟨(some 4), (Op.assign (Operand.const (Value.bool false))), none⟩]
attribute [go_sem] r67_0
def r67_1 : List PO := [⟨(some 6), (Op.move (Operand.tmp 0)), none⟩,
  ⟨(some 7), (Op.call { callee := (Callee.builtin Builtin.len), args := #[(Operand.tmp 6)], argTypes := #[69] }), none⟩,
  ⟨(some 8), (Op.move (Operand.tmp 1)), none⟩,
  ⟨(some 9), (Op.call { callee := (Callee.builtin Builtin.len), args := #[(Operand.tmp 8)], argTypes := #[69] }), none⟩,
  ⟨(some 10), (Op.binOp BinOp.neq 3 (Operand.tmp 7) (Operand.tmp 9) 3), none⟩]
attribute [go_sem] r67_1
def r67_2 : List PO := [⟨(some 4), (Op.assign (Operand.const (Value.bool false))), none⟩]
attribute [go_sem] r67_2
def r67_3 : List PO := [⟨(some 5), (Op.assign (Operand.const (Value.int IntKind.i64 0))), none⟩]
attribute [go_sem] r67_3
def r67_8 : List PO := [⟨(some 4), (Op.assign (Operand.const (Value.bool true))), none⟩]
attribute [go_sem] r67_8
def c67 : PC := (.seq (.reg r67_0) (.seq (.seq (.reg r67_1) (.cond (Operand.tmp 10) (.seq (.reg r67_2) .ret) .skip)) (.seq (.seq (.reg r67_3) (.block 0 (.pre ⟨[0, 1, 5], [], []⟩ (.loop k67_1b)))) (.seq (.reg r67_8) .ret))))
def i67 : FnI := ⟨27, [(ResultVar.tmp 4)], c67, 0, [[4], [4]], [[0]], false, false, 0⟩
-- loop.example/g00344/laws.eqReCell
def r118_0 : List PO := [⟨(some 2), (Op.box 129 (Operand.tmp 0)), none⟩,
  ⟨(some 3), (Op.box 129 (Operand.tmp 1)), none⟩,
  ⟨(some 4), (Op.assign (Operand.const (Value.bool false))), none⟩]
attribute [go_sem] r118_0
def r118_1 : List PO := [⟨(some 5), (Op.fieldAddr 129 (Operand.tmp 2) 0), none⟩,
  ⟨(some 6), (Op.load 3 (Operand.tmp 5)), none⟩,
  ⟨(some 7), (Op.fieldAddr 129 (Operand.tmp 3) 0), none⟩,
  ⟨(some 8), (Op.load 3 (Operand.tmp 7)), none⟩,
  ⟨(some 9), (Op.binOp BinOp.neq 3 (Operand.tmp 6) (Operand.tmp 8) 3), none⟩]
attribute [go_sem] r118_1
def r118_2 : List PO := [⟨(some 4), (Op.assign (Operand.const (Value.bool false))), none⟩]
attribute [go_sem] r118_2
def r118_3 : List PO := [⟨(some 10), (Op.fieldAddr 129 (Operand.tmp 2) 1), none⟩,
  ⟨(some 11), (Op.load 3 (Operand.tmp 10)), none⟩,
  ⟨(some 12), (Op.fieldAddr 129 (Operand.tmp 3) 1), none⟩,
  ⟨(some 13), (Op.load 3 (Operand.tmp 12)), none⟩,
  ⟨(some 14), (Op.binOp BinOp.neq 3 (Operand.tmp 11) (Operand.tmp 13) 3), none⟩]
attribute [go_sem] r118_3
def r118_4 : List PO := [⟨(some 4), (Op.assign (Operand.const (Value.bool false))), none⟩]
attribute [go_sem] r118_4
def r118_5 : List PO := [⟨(some 4), (Op.assign (Operand.const (Value.bool true))), none⟩]
attribute [go_sem] r118_5
def c118 : PC := (.seq (.reg r118_0) (.seq (.seq (.reg r118_1) (.cond (Operand.tmp 9) (.seq (.reg r118_2) .ret) .skip)) (.seq (.seq (.reg r118_3) (.cond (Operand.tmp 14) (.seq (.reg r118_4) .ret) .skip)) (.seq (.reg r118_5) .ret))))
def i118 : FnI := ⟨15, [(ResultVar.tmp 4)], c118, 0, [[0, 0], [0, 0]], [[0]], false, false, 0⟩
-- loop.example/g00344/laws.eqReCellS
def r68_4 : List PO := [⟨(some 11), (Op.move (Operand.tmp 5)), none⟩,
  ⟨(some 12), (Op.move (Operand.tmp 0)), none⟩,
  ⟨(some 13), (Op.call { callee := (Callee.builtin Builtin.len), args := #[(Operand.tmp 12)], argTypes := #[70] }), none⟩,
  ⟨(some 14), (Op.binOp BinOp.lss 3 (Operand.tmp 11) (Operand.tmp 13) 3), none⟩]
attribute [go_sem] r68_4
def r68_6 : List PO := [⟨(some 17), (Op.move (Operand.tmp 0)), none⟩,
  ⟨(some 18), (Op.move (Operand.tmp 5)), none⟩,
  ⟨(some 19), (Op.indexAddr 70 (Operand.tmp 17) (Operand.tmp 18)), none⟩,
  ⟨(some 20), (Op.load 129 (Operand.tmp 19)), none⟩,
  ⟨(some 21), (Op.move (Operand.tmp 1)), none⟩,
  ⟨(some 22), (Op.move (Operand.tmp 5)), none⟩,
  ⟨(some 23), (Op.indexAddr 70 (Operand.tmp 21) (Operand.tmp 22)), none⟩,
  ⟨(some 24), (Op.load 129 (Operand.tmp 23)), none⟩,
  ⟨(some 25), (Op.call { callee := (Callee.value (Operand.func 118)), args := #[(Operand.tmp 20), (Operand.tmp 24)], argTypes := #[129, 129] }), none⟩,
  ⟨(some 26), (Op.unOp UnOp.not 4 (Operand.tmp 25)), none⟩]
attribute [go_sem] r68_6
def r68_7 : List PO := [⟨(some 4), (Op.assign (Operand.const (Value.bool false))), none⟩]
attribute [go_sem] r68_7
def r68_5 : List PO := [⟨(some 15), (Op.move (Operand.tmp 5)), none⟩,
  ⟨(some 16), (Op.binOp BinOp.add 3 (Operand.tmp 15) (Operand.const (Value.int IntKind.i64 1)) 3), none⟩,
  ⟨(some 5), (Op.assign (Operand.tmp 16)), none⟩]
attribute [go_sem] r68_5
def k68_1b : PC := (.seq (.seq (.reg r68_4) (.cond (Operand.tmp 14) .skip (.pre ⟨[], [], []⟩ (.exit 0)))) (.seq (.block 1 (.seq (.fz r68_6) (.cond (Operand.tmp 26) (.seq (.reg r68_7) (.pre ⟨[4], [], []⟩ .ret)) .skip))) (.post (.reg r68_5) ⟨[0, 1, 5], [], []⟩)))
def r68_0 : List PO := [⟨(some 4), (Op.assign (Operand.const (Value.bool false))), none⟩]
attribute [go_sem] r68_0
def r68_1 : List PO := [⟨(some 6), (Op.move (Operand.tmp 0)), none⟩,
  ⟨(some 7), (Op.call { callee := (Callee.builtin Builtin.len), args := #[(Operand.tmp 6)], argTypes := #[70] }), none⟩,
  ⟨(some 8), (Op.move (Operand.tmp 1)), none⟩,
  ⟨(some 9), (Op.call { callee := (Callee.builtin Builtin.len), args := #[(Operand.tmp 8)], argTypes := #[70] }), none⟩,
  ⟨(some 10), (Op.binOp BinOp.neq 3 (Operand.tmp 7) (Operand.tmp 9) 3), none⟩]
attribute [go_sem] r68_1
def r68_2 : List PO := [⟨(some 4), (Op.assign (Operand.const (Value.bool false))), none⟩]
attribute [go_sem] r68_2
def r68_3 : List PO := [⟨(some 5), (Op.assign (Operand.const (Value.int IntKind.i64 0))), none⟩]
attribute [go_sem] r68_3
def r68_8 : List PO := [⟨(some 4), (Op.assign (Operand.const (Value.bool true))), none⟩]
attribute [go_sem] r68_8
def c68 : PC := (.seq (.reg r68_0) (.seq (.seq (.reg r68_1) (.cond (Operand.tmp 10) (.seq (.reg r68_2) .ret) .skip)) (.seq (.seq (.reg r68_3) (.block 0 (.pre ⟨[0, 1, 5], [], []⟩ (.loop k68_1b)))) (.seq (.reg r68_8) .ret))))
def i68 : FnI := ⟨27, [(ResultVar.tmp 4)], c68, 0, [[2], [2]], [[0]], false, false, 0⟩
-- loop.example/g00344/laws.eqAct
def r119_0 : List PO := [⟨(some 2), (Op.box 53 (Operand.tmp 0)), none⟩,
  ⟨(some 3), (Op.box 53 (Operand.tmp 1)), none⟩,
  ⟨(some 4), (Op.assign (Operand.const (Value.bool false))), none⟩]
attribute [go_sem] r119_0
def r119_1 : List PO := [⟨(some 5), (Op.fieldAddr 53 (Operand.tmp 2) 0), none⟩,
  ⟨(some 6), (Op.load 3 (Operand.tmp 5)), none⟩,
  ⟨(some 7), (Op.fieldAddr 53 (Operand.tmp 3) 0), none⟩,
  ⟨(some 8), (Op.load 3 (Operand.tmp 7)), none⟩,
  ⟨(some 9), (Op.binOp BinOp.neq 3 (Operand.tmp 6) (Operand.tmp 8) 3), none⟩]
attribute [go_sem] r119_1
def r119_2 : List PO := [⟨(some 4), (Op.assign (Operand.const (Value.bool false))), none⟩]
attribute [go_sem] r119_2
def r119_3 : List PO := [⟨(some 10), (Op.fieldAddr 53 (Operand.tmp 2) 1), none⟩,
  ⟨(some 11), (Op.load 3 (Operand.tmp 10)), none⟩,
  ⟨(some 12), (Op.fieldAddr 53 (Operand.tmp 3) 1), none⟩,
  ⟨(some 13), (Op.load 3 (Operand.tmp 12)), none⟩,
  ⟨(some 14), (Op.binOp BinOp.neq 3 (Operand.tmp 11) (Operand.tmp 13) 3), none⟩]
attribute [go_sem] r119_3
def r119_4 : List PO := [⟨(some 4), (Op.assign (Operand.const (Value.bool false))), none⟩]
attribute [go_sem] r119_4
def r119_5 : List PO := [⟨(some 4), (Op.assign (Operand.const (Value.bool true))), none⟩]
attribute [go_sem] r119_5
def c119 : PC := (.seq (.reg r119_0) (.seq (.seq (.reg r119_1) (.cond (Operand.tmp 9) (.seq (.reg r119_2) .ret) .skip)) (.seq (.seq (.reg r119_3) (.cond (Operand.tmp 14) (.seq (.reg r119_4) .ret) .skip)) (.seq (.reg r119_5) .ret))))
def i119 : FnI := ⟨15, [(ResultVar.tmp 4)], c119, 0, [[0, 0], [0, 0]], [[0]], false, false, 0⟩
-- loop.example/g00344/laws.eqActS
def r69_4 : List PO := [⟨(some 11), (Op.move (Operand.tmp 5)), none⟩,
  ⟨(some 12), (Op.move (Operand.tmp 0)), none⟩,
  ⟨(some 13), (Op.call { callee := (Callee.builtin Builtin.len), args := #[(Operand.tmp 12)], argTypes := #[71] }), none⟩,
  ⟨(some 14), (Op.binOp BinOp.lss 3 (Operand.tmp 11) (Operand.tmp 13) 3), none⟩]
attribute [go_sem] r69_4
def r69_6 : List PO := [⟨(some 17), (Op.move (Operand.tmp 0)), none⟩,
  ⟨(some 18), (Op.move (Operand.tmp 5)), none⟩,
  ⟨(some 19), (Op.indexAddr 71 (Operand.tmp 17) (Operand.tmp 18)), none⟩,
  ⟨(some 20), (Op.load 53 (Operand.tmp 19)), none⟩,
  ⟨(some 21), (Op.move (Operand.tmp 1)), none⟩,
  ⟨(some 22), (Op.move (Operand.tmp 5)), none⟩,
  ⟨(some 23), (Op.indexAddr 71 (Operand.tmp 21) (Operand.tmp 22)), none⟩,
  ⟨(some 24), (Op.load 53 (Operand.tmp 23)), none⟩,
  ⟨(some 25), (Op.call { callee := (Callee.value (Operand.func 119)), args := #[(Operand.tmp 20), (Operand.tmp 24)], argTypes := #[53, 53] }), none⟩,
  ⟨(some 26), (Op.unOp UnOp.not 4 (Operand.tmp 25)), none⟩]
attribute [go_sem] r69_6
def r69_7 : List PO := [⟨(some 4), (Op.assign (Operand.const (Value.bool false))), none⟩]
attribute [go_sem] r69_7
def r69_5 : List PO := [⟨(some 15), (Op.move (Operand.tmp 5)), none⟩,
  ⟨(some 16), (Op.binOp BinOp.add 3 (Operand.tmp 15) (Operand.const (Value.int IntKind.i64 1)) 3), none⟩,
  ⟨(some 5), (Op.assign (Operand.tmp 16)), none⟩]
attribute [go_sem] r69_5
def k69_1b : PC := (.seq (.seq (.reg r69_4) (.cond (Operand.tmp 14) .skip (.pre ⟨[], [], []⟩ (.exit 0)))) (.seq (.block 1 (.seq (.fz r69_6) (.cond (Operand.tmp 26) (.seq (.reg r69_7) (.pre ⟨[4], [], []⟩ .ret)) .skip))) (.post (.reg r69_5) ⟨[0, 1, 5], [], []⟩)))
def r69_0 : List PO := [⟨(some 4), (Op.assign (Operand.const (Value.bool false))), none⟩]
attribute [go_sem] r69_0
def r69_1 : List PO := [⟨(some 6), (Op.move (Operand.tmp 0)), none⟩,
  ⟨(some 7), (Op.call { callee := (Callee.builtin Builtin.len), args := #[(Operand.tmp 6)], argTypes := #[71] }), none⟩,
  ⟨(some 8), (Op.move (Operand.tmp 1)), none⟩,
  ⟨(some 9), (Op.call { callee := (Callee.builtin Builtin.len), args := #[(Operand.tmp 8)], argTypes := #[71] }), none⟩,
  ⟨(some 10), (Op.binOp BinOp.neq 3 (Operand.tmp 7) (Operand.tmp 9) 3), none⟩]
attribute [go_sem] r69_1
def r69_2 : List PO := [⟨(some 4), (Op.assign (Operand.const (Value.bool false))), none⟩]
attribute [go_sem] r69_2
def r69_3 : List PO := [⟨(some 5), (Op.assign (Operand.const (Value.int IntKind.i64 0))), none⟩]
attribute [go_sem] r69_3
def r69_8 : List PO := [⟨(some 4), (Op.assign (Operand.const (Value.bool true))), none⟩]
attribute [go_sem] r69_8
def c69 : PC := (.seq (.reg r69_0) (.seq (.seq (.reg r69_1) (.cond (Operand.tmp 10) (.seq (.reg r69_2) .ret) .skip)) (.seq (.seq (.reg r69_3) (.block 0 (.pre ⟨[0, 1, 5], [], []⟩ (.loop k69_1b)))) (.seq (.reg r69_8) .ret))))
def i69 : FnI := ⟨27, [(ResultVar.tmp 4)], c69, 0, [[2], [2]], [[0]], false, false, 0⟩
-- loop.example/g00344/laws.eqTerm
def r31_0 : List PO := [⟨(some 2), (Op.box 73 (Operand.tmp 0)), none⟩,
  ⟨(some 3), (Op.box 73 (Operand.tmp 1)), none⟩,
  ⟨(some 4), (Op.assign (Operand.const (Value.bool false))), none⟩]
attribute [go_sem] r31_0
def r31_1 : List PO := [⟨(some 5), (Op.fieldAddr 73 (Operand.tmp 2) 0), none⟩,
  ⟨(some 6), (Op.load 69 (Operand.tmp 5)), none⟩,
  ⟨(some 7), (Op.fieldAddr 73 (Operand.tmp 3) 0), none⟩,
  ⟨(some 8), (Op.load 69 (Operand.tmp 7)), none⟩,
  ⟨(some 9), (Op.call { callee := (Callee.value (Operand.func 67)), args := #[(Operand.tmp 6), (Operand.tmp 8)], argTypes := #[69, 69] }), none⟩,
  ⟨(some 10), (Op.unOp UnOp.not 4 (Operand.tmp 9)), none⟩]
attribute [go_sem] r31_1
def r31_2 : List PO := [⟨(some 4), (Op.assign (Operand.const (Value.bool false))), none⟩]
attribute [go_sem] r31_2
def r31_3 : List PO := [⟨(some 11), (Op.fieldAddr 73 (Operand.tmp 2) 1), none⟩,
  ⟨(some 12), (Op.load 70 (Operand.tmp 11)), none⟩,
  ⟨(some 13), (Op.fieldAddr 73 (Operand.tmp 3) 1), none⟩,
  ⟨(some 14), (Op.load 70 (Operand.tmp 13)), none⟩,
  ⟨(some 15), (Op.call { callee := (Callee.value (Operand.func 68)), args := #[(Operand.tmp 12), (Operand.tmp 14)], argTypes := #[70, 70] }), none⟩,
  ⟨(some 16), (Op.unOp UnOp.not 4 (Operand.tmp 15)), none⟩]
attribute [go_sem] r31_3
def r31_4 : List PO := [⟨(some 4), (Op.assign (Operand.const (Value.bool false))), none⟩]
attribute [go_sem] r31_4
def r31_5 : List PO := [⟨(some 17), (Op.fieldAddr 73 (Operand.tmp 2) 2), none⟩,
  ⟨(some 18), (Op.load 3 (Operand.tmp 17)), none⟩,
  ⟨(some 19), (Op.fieldAddr 73 (Operand.tmp 3) 2), none⟩,
  ⟨(some 20), (Op.load 3 (Operand.tmp 19)), none⟩,
  ⟨(some 21), (Op.binOp BinOp.neq 3 (Operand.tmp 18) (Operand.tmp 20) 3), none⟩]
attribute [go_sem] r31_5
def r31_6 : List PO := [⟨(some 4), (Op.assign (Operand.const (Value.bool false))), none⟩]
attribute [go_sem] r31_6
def r31_7 : List PO := [⟨(some 22), (Op.fieldAddr 73 (Operand.tmp 2) 3), none⟩,
  ⟨(some 23), (Op.load 71 (Operand.tmp 22)), none⟩,
  ⟨(some 24), (Op.fieldAddr 73 (Operand.tmp 3) 3), none⟩,
  ⟨(some 25), (Op.load 71 (Operand.tmp 24)), none⟩,
  ⟨(some 26), (Op.call { callee := (Callee.value (Operand.func 69)), args := #[(Operand.tmp 23), (Operand.tmp 25)], argTypes := #[71, 71] }), none⟩,
  ⟨(some 27), (Op.unOp UnOp.not 4 (Operand.tmp 26)), none⟩]
attribute [go_sem] r31_7
def r31_8 : List PO := [⟨(some 4), (Op.assign (Operand.const (Value.bool false))), none⟩]
attribute [go_sem] r31_8
def r31_9 : List PO := [⟨(some 28), (Op.fieldAddr 73 (Operand.tmp 2) 4), none⟩,
  ⟨(some 29), (Op.load 3 (Operand.tmp 28)), none⟩,
  ⟨(some 30), (Op.fieldAddr 73 (Operand.tmp 3) 4), none⟩,
  ⟨(some 31), (Op.load 3 (Operand.tmp 30)), none⟩,
  ⟨(some 32), (Op.binOp BinOp.neq 3 (Operand.tmp 29) (Operand.tmp 31) 3), none⟩]
attribute [go_sem] r31_9
def r31_10 : List PO := [⟨(some 4), (Op.assign (Operand.const (Value.bool false))), none⟩]
attribute [go_sem] r31_10
def r31_11 : List PO := [⟨(some 4), (Op.assign (Operand.const (Value.bool true))), none⟩]
attribute [go_sem] r31_11
def c31 : PC := (.seq (.reg r31_0) (.seq (.seq (.reg r31_1) (.cond (Operand.tmp 10) (.seq (.reg r31_2) .ret) .skip)) (.seq (.seq (.reg r31_3) (.cond (Operand.tmp 16) (.seq (.reg r31_4) .ret) .skip)) (.seq (.seq (.reg r31_5) (.cond (Operand.tmp 21) (.seq (.reg r31_6) .ret) .skip)) (.seq (.seq (.reg r31_7) (.cond (Operand.tmp 27) (.seq (.reg r31_8) .ret) .skip)) (.seq (.seq (.reg r31_9) (.cond (Operand.tmp 32) (.seq (.reg r31_10) .ret) .skip)) (.seq (.reg r31_11) .ret)))))))
def i31 : FnI := ⟨33, [(ResultVar.tmp 4)], c31, 0, [[4, 2, 0, 2, 0], [4, 2, 0, 2, 0]], [[0]], false, false, 0⟩
-- loop.example/g00344/laws.eqTermS
def r47_4 : List PO := [⟨(some 11), (Op.move (Operand.tmp 5)), none⟩,
  ⟨(some 12), (Op.move (Operand.tmp 0)), none⟩,
  ⟨(some 13), (Op.call { callee := (Callee.builtin Builtin.len), args := #[(Operand.tmp 12)], argTypes := #[43] }), none⟩,
  ⟨(some 14), (Op.binOp BinOp.lss 3 (Operand.tmp 11) (Operand.tmp 13) 3), none⟩]
attribute [go_sem] r47_4
def r47_6 : List PO := [⟨(some 17), (Op.move (Operand.tmp 0)), none⟩,
  ⟨(some 18), (Op.move (Operand.tmp 5)), none⟩,
  ⟨(some 19), (Op.indexAddr 43 (Operand.tmp 17) (Operand.tmp 18)), none⟩,
  ⟨(some 20), (Op.load 73 (Operand.tmp 19)), none⟩,
  ⟨(some 21), (Op.move (Operand.tmp 1)), none⟩,
  ⟨(some 22), (Op.move (Operand.tmp 5)), none⟩,
  ⟨(some 23), (Op.indexAddr 43 (Operand.tmp 21) (Operand.tmp 22)), none⟩,
  ⟨(some 24), (Op.load 73 (Operand.tmp 23)), none⟩,
  ⟨(some 25), (Op.call { callee := (Callee.value (Operand.func 31)), args := #[(Operand.tmp 20), (Operand.tmp 24)], argTypes := #[73, 73] }), none⟩,
  ⟨(some 26), (Op.unOp UnOp.not 4 (Operand.tmp 25)), none⟩]
attribute [go_sem] r47_6
def r47_7 : List PO := [⟨(some 4), (Op.assign (Operand.const (Value.bool false))), none⟩]
attribute [go_sem] r47_7
def r47_5 : List PO := [⟨(some 15), (Op.move (Operand.tmp 5)), none⟩,
  ⟨(some 16), (Op.binOp BinOp.add 3 (Operand.tmp 15) (Operand.const (Value.int IntKind.i64 1)) 3), none⟩,
  ⟨(some 5), (Op.assign (Operand.tmp 16)), none⟩]
attribute [go_sem] r47_5
def k47_1b : PC := (.seq (.seq (.reg r47_4) (.cond (Operand.tmp 14) .skip (.pre ⟨[], [], []⟩ (.exit 0)))) (.seq (.block 1 (.seq (.fz r47_6) (.cond (Operand.tmp 26) (.seq (.reg r47_7) (.pre ⟨[4], [], []⟩ .ret)) .skip))) (.post (.reg r47_5) ⟨[0, 1, 5], [], []⟩)))
def r47_0 : List PO := [⟨(some 4), (Op.assign (Operand.const (Value.bool false))), none⟩]
attribute [go_sem] r47_0
def r47_1 : List PO := [⟨(some 6), (Op.move (Operand.tmp 0)), none⟩,
  ⟨(some 7), (Op.call { callee := (Callee.builtin Builtin.len), args := #[(Operand.tmp 6)], argTypes := #[43] }), none⟩,
  ⟨(some 8), (Op.move (Operand.tmp 1)), none⟩,
  ⟨(some 9), (Op.call { callee := (Callee.builtin Builtin.len), args := #[(Operand.tmp 8)], argTypes := #[43] }), none⟩,
  ⟨(some 10), (Op.binOp BinOp.neq 3 (Operand.tmp 7) (Operand.tmp 9) 3), none⟩]
attribute [go_sem] r47_1
def r47_2 : List PO := [⟨(some 4), (Op.assign (Operand.const (Value.bool false))), none⟩]
attribute [go_sem] r47_2
def r47_3 : List PO := [⟨(some 5), (Op.assign (Operand.const (Value.int IntKind.i64 0))), none⟩]
attribute [go_sem] r47_3
def r47_8 : List PO := [⟨(some 4), (Op.assign (Operand.const (Value.bool true))), none⟩]
attribute [go_sem] r47_8
def c47 : PC := (.seq (.reg r47_0) (.seq (.seq (.reg r47_1) (.cond (Operand.tmp 10) (.seq (.reg r47_2) .ret) .skip)) (.seq (.seq (.reg r47_3) (.block 0 (.pre ⟨[0, 1, 5], [], []⟩ (.loop k47_1b)))) (.seq (.reg r47_8) .ret))))
def i47 : FnI := ⟨27, [(ResultVar.tmp 4)], c47, 0, [[5], [5]], [[0]], false, false, 0⟩
-- loop.example/g00344/laws.eqPolicy
def r17_0 : List PO := [⟨(some 2), (Op.box 45 (Operand.tmp 0)), none⟩,
  ⟨(some 3), (Op.box 45 (Operand.tmp 1)), none⟩,
  ⟨(some 4), (Op.assign (Operand.const (Value.bool false))), none⟩]
attribute [go_sem] r17_0
def r17_1 : List PO := [⟨(some 5), (Op.fieldAddr 45 (Operand.tmp 2) 0), none⟩,
  ⟨(some 6), (Op.load 43 (Operand.tmp 5)), none⟩,
  ⟨(some 7), (Op.fieldAddr 45 (Operand.tmp 3) 0), none⟩,
  ⟨(some 8), (Op.load 43 (Operand.tmp 7)), none⟩,
  ⟨(some 9), (Op.call { callee := (Callee.value (Operand.func 47)), args := #[(Operand.tmp 6), (Operand.tmp 8)], argTypes := #[43, 43] }), none⟩,
  ⟨(some 10), (Op.unOp UnOp.not 4 (Operand.tmp 9)), none⟩]
attribute [go_sem] r17_1
def r17_2 : List PO := [⟨(some 4), (Op.assign (Operand.const (Value.bool false))), none⟩]
attribute [go_sem] r17_2
def r17_3 : List PO := [⟨(some 11), (Op.fieldAddr 45 (Operand.tmp 2) 1), none⟩,
  ⟨(some 12), (Op.load 4 (Operand.tmp 11)), none⟩,
  ⟨(some 13), (Op.fieldAddr 45 (Operand.tmp 3) 1), none⟩,
  ⟨(some 14), (Op.load 4 (Operand.tmp 13)), none⟩,
  ⟨(some 15), (Op.binOp BinOp.neq 4 (Operand.tmp 12) (Operand.tmp 14) 4), none⟩]
attribute [go_sem] r17_3
def r17_4 : List PO := [⟨(some 4), (Op.assign (Operand.const (Value.bool false))), none⟩]
attribute [go_sem] r17_4
def r17_5 : List PO := [⟨(some 4), (Op.assign (Operand.const (Value.bool true))), none⟩]
attribute [go_sem] r17_5
def c17 : PC := (.seq (.reg r17_0) (.seq (.seq (.reg r17_1) (.cond (Operand.tmp 10) (.seq (.reg r17_2) .ret) .skip)) (.seq (.seq (.reg r17_3) (.cond (Operand.tmp 15) (.seq (.reg r17_4) .ret) .skip)) (.seq (.reg r17_5) .ret))))
def i17 : FnI := ⟨16, [(ResultVar.tmp 4)], c17, 0, [[5, 0], [5, 0]], [[0]], false, false, 0⟩
-- loop.example/g00344/laws.FnExactGoodPolicy
def r4_0 : List PO := [⟨(some 1), (Op.box 40 (Operand.tmp 0)), none⟩,
  ⟨(some 2), (Op.assign (Operand.const (Value.bool false))), none⟩]
attribute [go_sem] r4_0
def r4_1 : List PO := [⟨(some 3), (Op.assign (Operand.const (Value.int IntKind.i64 1048576))), none⟩]
attribute [go_sem] r4_1
def r4_2 : List PO := [⟨(some 7), (Op.load 40 (Operand.tmp 1)), none⟩,
  ⟨(some 8), (Op.move (Operand.tmp 3)), none⟩,
  ⟨(some 9), (Op.call { callee := (Callee.value (Operand.func 13)), args := #[(Operand.tmp 7), (Operand.tmp 8)], argTypes := #[40, 3] }), none⟩,
  ⟨(some 3), (Op.assign (Operand.tmp 9)), none⟩]
attribute [go_sem] r4_2
def r4_3 : List PO := [⟨(some 10), (Op.move (Operand.tmp 3)), none⟩,
  ⟨(some 11), (Op.binOp BinOp.lss 3 (Operand.tmp 10) (Operand.const (Value.int IntKind.i64 0)) 3), none⟩]
attribute [go_sem] r4_3
def r4_4 : List PO := [⟨(some 2), (Op.assign (Operand.const (Value.bool true))), none⟩]
attribute [go_sem] r4_4
def r4_5 : List PO := [⟨(some 12), (Op.load 40 (Operand.tmp 1)), none⟩,
  ⟨(some 13), (Op.call { callee := (Callee.value (Operand.func 15)), args := #[(Operand.tmp 12)], argTypes := #[40] }), none⟩,
  ⟨(some 14), (Op.call { callee := (Callee.value (Operand.func 14)), args := #[(Operand.tmp 13)], argTypes := #[45] }), none⟩,
  ⟨(some 4), (Op.assign (Operand.tmp 14)), none⟩]
attribute [go_sem] r4_5
def r4_6 : List PO := [⟨(some 15), (Op.load 40 (Operand.tmp 1)), none⟩,
  ⟨(some 16), (Op.call { callee := (Callee.value (Operand.func 15)), args := #[(Operand.tmp 15)], argTypes := #[40] }), none⟩,
  ⟨(some 5), (Op.alloc 45), none⟩,
  ⟨none, (Op.store 45 (Operand.tmp 5) (Operand.tmp 16)), none⟩]
attribute [go_sem] r4_6
def r4_7 : List PO := [⟨(some 17), (Op.load 45 (Operand.tmp 5)), none⟩,
  ⟨(some 18), (Op.call { callee := (Callee.value (Operand.func 16)), args := #[(Operand.tmp 17)], argTypes := #[45] }), none⟩,
  ⟨(some 6), (Op.assign (Operand.tmp 18)), none⟩]
attribute [go_sem] r4_7
def r4_8 : List PO := [⟨(some 19), (Op.move (Operand.tmp 6)), none⟩,
  ⟨(some 20), (Op.move (Operand.tmp 4)), none⟩,
  ⟨(some 21), (Op.binOp BinOp.neq 4 (Operand.tmp 19) (Operand.tmp 20) 4), none⟩]
attribute [go_sem] r4_8
def r4_9 : List PO := [⟨(some 2), (Op.assign (Operand.const (Value.bool false))), none⟩]
attribute [go_sem] r4_9
def r4_10 : List PO := [⟨(some 22), (Op.load 45 (Operand.tmp 5)), none⟩,
  ⟨(some 23), (Op.load 40 (Operand.tmp 1)), none⟩,
  ⟨(some 24), (Op.call { callee := (Callee.value (Operand.func 15)), args := #[(Operand.tmp 23)], argTypes := #[40] }), none⟩,
  ⟨(some 25), (Op.call { callee := (Callee.value (Operand.func 17)), args := #[(Operand.tmp 22), (Operand.tmp 24)], argTypes := #[45, 45] }), none⟩,
  ⟨(some 26), (Op.unOp UnOp.not 4 (Operand.tmp 25)), none⟩]
attribute [go_sem] r4_10
def r4_11 : List PO := [⟨(some 2), (Op.assign (Operand.const (Value.bool false))), none⟩]
attribute [go_sem] r4_11
def r4_12 : List PO := [⟨(some 2), (Op.assign (Operand.const (Value.bool true))), none⟩]
attribute [go_sem] r4_12
def c4 : PC := (.seq (.reg r4_0) (.seq (.reg r4_1) (.seq (.reg r4_2) (.seq (.seq (.reg r4_3) (.cond (Operand.tmp 11) (.seq (.reg r4_4) .ret) .skip)) (.seq (.reg r4_5) (.seq (.reg r4_6) (.seq (.reg r4_7) (.seq (.seq (.reg r4_8) (.cond (Operand.tmp 21) (.seq (.reg r4_9) .ret) .skip)) (.seq (.seq (.fz r4_10) (.cond (Operand.tmp 26) (.seq (.reg r4_11) .ret) .skip)) (.seq (.reg r4_12) .ret))))))))))
def i4 : FnI := ⟨27, [(ResultVar.tmp 2)], c4, 0, [[5, 0]], [[0]], false, false, 0⟩
def tys : List (Nat × TyI) := [(3, ⟨1, 8, false, [.int .i64 0], [0], 0, [], .int .i64, false⟩),
  (4, ⟨1, 1, false, [.bool false], [0], 0, [], .bool, false⟩),
  (23, ⟨2, 16, true, [.int .i64 0, .int .i64 0], [0, 0], 0, [(0, 1, false), (1, 1, false)], .other, true⟩),
  (31, ⟨2, 16, true, [.int .i64 0, .int .i64 0], [0, 0], 0, [(0, 1, false), (1, 1, false)], .other, true⟩),
  (38, ⟨1, 24, false, [.nil], [5], 65, [], .other, false⟩),
  (40, ⟨2, 32, true, [.nil, .bool false], [5, 0], 0, [(0, 1, false), (1, 1, false)], .other, false⟩),
  (43, ⟨1, 24, false, [.nil], [5], 73, [], .other, false⟩),
  (45, ⟨2, 32, true, [.nil, .bool false], [5, 0], 0, [(0, 1, false), (1, 1, false)], .other, false⟩),
  (50, ⟨2, 16, true, [.int .i64 0, .int .i64 0], [0, 0], 0, [(0, 1, false), (1, 1, false)], .other, true⟩),
  (53, ⟨2, 16, true, [.int .i64 0, .int .i64 0], [0, 0], 0, [(0, 1, false), (1, 1, false)], .other, true⟩),
  (61, ⟨1, 24, false, [.nil], [4], 138, [], .other, false⟩),
  (62, ⟨1, 24, false, [.nil], [2], 140, [], .other, false⟩),
  (63, ⟨1, 24, false, [.nil], [2], 50, [], .other, false⟩),
  (65, ⟨5, 88, true, [.nil, .nil, .int .i64 0, .nil, .int .i64 0], [4, 2, 0, 2, 0], 0, [(0, 1, false), (1, 1, false), (2, 1, false), (3, 1, false), (4, 1, false)], .other, false⟩),
  (69, ⟨1, 24, false, [.nil], [4], 114, [], .other, false⟩),
  (70, ⟨1, 24, false, [.nil], [2], 129, [], .other, false⟩),
  (71, ⟨1, 24, false, [.nil], [2], 53, [], .other, false⟩),
  (73, ⟨5, 88, true, [.nil, .nil, .int .i64 0, .nil, .int .i64 0], [4, 2, 0, 2, 0], 0, [(0, 1, false), (1, 1, false), (2, 1, false), (3, 1, false), (4, 1, false)], .other, false⟩),
  (114, ⟨4, 32, true, [.int .i64 0, .int .i64 0, .int .i64 0, .int .i64 0], [0, 0, 0, 0], 0, [(0, 2, true), (2, 1, false), (3, 1, false)], .other, false⟩),
  (129, ⟨2, 16, true, [.int .i64 0, .int .i64 0], [0, 0], 0, [(0, 1, false), (1, 1, false)], .other, true⟩),
  (138, ⟨4, 32, true, [.int .i64 0, .int .i64 0, .int .i64 0, .int .i64 0], [0, 0, 0, 0], 0, [(0, 2, true), (2, 1, false), (3, 1, false)], .other, false⟩),
  (140, ⟨2, 16, true, [.int .i64 0, .int .i64 0], [0, 0], 0, [(0, 1, false), (1, 1, false)], .other, true⟩),
  (145, ⟨1, 8, false, [.int .u64 0], [0], 0, [], .int .u64, false⟩),
  (147, ⟨1, 24, false, [.nil], [3], 149, [], .other, false⟩),
  (149, ⟨3, 40, true, [.int .i64 0, .int .i64 0, .nil], [0, 0, 3], 0, [(0, 1, false), (1, 1, false), (2, 1, false)], .other, false⟩)]
def fns : List (Nat × FnI) := [(4, i4), (13, i13), (14, i14), (15, i15), (16, i16), (17, i17), (19, i19), (27, i27), (29, i29), (31, i31), (33, i33), (35, i35), (37, i37), (39, i39), (41, i41), (42, i42), (43, i43), (44, i44), (45, i45), (46, i46), (47, i47), (48, i48), (50, i50), (59, i59), (60, i60), (61, i61), (63, i63), (64, i64), (65, i65), (67, i67), (68, i68), (69, i69), (71, i71), (72, i72), (73, i73), (75, i75), (76, i76), (77, i77), (79, i79), (82, i82), (83, i83), (84, i84), (85, i85), (86, i86), (87, i87), (88, i88), (91, i91), (111, i111), (112, i112), (117, i117), (118, i118), (119, i119), (122, i122), (123, i123), (124, i124), (125, i125), (126, i126), (127, i127), (143, i143), (144, i144), (145, i145), (154, i154)]
def T : Tab := mkTab tys fns
theorem ty3 : T.ty 3 = some ⟨1, 8, false, [.int .i64 0], [0], 0, [], .int .i64, false⟩ := rfl
theorem base3 : T.baseOf 3 = Bs.int .i64 := rfl
theorem ty4 : T.ty 4 = some ⟨1, 1, false, [.bool false], [0], 0, [], .bool, false⟩ := rfl
theorem base4 : T.baseOf 4 = Bs.bool := rfl
theorem ty23 : T.ty 23 = some ⟨2, 16, true, [.int .i64 0, .int .i64 0], [0, 0], 0, [(0, 1, false), (1, 1, false)], .other, true⟩ := rfl
theorem base23 : T.baseOf 23 = Bs.other := rfl
theorem ty31 : T.ty 31 = some ⟨2, 16, true, [.int .i64 0, .int .i64 0], [0, 0], 0, [(0, 1, false), (1, 1, false)], .other, true⟩ := rfl
theorem base31 : T.baseOf 31 = Bs.other := rfl
theorem ty38 : T.ty 38 = some ⟨1, 24, false, [.nil], [5], 65, [], .other, false⟩ := rfl
theorem base38 : T.baseOf 38 = Bs.other := rfl
theorem elem38 : T.elemOf 38 = some ⟨5, 88, true, [.nil, .nil, .int .i64 0, .nil, .int .i64 0], [4, 2, 0, 2, 0], 0, [(0, 1, false), (1, 1, false), (2, 1, false), (3, 1, false), (4, 1, false)], .other, false⟩ := rfl
theorem ty40 : T.ty 40 = some ⟨2, 32, true, [.nil, .bool false], [5, 0], 0, [(0, 1, false), (1, 1, false)], .other, false⟩ := rfl
theorem base40 : T.baseOf 40 = Bs.other := rfl
theorem ty43 : T.ty 43 = some ⟨1, 24, false, [.nil], [5], 73, [], .other, false⟩ := rfl
theorem base43 : T.baseOf 43 = Bs.other := rfl
theorem elem43 : T.elemOf 43 = some ⟨5, 88, true, [.nil, .nil, .int .i64 0, .nil, .int .i64 0], [4, 2, 0, 2, 0], 0, [(0, 1, false), (1, 1, false), (2, 1, false), (3, 1, false), (4, 1, false)], .other, false⟩ := rfl
theorem ty45 : T.ty 45 = some ⟨2, 32, true, [.nil, .bool false], [5, 0], 0, [(0, 1, false), (1, 1, false)], .other, false⟩ := rfl
theorem base45 : T.baseOf 45 = Bs.other := rfl
theorem ty50 : T.ty 50 = some ⟨2, 16, true, [.int .i64 0, .int .i64 0], [0, 0], 0, [(0, 1, false), (1, 1, false)], .other, true⟩ := rfl
theorem base50 : T.baseOf 50 = Bs.other := rfl
theorem ty53 : T.ty 53 = some ⟨2, 16, true, [.int .i64 0, .int .i64 0], [0, 0], 0, [(0, 1, false), (1, 1, false)], .other, true⟩ := rfl
theorem base53 : T.baseOf 53 = Bs.other := rfl
theorem ty61 : T.ty 61 = some ⟨1, 24, false, [.nil], [4], 138, [], .other, false⟩ := rfl
theorem base61 : T.baseOf 61 = Bs.other := rfl
theorem elem61 : T.elemOf 61 = some ⟨4, 32, true, [.int .i64 0, .int .i64 0, .int .i64 0, .int .i64 0], [0, 0, 0, 0], 0, [(0, 2, true), (2, 1, false), (3, 1, false)], .other, false⟩ := rfl
theorem ty62 : T.ty 62 = some ⟨1, 24, false, [.nil], [2], 140, [], .other, false⟩ := rfl
theorem base62 : T.baseOf 62 = Bs.other := rfl
theorem elem62 : T.elemOf 62 = some ⟨2, 16, true, [.int .i64 0, .int .i64 0], [0, 0], 0, [(0, 1, false), (1, 1, false)], .other, true⟩ := rfl
theorem ty63 : T.ty 63 = some ⟨1, 24, false, [.nil], [2], 50, [], .other, false⟩ := rfl
theorem base63 : T.baseOf 63 = Bs.other := rfl
theorem elem63 : T.elemOf 63 = some ⟨2, 16, true, [.int .i64 0, .int .i64 0], [0, 0], 0, [(0, 1, false), (1, 1, false)], .other, true⟩ := rfl
theorem ty65 : T.ty 65 = some ⟨5, 88, true, [.nil, .nil, .int .i64 0, .nil, .int .i64 0], [4, 2, 0, 2, 0], 0, [(0, 1, false), (1, 1, false), (2, 1, false), (3, 1, false), (4, 1, false)], .other, false⟩ := rfl
theorem base65 : T.baseOf 65 = Bs.other := rfl
theorem ty69 : T.ty 69 = some ⟨1, 24, false, [.nil], [4], 114, [], .other, false⟩ := rfl
theorem base69 : T.baseOf 69 = Bs.other := rfl
theorem elem69 : T.elemOf 69 = some ⟨4, 32, true, [.int .i64 0, .int .i64 0, .int .i64 0, .int .i64 0], [0, 0, 0, 0], 0, [(0, 2, true), (2, 1, false), (3, 1, false)], .other, false⟩ := rfl
theorem ty70 : T.ty 70 = some ⟨1, 24, false, [.nil], [2], 129, [], .other, false⟩ := rfl
theorem base70 : T.baseOf 70 = Bs.other := rfl
theorem elem70 : T.elemOf 70 = some ⟨2, 16, true, [.int .i64 0, .int .i64 0], [0, 0], 0, [(0, 1, false), (1, 1, false)], .other, true⟩ := rfl
theorem ty71 : T.ty 71 = some ⟨1, 24, false, [.nil], [2], 53, [], .other, false⟩ := rfl
theorem base71 : T.baseOf 71 = Bs.other := rfl
theorem elem71 : T.elemOf 71 = some ⟨2, 16, true, [.int .i64 0, .int .i64 0], [0, 0], 0, [(0, 1, false), (1, 1, false)], .other, true⟩ := rfl
theorem ty73 : T.ty 73 = some ⟨5, 88, true, [.nil, .nil, .int .i64 0, .nil, .int .i64 0], [4, 2, 0, 2, 0], 0, [(0, 1, false), (1, 1, false), (2, 1, false), (3, 1, false), (4, 1, false)], .other, false⟩ := rfl
theorem base73 : T.baseOf 73 = Bs.other := rfl
theorem ty114 : T.ty 114 = some ⟨4, 32, true, [.int .i64 0, .int .i64 0, .int .i64 0, .int .i64 0], [0, 0, 0, 0], 0, [(0, 2, true), (2, 1, false), (3, 1, false)], .other, false⟩ := rfl
theorem base114 : T.baseOf 114 = Bs.other := rfl
theorem ty129 : T.ty 129 = some ⟨2, 16, true, [.int .i64 0, .int .i64 0], [0, 0], 0, [(0, 1, false), (1, 1, false)], .other, true⟩ := rfl
theorem base129 : T.baseOf 129 = Bs.other := rfl
theorem ty138 : T.ty 138 = some ⟨4, 32, true, [.int .i64 0, .int .i64 0, .int .i64 0, .int .i64 0], [0, 0, 0, 0], 0, [(0, 2, true), (2, 1, false), (3, 1, false)], .other, false⟩ := rfl
theorem base138 : T.baseOf 138 = Bs.other := rfl
theorem ty140 : T.ty 140 = some ⟨2, 16, true, [.int .i64 0, .int .i64 0], [0, 0], 0, [(0, 1, false), (1, 1, false)], .other, true⟩ := rfl
theorem base140 : T.baseOf 140 = Bs.other := rfl
theorem ty145 : T.ty 145 = some ⟨1, 8, false, [.int .u64 0], [0], 0, [], .int .u64, false⟩ := rfl
theorem base145 : T.baseOf 145 = Bs.int .u64 := rfl
theorem ty147 : T.ty 147 = some ⟨1, 24, false, [.nil], [3], 149, [], .other, false⟩ := rfl
theorem base147 : T.baseOf 147 = Bs.other := rfl
theorem elem147 : T.elemOf 147 = some ⟨3, 40, true, [.int .i64 0, .int .i64 0, .nil], [0, 0, 3], 0, [(0, 1, false), (1, 1, false), (2, 1, false)], .other, false⟩ := rfl
theorem ty149 : T.ty 149 = some ⟨3, 40, true, [.int .i64 0, .int .i64 0, .nil], [0, 0, 3], 0, [(0, 1, false), (1, 1, false), (2, 1, false)], .other, false⟩ := rfl
theorem base149 : T.baseOf 149 = Bs.other := rfl
attribute [go_sem] ty3 base3 ty4 base4 ty23 base23 ty31 base31 ty38 base38 elem38 ty40 base40 ty43 base43 elem43 ty45 base45 ty50 base50 ty53 base53 ty61 base61 elem61 ty62 base62 elem62 ty63 base63 elem63 ty65 base65 ty69 base69 elem69 ty70 base70 elem70 ty71 base71 elem71 ty73 base73 ty114 base114 ty129 base129 ty138 base138 ty140 base140 ty145 base145 ty147 base147 elem147 ty149 base149
theorem ok4 : FnOk Try.prog (4, i4) := ⟨Try.f4, _, Try.func4, rfl, by kernel_rfl, rfl, rfl, by kernel_rfl⟩
theorem ok13 : FnOk Try.prog (13, i13) := ⟨Try.f13, _, Try.func13, rfl, by kernel_rfl, rfl, rfl, by kernel_rfl⟩
theorem ok14 : FnOk Try.prog (14, i14) := ⟨Try.f14, _, Try.func14, rfl, by kernel_rfl, rfl, rfl, by kernel_rfl⟩
theorem ok15 : FnOk Try.prog (15, i15) := ⟨Try.f15, _, Try.func15, rfl, by kernel_rfl, rfl, rfl, by kernel_rfl⟩
theorem ok16 : FnOk Try.prog (16, i16) := ⟨Try.f16, _, Try.func16, rfl, by kernel_rfl, rfl, rfl, by kernel_rfl⟩
theorem ok17 : FnOk Try.prog (17, i17) := ⟨Try.f17, _, Try.func17, rfl, by kernel_rfl, rfl, rfl, by kernel_rfl⟩
theorem ok19 : FnOk Try.prog (19, i19) := ⟨Try.f19, _, Try.func19, rfl, by kernel_rfl, rfl, rfl, by kernel_rfl⟩
theorem ok27 : FnOk Try.prog (27, i27) := ⟨Try.f27, _, Try.func27, rfl, by kernel_rfl, rfl, rfl, by kernel_rfl⟩
theorem ok29 : FnOk Try.prog (29, i29) := ⟨Try.f29, _, Try.func29, rfl, by kernel_rfl, rfl, rfl, by kernel_rfl⟩
theorem ok31 : FnOk Try.prog (31, i31) := ⟨Try.f31, _, Try.func31, rfl, by kernel_rfl, rfl, rfl, by kernel_rfl⟩
theorem ok33 : FnOk Try.prog (33, i33) := ⟨Try.f33, _, Try.func33, rfl, by kernel_rfl, rfl, rfl, by kernel_rfl⟩
theorem ok35 : FnOk Try.prog (35, i35) := ⟨Try.f35, _, Try.func35, rfl, by kernel_rfl, rfl, rfl, by kernel_rfl⟩
theorem ok37 : FnOk Try.prog (37, i37) := ⟨Try.f37, _, Try.func37, rfl, by kernel_rfl, rfl, rfl, by kernel_rfl⟩
theorem ok39 : FnOk Try.prog (39, i39) := ⟨Try.f39, _, Try.func39, rfl, by kernel_rfl, rfl, rfl, by kernel_rfl⟩
theorem ok41 : FnOk Try.prog (41, i41) := ⟨Try.f41, _, Try.func41, rfl, by kernel_rfl, rfl, rfl, by kernel_rfl⟩
theorem ok42 : FnOk Try.prog (42, i42) := ⟨Try.f42, _, Try.func42, rfl, by kernel_rfl, rfl, rfl, by kernel_rfl⟩
theorem ok43 : FnOk Try.prog (43, i43) := ⟨Try.f43, _, Try.func43, rfl, by kernel_rfl, rfl, rfl, by kernel_rfl⟩
theorem ok44 : FnOk Try.prog (44, i44) := ⟨Try.f44, _, Try.func44, rfl, by kernel_rfl, rfl, rfl, by kernel_rfl⟩
theorem ok45 : FnOk Try.prog (45, i45) := ⟨Try.f45, _, Try.func45, rfl, by kernel_rfl, rfl, rfl, by kernel_rfl⟩
theorem ok46 : FnOk Try.prog (46, i46) := ⟨Try.f46, _, Try.func46, rfl, by kernel_rfl, rfl, rfl, by kernel_rfl⟩
theorem ok47 : FnOk Try.prog (47, i47) := ⟨Try.f47, _, Try.func47, rfl, by kernel_rfl, rfl, rfl, by kernel_rfl⟩
theorem ok48 : FnOk Try.prog (48, i48) := ⟨Try.f48, _, Try.func48, rfl, by kernel_rfl, rfl, rfl, by kernel_rfl⟩
theorem ok50 : FnOk Try.prog (50, i50) := ⟨Try.f50, _, Try.func50, rfl, by kernel_rfl, rfl, rfl, by kernel_rfl⟩
theorem ok59 : FnOk Try.prog (59, i59) := ⟨Try.f59, _, Try.func59, rfl, by kernel_rfl, rfl, rfl, by kernel_rfl⟩
theorem ok60 : FnOk Try.prog (60, i60) := ⟨Try.f60, _, Try.func60, rfl, by kernel_rfl, rfl, rfl, by kernel_rfl⟩
theorem ok61 : FnOk Try.prog (61, i61) := ⟨Try.f61, _, Try.func61, rfl, by kernel_rfl, rfl, rfl, by kernel_rfl⟩
theorem ok63 : FnOk Try.prog (63, i63) := ⟨Try.f63, _, Try.func63, rfl, by kernel_rfl, rfl, rfl, by kernel_rfl⟩
theorem ok64 : FnOk Try.prog (64, i64) := ⟨Try.f64, _, Try.func64, rfl, by kernel_rfl, rfl, rfl, by kernel_rfl⟩
theorem ok65 : FnOk Try.prog (65, i65) := ⟨Try.f65, _, Try.func65, rfl, by kernel_rfl, rfl, rfl, by kernel_rfl⟩
theorem ok67 : FnOk Try.prog (67, i67) := ⟨Try.f67, _, Try.func67, rfl, by kernel_rfl, rfl, rfl, by kernel_rfl⟩
theorem ok68 : FnOk Try.prog (68, i68) := ⟨Try.f68, _, Try.func68, rfl, by kernel_rfl, rfl, rfl, by kernel_rfl⟩
theorem ok69 : FnOk Try.prog (69, i69) := ⟨Try.f69, _, Try.func69, rfl, by kernel_rfl, rfl, rfl, by kernel_rfl⟩
theorem ok71 : FnOk Try.prog (71, i71) := ⟨Try.f71, _, Try.func71, rfl, by kernel_rfl, rfl, rfl, by kernel_rfl⟩
theorem ok72 : FnOk Try.prog (72, i72) := ⟨Try.f72, _, Try.func72, rfl, by kernel_rfl, rfl, rfl, by kernel_rfl⟩
theorem ok73 : FnOk Try.prog (73, i73) := ⟨Try.f73, _, Try.func73, rfl, by kernel_rfl, rfl, rfl, by kernel_rfl⟩
theorem ok75 : FnOk Try.prog (75, i75) := ⟨Try.f75, _, Try.func75, rfl, by kernel_rfl, rfl, rfl, by kernel_rfl⟩
theorem ok76 : FnOk Try.prog (76, i76) := ⟨Try.f76, _, Try.func76, rfl, by kernel_rfl, rfl, rfl, by kernel_rfl⟩
theorem ok77 : FnOk Try.prog (77, i77) := ⟨Try.f77, _, Try.func77, rfl, by kernel_rfl, rfl, rfl, by kernel_rfl⟩
theorem ok79 : FnOk Try.prog (79, i79) := ⟨Try.f79, _, Try.func79, rfl, by kernel_rfl, rfl, rfl, by kernel_rfl⟩
theorem ok82 : FnOk Try.prog (82, i82) := ⟨Try.f82, _, Try.func82, rfl, by kernel_rfl, rfl, rfl, by kernel_rfl⟩
theorem ok83 : FnOk Try.prog (83, i83) := ⟨Try.f83, _, Try.func83, rfl, by kernel_rfl, rfl, rfl, by kernel_rfl⟩
theorem ok84 : FnOk Try.prog (84, i84) := ⟨Try.f84, _, Try.func84, rfl, by kernel_rfl, rfl, rfl, by kernel_rfl⟩
theorem ok85 : FnOk Try.prog (85, i85) := ⟨Try.f85, _, Try.func85, rfl, by kernel_rfl, rfl, rfl, by kernel_rfl⟩
theorem ok86 : FnOk Try.prog (86, i86) := ⟨Try.f86, _, Try.func86, rfl, by kernel_rfl, rfl, rfl, by kernel_rfl⟩
theorem ok87 : FnOk Try.prog (87, i87) := ⟨Try.f87, _, Try.func87, rfl, by kernel_rfl, rfl, rfl, by kernel_rfl⟩
theorem ok88 : FnOk Try.prog (88, i88) := ⟨Try.f88, _, Try.func88, rfl, by kernel_rfl, rfl, rfl, by kernel_rfl⟩
theorem ok91 : FnOk Try.prog (91, i91) := ⟨Try.f91, _, Try.func91, rfl, by kernel_rfl, rfl, rfl, by kernel_rfl⟩
theorem ok111 : FnOk Try.prog (111, i111) := ⟨Try.f111, _, Try.func111, rfl, by kernel_rfl, rfl, rfl, by kernel_rfl⟩
theorem ok112 : FnOk Try.prog (112, i112) := ⟨Try.f112, _, Try.func112, rfl, by kernel_rfl, rfl, rfl, by kernel_rfl⟩
theorem ok117 : FnOk Try.prog (117, i117) := ⟨Try.f117, _, Try.func117, rfl, by kernel_rfl, rfl, rfl, by kernel_rfl⟩
theorem ok118 : FnOk Try.prog (118, i118) := ⟨Try.f118, _, Try.func118, rfl, by kernel_rfl, rfl, rfl, by kernel_rfl⟩
theorem ok119 : FnOk Try.prog (119, i119) := ⟨Try.f119, _, Try.func119, rfl, by kernel_rfl, rfl, rfl, by kernel_rfl⟩
theorem ok122 : FnOk Try.prog (122, i122) := ⟨Try.f122, _, Try.func122, rfl, by kernel_rfl, rfl, rfl, by kernel_rfl⟩
theorem ok123 : FnOk Try.prog (123, i123) := ⟨Try.f123, _, Try.func123, rfl, by kernel_rfl, rfl, rfl, by kernel_rfl⟩
theorem ok124 : FnOk Try.prog (124, i124) := ⟨Try.f124, _, Try.func124, rfl, by kernel_rfl, rfl, rfl, by kernel_rfl⟩
theorem ok125 : FnOk Try.prog (125, i125) := ⟨Try.f125, _, Try.func125, rfl, by kernel_rfl, rfl, rfl, by kernel_rfl⟩
theorem ok126 : FnOk Try.prog (126, i126) := ⟨Try.f126, _, Try.func126, rfl, by kernel_rfl, rfl, rfl, by kernel_rfl⟩
theorem ok127 : FnOk Try.prog (127, i127) := ⟨Try.f127, _, Try.func127, rfl, by kernel_rfl, rfl, rfl, by kernel_rfl⟩
theorem ok143 : FnOk Try.prog (143, i143) := ⟨Try.f143, _, Try.func143, rfl, by kernel_rfl, rfl, rfl, by kernel_rfl⟩
theorem ok144 : FnOk Try.prog (144, i144) := ⟨Try.f144, _, Try.func144, rfl, by kernel_rfl, rfl, rfl, by kernel_rfl⟩
theorem ok145 : FnOk Try.prog (145, i145) := ⟨Try.f145, _, Try.func145, rfl, by kernel_rfl, rfl, rfl, by kernel_rfl⟩
theorem ok154 : FnOk Try.prog (154, i154) := ⟨Try.f154, _, Try.func154, rfl, by kernel_rfl, rfl, rfl, by kernel_rfl⟩
theorem tab : TabOk Try.prog T := tabOk_of (by kernel_rfl) (.cons ok4 (.cons ok13 (.cons ok14 (.cons ok15 (.cons ok16 (.cons ok17 (.cons ok19 (.cons ok27 (.cons ok29 (.cons ok31 (.cons ok33 (.cons ok35 (.cons ok37 (.cons ok39 (.cons ok41 (.cons ok42 (.cons ok43 (.cons ok44 (.cons ok45 (.cons ok46 (.cons ok47 (.cons ok48 (.cons ok50 (.cons ok59 (.cons ok60 (.cons ok61 (.cons ok63 (.cons ok64 (.cons ok65 (.cons ok67 (.cons ok68 (.cons ok69 (.cons ok71 (.cons ok72 (.cons ok73 (.cons ok75 (.cons ok76 (.cons ok77 (.cons ok79 (.cons ok82 (.cons ok83 (.cons ok84 (.cons ok85 (.cons ok86 (.cons ok87 (.cons ok88 (.cons ok91 (.cons ok111 (.cons ok112 (.cons ok117 (.cons ok118 (.cons ok119 (.cons ok122 (.cons ok123 (.cons ok124 (.cons ok125 (.cons ok126 (.cons ok127 (.cons ok143 (.cons ok144 (.cons ok145 (.cons ok154 (.nil)))))))))))))))))))))))))))))))))))))))))))))))))))))))))))))))
theorem fn4 : T.fn 4 = some i4 := rfl
theorem fn13 : T.fn 13 = some i13 := rfl
theorem fn14 : T.fn 14 = some i14 := rfl
theorem fn15 : T.fn 15 = some i15 := rfl
theorem fn16 : T.fn 16 = some i16 := rfl
theorem fn17 : T.fn 17 = some i17 := rfl
theorem fn19 : T.fn 19 = some i19 := rfl
theorem fn27 : T.fn 27 = some i27 := rfl
theorem fn29 : T.fn 29 = some i29 := rfl
theorem fn31 : T.fn 31 = some i31 := rfl
theorem fn33 : T.fn 33 = some i33 := rfl
theorem fn35 : T.fn 35 = some i35 := rfl
theorem fn37 : T.fn 37 = some i37 := rfl
theorem fn39 : T.fn 39 = some i39 := rfl
theorem fn41 : T.fn 41 = some i41 := rfl
theorem fn42 : T.fn 42 = some i42 := rfl
theorem fn43 : T.fn 43 = some i43 := rfl
theorem fn44 : T.fn 44 = some i44 := rfl
theorem fn45 : T.fn 45 = some i45 := rfl
theorem fn46 : T.fn 46 = some i46 := rfl
theorem fn47 : T.fn 47 = some i47 := rfl
theorem fn48 : T.fn 48 = some i48 := rfl
theorem fn50 : T.fn 50 = some i50 := rfl
theorem fn59 : T.fn 59 = some i59 := rfl
theorem fn60 : T.fn 60 = some i60 := rfl
theorem fn61 : T.fn 61 = some i61 := rfl
theorem fn63 : T.fn 63 = some i63 := rfl
theorem fn64 : T.fn 64 = some i64 := rfl
theorem fn65 : T.fn 65 = some i65 := rfl
theorem fn67 : T.fn 67 = some i67 := rfl
theorem fn68 : T.fn 68 = some i68 := rfl
theorem fn69 : T.fn 69 = some i69 := rfl
theorem fn71 : T.fn 71 = some i71 := rfl
theorem fn72 : T.fn 72 = some i72 := rfl
theorem fn73 : T.fn 73 = some i73 := rfl
theorem fn75 : T.fn 75 = some i75 := rfl
theorem fn76 : T.fn 76 = some i76 := rfl
theorem fn77 : T.fn 77 = some i77 := rfl
theorem fn79 : T.fn 79 = some i79 := rfl
theorem fn82 : T.fn 82 = some i82 := rfl
theorem fn83 : T.fn 83 = some i83 := rfl
theorem fn84 : T.fn 84 = some i84 := rfl
theorem fn85 : T.fn 85 = some i85 := rfl
theorem fn86 : T.fn 86 = some i86 := rfl
theorem fn87 : T.fn 87 = some i87 := rfl
theorem fn88 : T.fn 88 = some i88 := rfl
theorem fn91 : T.fn 91 = some i91 := rfl
theorem fn111 : T.fn 111 = some i111 := rfl
theorem fn112 : T.fn 112 = some i112 := rfl
theorem fn117 : T.fn 117 = some i117 := rfl
theorem fn118 : T.fn 118 = some i118 := rfl
theorem fn119 : T.fn 119 = some i119 := rfl
theorem fn122 : T.fn 122 = some i122 := rfl
theorem fn123 : T.fn 123 = some i123 := rfl
theorem fn124 : T.fn 124 = some i124 := rfl
theorem fn125 : T.fn 125 = some i125 := rfl
theorem fn126 : T.fn 126 = some i126 := rfl
theorem fn127 : T.fn 127 = some i127 := rfl
theorem fn143 : T.fn 143 = some i143 := rfl
theorem fn144 : T.fn 144 = some i144 := rfl
theorem fn145 : T.fn 145 = some i145 := rfl
theorem fn154 : T.fn 154 = some i154 := rfl
end Go.Pi.Ythidbgihjhkjaaa.GoodPolicy
