/- What functions of the program answer, and that the law answers true at every input; no condition -/
import Derived.Test.YtbohlpligkfkiaaProg
import Derived.Test.YtbohlpligkfkiaaPiD
set_option linter.all false
/- The program's tables for Pi: types and functions, as they stand in the loaded program, with hints. -/
namespace Go.Pi.Ytbohlpligkfkiaa.LexOf
open Go Go.Proofs Go.Pi
set_option maxRecDepth 100000

-- loop.example/g00344/laws.szIntS
def r76_0 : List PO := [⟨(some 4), (Op.assign (Operand.const (Value.int IntKind.i64 0))), none⟩]
attribute [go_sem] r76_0
def r76_1 : List PO := [⟨(some 5), (Op.move (Operand.tmp 1)), none⟩,
  ⟨(some 6), (Op.move (Operand.tmp 0)), none⟩,
  ⟨(some 7), (Op.call { callee := (Callee.builtin Builtin.len), args := #[(Operand.tmp 6)], argTypes := #[38] }), none⟩,
  ⟨(some 8), (Op.binOp BinOp.sub 3 (Operand.tmp 5) (Operand.tmp 7) 3), none⟩,
  ⟨(some 1), (Op.assign (Operand.tmp 8)), none⟩]
attribute [go_sem] r76_1
def r76_2 : List PO := [⟨(some 9), (Op.move (Operand.tmp 1)), none⟩,
  ⟨(some 10), (Op.binOp BinOp.lss 3 (Operand.tmp 9) (Operand.const (Value.int IntKind.i64 0)) 3), none⟩]
attribute [go_sem] r76_2
def r76_3 : List PO := [⟨(some 4), (Op.assign (Operand.const (Value.int IntKind.i64 (-1)))), none⟩]
attribute [go_sem] r76_3
def r76_4 : List PO := [⟨(some 11), (Op.move (Operand.tmp 1)), none⟩,
  ⟨(some 4), (Op.assign (Operand.tmp 11)), none⟩]
attribute [go_sem] r76_4
def c76 : PC := (.seq (.reg r76_0) (.seq (.reg r76_1) (.seq (.seq (.reg r76_2) (.cond (Operand.tmp 10) (.seq (.reg r76_3) .ret) .skip)) (.seq (.reg r76_4) .ret))))
def i76 : FnI := ⟨12, [(ResultVar.tmp 4)], c76, 0, [[1], [0]], [[0]], false, false, 0, false⟩
-- loop.example/g00344/laws.szIntSS
def r44_5 : List PO := [⟨(some 12), (Op.move (Operand.tmp 5)), none⟩,
  ⟨(some 13), (Op.move (Operand.tmp 0)), none⟩,
  ⟨(some 14), (Op.call { callee := (Callee.builtin Builtin.len), args := #[(Operand.tmp 13)], argTypes := #[22] }), none⟩,
  ⟨(some 15), (Op.binOp BinOp.lss 3 (Operand.tmp 12) (Operand.tmp 14) 3), none⟩]
attribute [go_sem] r44_5
def r44_7 : List PO := [⟨(some 18), (Op.move (Operand.tmp 0)), none⟩,
  ⟨(some 19), (Op.move (Operand.tmp 5)), none⟩,
  ⟨(some 20), (Op.indexAddr 22 (Operand.tmp 18) (Operand.tmp 19)), none⟩,
  ⟨(some 21), (Op.load 38 (Operand.tmp 20)), none⟩,
  ⟨(some 22), (Op.move (Operand.tmp 1)), none⟩,
  ⟨(some 23), (Op.call { callee := (Callee.value (Operand.func 76)), args := #[(Operand.tmp 21), (Operand.tmp 22)], argTypes := #[38, 3] }), none⟩,
  ⟨(some 1), (Op.assign (Operand.tmp 23)), none⟩]
attribute [go_sem] r44_7
def r44_8 : List PO := [⟨(some 24), (Op.move (Operand.tmp 1)), none⟩,
  ⟨(some 25), (Op.binOp BinOp.lss 3 (Operand.tmp 24) (Operand.const (Value.int IntKind.i64 0)) 3), none⟩]
attribute [go_sem] r44_8
def r44_9 : List PO := [⟨(some 4), (Op.assign (Operand.const (Value.int IntKind.i64 (-1)))), none⟩]
attribute [go_sem] r44_9
def r44_6 : List PO := [⟨(some 16), (Op.move (Operand.tmp 5)), none⟩,
  ⟨(some 17), (Op.binOp BinOp.add 3 (Operand.tmp 16) (Operand.const (Value.int IntKind.i64 1)) 3), none⟩,
  ⟨(some 5), (Op.assign (Operand.tmp 17)), none⟩]
attribute [go_sem] r44_6
def k44_1b : PC := (.seq (.seq (.reg r44_5) (.cond (Operand.tmp 15) .skip (.pre ⟨[1], [], []⟩ (.exit 0)))) (.seq (.block 1 (.seq (.reg r44_7) (.seq (.reg r44_8) (.cond (Operand.tmp 25) (.seq (.reg r44_9) (.pre ⟨[4], [], []⟩ .ret)) .skip)))) (.post (.reg r44_6) ⟨[0, 1, 5], [], []⟩)))
def r44_0 : List PO := [⟨(some 4), (Op.assign (Operand.const (Value.int IntKind.i64 0))), none⟩]
attribute [go_sem] r44_0
def r44_1 : List PO := [⟨(some 6), (Op.move (Operand.tmp 1)), none⟩,
  ⟨(some 7), (Op.move (Operand.tmp 0)), none⟩,
  ⟨(some 8), (Op.call { callee := (Callee.builtin Builtin.len), args := #[(Operand.tmp 7)], argTypes := #[22] }), none⟩,
  ⟨(some 9), (Op.binOp BinOp.sub 3 (Operand.tmp 6) (Operand.tmp 8) 3), none⟩,
  ⟨(some 1), (Op.assign (Operand.tmp 9)), none⟩]
attribute [go_sem] r44_1
def r44_2 : List PO := [⟨(some 10), (Op.move (Operand.tmp 1)), none⟩,
  ⟨(some 11), (Op.binOp BinOp.lss 3 (Operand.tmp 10) (Operand.const (Value.int IntKind.i64 0)) 3), none⟩]
attribute [go_sem] r44_2
def r44_3 : List PO := [⟨(some 4), (Op.assign (Operand.const (Value.int IntKind.i64 (-1)))), none⟩]
attribute [go_sem] r44_3
def r44_4 : List PO := [⟨(some 5), (Op.assign (Operand.const (Value.int IntKind.i64 0))), none⟩]
attribute [go_sem] r44_4
def r44_10 : List PO := [⟨(some 26), (Op.move (Operand.tmp 1)), none⟩,
  ⟨(some 4), (Op.assign (Operand.tmp 26)), none⟩]
attribute [go_sem] r44_10
def c44 : PC := (.seq (.reg r44_0) (.seq (.reg r44_1) (.seq (.seq (.reg r44_2) (.cond (Operand.tmp 11) (.seq (.reg r44_3) .ret) .skip)) (.seq (.seq (.reg r44_4) (.block 0 (.pre ⟨[0, 1, 5], [], []⟩ (.loop k44_1b)))) (.seq (.reg r44_10) .ret)))))
def i44 : FnI := ⟨27, [(ResultVar.tmp 4)], c44, 0, [[1], [0]], [[0]], false, false, 0, false⟩
-- loop.example/g00344/laws.szAlgebra
def r12_0 : List PO := [⟨(some 2), (Op.box 24 (Operand.tmp 0)), none⟩,
  ⟨(some 4), (Op.assign (Operand.const (Value.int IntKind.i64 0))), none⟩]
attribute [go_sem] r12_0
def r12_1 : List PO := [⟨(some 5), (Op.fieldAddr 24 (Operand.tmp 2) 1), none⟩,
  ⟨(some 6), (Op.load 22 (Operand.tmp 5)), none⟩,
  ⟨(some 7), (Op.move (Operand.tmp 1)), none⟩,
  ⟨(some 8), (Op.call { callee := (Callee.value (Operand.func 44)), args := #[(Operand.tmp 6), (Operand.tmp 7)], argTypes := #[22, 3] }), none⟩,
  ⟨(some 1), (Op.assign (Operand.tmp 8)), none⟩]
attribute [go_sem] r12_1
def r12_2 : List PO := [⟨(some 9), (Op.move (Operand.tmp 1)), none⟩,
  ⟨(some 10), (Op.binOp BinOp.lss 3 (Operand.tmp 9) (Operand.const (Value.int IntKind.i64 0)) 3), none⟩]
attribute [go_sem] r12_2
def r12_3 : List PO := [⟨(some 4), (Op.assign (Operand.const (Value.int IntKind.i64 (-1)))), none⟩]
attribute [go_sem] r12_3
def r12_4 : List PO := [⟨(some 11), (Op.move (Operand.tmp 1)), none⟩,
  ⟨(some 4), (Op.assign (Operand.tmp 11)), none⟩]
attribute [go_sem] r12_4
def c12 : PC := (.seq (.reg r12_0) (.seq (.reg r12_1) (.seq (.seq (.reg r12_2) (.cond (Operand.tmp 10) (.seq (.reg r12_3) .ret) .skip)) (.seq (.reg r12_4) .ret))))
def i12 : FnI := ⟨12, [(ResultVar.tmp 4)], c12, 0, [[0, 1], [0]], [[0]], false, false, 0, false⟩
-- loop.example/g00344/laws.toIntS
def r28_3 : List PO := [⟨(some 8), (Op.move (Operand.tmp 4)), none⟩,
  ⟨(some 9), (Op.move (Operand.tmp 0)), none⟩,
  ⟨(some 10), (Op.call { callee := (Callee.builtin Builtin.len), args := #[(Operand.tmp 9)], argTypes := #[38] }), none⟩,
  ⟨(some 11), (Op.binOp BinOp.lss 3 (Operand.tmp 8) (Operand.tmp 10) 3), none⟩]
attribute [go_sem] r28_3
def r28_5 : List PO := [⟨(some 14), (Op.move (Operand.tmp 3)), none⟩,
  ⟨(some 15), (Op.move (Operand.tmp 4)), none⟩,
  ⟨(some 16), (Op.move (Operand.tmp 0)), none⟩,
  ⟨(some 17), (Op.move (Operand.tmp 4)), none⟩,
  ⟨(some 18), (Op.indexAddr 38 (Operand.tmp 16) (Operand.tmp 17)), none⟩,
  ⟨(some 19), (Op.load 3 (Operand.tmp 18)), none⟩,
  ⟨(some 20), (Op.indexAddr 38 (Operand.tmp 14) (Operand.tmp 15)), none⟩,
  ⟨none, (Op.store 3 (Operand.tmp 20) (Operand.tmp 19)), none⟩]
attribute [go_sem] r28_5
def r28_4 : List PO := [⟨(some 12), (Op.move (Operand.tmp 4)), none⟩,
  ⟨(some 13), (Op.binOp BinOp.add 3 (Operand.tmp 12) (Operand.const (Value.int IntKind.i64 1)) 3), none⟩,
  ⟨(some 4), (Op.assign (Operand.tmp 13)), none⟩]
attribute [go_sem] r28_4
def k28_1b : PC := (.seq (.seq (.reg r28_3) (.cond (Operand.tmp 11) .skip (.pre ⟨[3], [.old 0], []⟩ (.exit 0)))) (.seq (.block 1 (.reg r28_5)) (.post (.reg r28_4) ⟨[0, 3, 4], [.old 0], []⟩)))
def r28_0 : List PO := [⟨(some 2), (Op.assign (Operand.const (Value.slice none 0 0))), none⟩]
attribute [go_sem] r28_0
def r28_1 : List PO := [⟨(some 5), (Op.move (Operand.tmp 0)), none⟩,
  ⟨(some 6), (Op.call { callee := (Callee.builtin Builtin.len), args := #[(Operand.tmp 5)], argTypes := #[38] }), none⟩,
  ⟨(some 7), (Op.makeSlice 38 (Operand.tmp 6) (Operand.tmp 6)), none⟩,
  ⟨(some 3), (Op.assign (Operand.tmp 7)), none⟩]
attribute [go_sem] r28_1
def r28_2 : List PO := [⟨(some 4), (Op.assign (Operand.const (Value.int IntKind.i64 0))), none⟩]
attribute [go_sem] r28_2
def r28_6 : List PO := [⟨(some 21), (Op.move (Operand.tmp 3)), none⟩,
  ⟨(some 2), (Op.assign (Operand.tmp 21)), none⟩]
attribute [go_sem] r28_6
def c28 : PC := (.seq (.reg r28_0) (.seq (.reg r28_1) (.seq (.seq (.reg r28_2) (.block 0 (.pre ⟨[0, 3, 4], [.old 0], []⟩ (.loop k28_1b)))) (.seq (.reg r28_6) .ret))))
def i28 : FnI := ⟨22, [(ResultVar.tmp 2)], c28, 0, [[1]], [[1]], false, false, 0, false⟩
-- loop.example/g00344/laws.toIntSS
def r47_3 : List PO := [⟨(some 8), (Op.move (Operand.tmp 4)), none⟩,
  ⟨(some 9), (Op.move (Operand.tmp 0)), none⟩,
  ⟨(some 10), (Op.call { callee := (Callee.builtin Builtin.len), args := #[(Operand.tmp 9)], argTypes := #[22] }), none⟩,
  ⟨(some 11), (Op.binOp BinOp.lss 3 (Operand.tmp 8) (Operand.tmp 10) 3), none⟩]
attribute [go_sem] r47_3
def r47_5 : List PO := [⟨(some 14), (Op.move (Operand.tmp 3)), none⟩,
  ⟨(some 15), (Op.move (Operand.tmp 4)), none⟩,
  ⟨(some 16), (Op.move (Operand.tmp 0)), none⟩,
  ⟨(some 17), (Op.move (Operand.tmp 4)), none⟩,
  ⟨(some 18), (Op.indexAddr 22 (Operand.tmp 16) (Operand.tmp 17)), none⟩,
  ⟨(some 19), (Op.load 38 (Operand.tmp 18)), none⟩,
  ⟨(some 20), (Op.call { callee := (Callee.value (Operand.func 28)), args := #[(Operand.tmp 19)], argTypes := #[38] }), none⟩,
  ⟨(some 21), (Op.indexAddr 22 (Operand.tmp 14) (Operand.tmp 15)), none⟩,
  ⟨none, (Op.store 38 (Operand.tmp 21) (Operand.tmp 20)), none⟩]
attribute [go_sem] r47_5
def r47_4 : List PO := [⟨(some 12), (Op.move (Operand.tmp 4)), none⟩,
  ⟨(some 13), (Op.binOp BinOp.add 3 (Operand.tmp 12) (Operand.const (Value.int IntKind.i64 1)) 3), none⟩,
  ⟨(some 4), (Op.assign (Operand.tmp 13)), none⟩]
attribute [go_sem] r47_4
def k47_1b : PC := (.seq (.seq (.reg r47_3) (.cond (Operand.tmp 11) .skip (.pre ⟨[3], [.old 0], []⟩ (.exit 0)))) (.seq (.block 1 (.reg r47_5)) (.post (.reg r47_4) ⟨[0, 3, 4], [.old 0], []⟩)))
def r47_0 : List PO := [⟨(some 2), (Op.assign (Operand.const (Value.slice none 0 0))), none⟩]
attribute [go_sem] r47_0
def r47_1 : List PO := [⟨(some 5), (Op.move (Operand.tmp 0)), none⟩,
  ⟨(some 6), (Op.call { callee := (Callee.builtin Builtin.len), args := #[(Operand.tmp 5)], argTypes := #[22] }), none⟩,
  ⟨(some 7), (Op.makeSlice 22 (Operand.tmp 6) (Operand.tmp 6)), none⟩,
  ⟨(some 3), (Op.assign (Operand.tmp 7)), none⟩]
attribute [go_sem] r47_1
def r47_2 : List PO := [⟨(some 4), (Op.assign (Operand.const (Value.int IntKind.i64 0))), none⟩]
attribute [go_sem] r47_2
def r47_6 : List PO := [⟨(some 22), (Op.move (Operand.tmp 3)), none⟩,
  ⟨(some 2), (Op.assign (Operand.tmp 22)), none⟩]
attribute [go_sem] r47_6
def c47 : PC := (.seq (.reg r47_0) (.seq (.reg r47_1) (.seq (.seq (.reg r47_2) (.block 0 (.pre ⟨[0, 3, 4], [.old 0], []⟩ (.loop k47_1b)))) (.seq (.reg r47_6) .ret))))
def i47 : FnI := ⟨23, [(ResultVar.tmp 2)], c47, 0, [[1]], [[1]], false, false, 0, false⟩
-- loop.example/g00344/laws.toAlgebra
def r14_0 : List PO := [⟨(some 1), (Op.box 24 (Operand.tmp 0)), none⟩,
  ⟨(some 2), (Op.alloc 27), none⟩]
attribute [go_sem] r14_0
def r14_1 : List PO := [⟨(some 3), (Op.alloc 27), none⟩]
attribute [go_sem] r14_1
def r14_2 : List PO := [⟨(some 4), (Op.fieldAddr 24 (Operand.tmp 1) 0), none⟩,
  ⟨(some 5), (Op.load 3 (Operand.tmp 4)), none⟩,
  ⟨(some 6), (Op.fieldAddr 27 (Operand.tmp 3) 0), none⟩,
  ⟨none, (Op.store 3 (Operand.tmp 6) (Operand.tmp 5)), none⟩]
attribute [go_sem] r14_2
def r14_3 : List PO := [⟨(some 7), (Op.fieldAddr 24 (Operand.tmp 1) 1), none⟩,
  ⟨(some 8), (Op.load 22 (Operand.tmp 7)), none⟩,
  ⟨(some 9), (Op.call { callee := (Callee.value (Operand.func 47)), args := #[(Operand.tmp 8)], argTypes := #[22] }), none⟩,
  ⟨(some 10), (Op.fieldAddr 27 (Operand.tmp 3) 1), none⟩,
  ⟨none, (Op.store 22 (Operand.tmp 10) (Operand.tmp 9)), none⟩]
attribute [go_sem] r14_3
def r14_4 : List PO := [⟨(some 11), (Op.load 27 (Operand.tmp 3)), none⟩,
  ⟨none, (Op.store 27 (Operand.tmp 2) (Operand.tmp 11)), none⟩]
attribute [go_sem] r14_4
def c14 : PC := (.seq (.reg r14_0) (.seq (.reg r14_1) (.seq (.reg r14_2) (.seq (.reg r14_3) (.seq (.reg r14_4) .ret)))))
def i14 : FnI := ⟨12, [(ResultVar.cell 2 27)], c14, 0, [[0, 1]], [[0, 1]], false, false, 0, false⟩
-- loop.example/g00344/spec.l1In
def r45_1 : List PO := [⟨(some 7), (Op.move (Operand.tmp 0)), none⟩,
  ⟨(some 8), (Op.move (Operand.tmp 1)), none⟩,
  ⟨(some 9), (Op.binOp BinOp.geq 3 (Operand.tmp 7) (Operand.tmp 8) 3), none⟩,
  ⟨(some 10), (Op.move (Operand.tmp 9)), none⟩,
  ⟨(some 11), (Op.move (Operand.tmp 0)), (some (10, true))⟩,
  ⟨(some 12), (Op.move (Operand.tmp 2)), (some (10, true))⟩,
  ⟨(some 13), (Op.binOp BinOp.leq 3 (Operand.tmp 11) (Operand.tmp 12) 3), (some (10, true))⟩,
  ⟨(some 14), (Op.pick (Operand.tmp 10) (Operand.tmp 13) (Operand.const (Value.bool false))), none⟩,
  ⟨(some 6), (Op.assign (Operand.tmp 14)), none⟩]
attribute [go_sem] r45_1
def k45_1 : PC := (.post (.reg r45_1) ⟨[6], [], []⟩)
def r45_0 : List PO := [⟨(some 6), (Op.assign (Operand.const (Value.bool false))), none⟩]
attribute [go_sem] r45_0
def c45 : PC := (.seq (.reg r45_0) (.seq (.pre ⟨[0, 1, 2], [], []⟩ k45_1) .ret))
def i45 : FnI := ⟨15, [(ResultVar.tmp 6)], c45, 0, [[0], [0], [0]], [[0]], false, false, 0, false⟩
-- loop.example/g00344/spec.l9Apply
def r46_4 : List PO := [⟨(some 13), (Op.move (Operand.tmp 6)), none⟩,
  ⟨(some 14), (Op.binOp BinOp.lss 3 (Operand.tmp 13) (Operand.const (Value.int IntKind.i64 0)) 3), none⟩,
  ⟨(some 15), (Op.move (Operand.tmp 14)), none⟩,
  ⟨(some 16), (Op.move (Operand.tmp 6)), (some (15, false))⟩,
  ⟨(some 17), (Op.move (Operand.tmp 1)), (some (15, false))⟩,
  ⟨(some 18), (Op.binOp BinOp.geq 3 (Operand.tmp 16) (Operand.tmp 17) 3), (some (15, false))⟩,
  ⟨(some 19), (Op.pick (Operand.tmp 15) (Operand.const (Value.bool true)) (Operand.tmp 18)), none⟩]
attribute [go_sem] r46_4
def k46_3 : PC := (.post (.reg r46_4) ⟨[0, 1, 7, 8, 9, 19], [], []⟩)
def r46_2 : List PO := [⟨(some 10), (Op.binOp BinOp.lss 3 (Operand.tmp 9) (Operand.tmp 8) 3), none⟩]
attribute [go_sem] r46_2
def r46_3 : List PO := [⟨(some 11), (Op.indexAddr 38 (Operand.tmp 7) (Operand.tmp 9)), none⟩,
  ⟨(some 12), (Op.load 3 (Operand.tmp 11)), none⟩,
  ⟨(some 6), (Op.assign (Operand.tmp 12)), none⟩]
attribute [go_sem] r46_3
def r46_5 : List PO := [⟨(some 4), (Op.assign (Operand.const (Value.bool false))), none⟩]
attribute [go_sem] r46_5
def r46_6 : List PO := [⟨(some 20), (Op.binOp BinOp.add 3 (Operand.tmp 9) (Operand.const (Value.int IntKind.i64 1)) 3), none⟩,
  ⟨(some 9), (Op.move (Operand.tmp 20)), none⟩]
attribute [go_sem] r46_6
def k46_1b : PC := (.seq (.reg r46_2) (.seq (.cond (Operand.tmp 10) .skip (.pre ⟨[0, 1], [], []⟩ (.exit 0))) (.seq (.block 1 (.seq (.reg r46_3) (.seq (.pre ⟨[0, 1, 6, 7, 8, 9], [], []⟩ k46_3) (.cond (Operand.tmp 19) (.seq (.reg r46_5) (.pre ⟨[4], [], []⟩ .ret)) .skip)))) (.post (.reg r46_6) ⟨[0, 1, 7, 8, 9], [], []⟩))))
def r46_7 : List PO := [⟨(some 21), (Op.move (Operand.tmp 0)), none⟩,
  ⟨(some 22), (Op.call { callee := (Callee.builtin Builtin.len), args := #[(Operand.tmp 21)], argTypes := #[38] }), none⟩,
  ⟨(some 23), (Op.move (Operand.tmp 1)), none⟩,
  ⟨(some 24), (Op.binOp BinOp.eql 3 (Operand.tmp 22) (Operand.tmp 23) 3), none⟩,
  ⟨(some 25), (Op.move (Operand.tmp 24)), none⟩,
  ⟨(some 26), (Op.move (Operand.tmp 0)), (some (25, true))⟩,
  ⟨(some 27), (Op.move (Operand.tmp 1)), (some (25, true))⟩,
  ⟨(some 28), (Op.binOp BinOp.sub 3 (Operand.tmp 27) (Operand.const (Value.int IntKind.i64 1)) 3), (some (25, true))⟩,
  ⟨(some 29), (Op.indexAddr 38 (Operand.tmp 26) (Operand.tmp 28)), (some (25, true))⟩,
  ⟨(some 30), (Op.load 3 (Operand.tmp 29)), (some (25, true))⟩,
  ⟨(some 31), (Op.move (Operand.tmp 1)), (some (25, true))⟩,
  ⟨(some 32), (Op.binOp BinOp.sub 3 (Operand.tmp 31) (Operand.const (Value.int IntKind.i64 1)) 3), (some (25, true))⟩,
  ⟨(some 33), (Op.binOp BinOp.eql 3 (Operand.tmp 30) (Operand.tmp 32) 3), (some (25, true))⟩,
  ⟨(some 34), (Op.pick (Operand.tmp 25) (Operand.tmp 33) (Operand.const (Value.bool false))), none⟩,
  ⟨(some 4), (Op.assign (Operand.tmp 34)), none⟩]
attribute [go_sem] r46_7
def k46_4 : PC := (.post (.reg r46_7) ⟨[4], [], []⟩)
def r46_0 : List PO := [⟨(some 4), (Op.assign (Operand.const (Value.bool false))), none⟩]
attribute [go_sem] r46_0
def r46_1 : List PO := [⟨(some 7), (Op.move (Operand.tmp 0)), none⟩,
  ⟨(some 8), (Op.call { callee := (Callee.builtin Builtin.len), args := #[(Operand.tmp 7)], argTypes := #[38] }), none⟩,
  ⟨(some 9), (Op.move (Operand.const (Value.int IntKind.i64 0))), none⟩]
attribute [go_sem] r46_1
def c46 : PC := (.seq (.reg r46_0) (.seq (.seq (.reg r46_1) (.block 0 (.pre ⟨[0, 1, 7, 8, 9], [], []⟩ (.loop k46_1b)))) (.seq (.pre ⟨[0, 1], [], []⟩ k46_4) .ret)))
def i46 : FnI := ⟨35, [(ResultVar.tmp 4)], c46, 0, [[1], [0]], [[0]], false, false, 0, false⟩
-- loop.example/g00344/spec.GoodAlgebra
def r13_1 : List PO := [⟨(some 5), (Op.fieldAddr 27 (Operand.tmp 1) 0), none⟩,
  ⟨(some 6), (Op.load 3 (Operand.tmp 5)), none⟩,
  ⟨(some 7), (Op.call { callee := (Callee.value (Operand.func 45)), args := #[(Operand.tmp 6), (Operand.const (Value.int IntKind.i64 2)), (Operand.const (Value.int IntKind.i64 12))], argTypes := #[3, 3, 3] }), none⟩,
  ⟨(some 8), (Op.unOp UnOp.not 4 (Operand.tmp 7)), none⟩,
  ⟨(some 9), (Op.move (Operand.tmp 8)), none⟩,
  ⟨(some 10), (Op.fieldAddr 27 (Operand.tmp 1) 1), (some (9, false))⟩,
  ⟨(some 11), (Op.load 22 (Operand.tmp 10)), (some (9, false))⟩,
  ⟨(some 12), (Op.call { callee := (Callee.builtin Builtin.len), args := #[(Operand.tmp 11)], argTypes := #[22] }), (some (9, false))⟩,
  ⟨(some 13), (Op.call { callee := (Callee.value (Operand.func 45)), args := #[(Operand.tmp 12), (Operand.const (Value.int IntKind.i64 1)), (Operand.const (Value.int IntKind.i64 4))], argTypes := #[3, 3, 3] }), (some (9, false))⟩,
  ⟨(some 14), (Op.unOp UnOp.not 4 (Operand.tmp 13)), (some (9, false))⟩,
  ⟨(some 15), (Op.pick (Operand.tmp 9) (Operand.const (Value.bool true)) (Operand.tmp 14)), none⟩]
attribute [go_sem] r13_1
def k13_1 : PC := (.post (.reg r13_1) ⟨[1, 15], [.old 0], []⟩)
def r13_4 : List PO := [⟨(some 20), (Op.binOp BinOp.lss 3 (Operand.tmp 19) (Operand.tmp 18) 3), none⟩]
attribute [go_sem] r13_4
def r13_5 : List PO := [⟨(some 21), (Op.indexAddr 22 (Operand.tmp 17) (Operand.tmp 19)), none⟩,
  ⟨(some 22), (Op.load 38 (Operand.tmp 21)), none⟩,
  ⟨(some 4), (Op.assign (Operand.tmp 22)), none⟩]
attribute [go_sem] r13_5
def r13_6 : List PO := [⟨(some 23), (Op.move (Operand.tmp 4)), none⟩,
  ⟨(some 24), (Op.fieldAddr 27 (Operand.tmp 1) 0), none⟩,
  ⟨(some 25), (Op.load 3 (Operand.tmp 24)), none⟩,
  ⟨(some 26), (Op.call { callee := (Callee.value (Operand.func 46)), args := #[(Operand.tmp 23), (Operand.tmp 25)], argTypes := #[38, 3] }), none⟩,
  ⟨(some 27), (Op.unOp UnOp.not 4 (Operand.tmp 26)), none⟩]
attribute [go_sem] r13_6
def r13_7 : List PO := [⟨(some 2), (Op.assign (Operand.const (Value.bool false))), none⟩]
attribute [go_sem] r13_7
def r13_8 : List PO := [⟨(some 28), (Op.binOp BinOp.add 3 (Operand.tmp 19) (Operand.const (Value.int IntKind.i64 1)) 3), none⟩,
  ⟨(some 19), (Op.move (Operand.tmp 28)), none⟩]
attribute [go_sem] r13_8
def k13_2b : PC := (.seq (.reg r13_4) (.seq (.cond (Operand.tmp 20) .skip (.pre ⟨[], [], []⟩ (.exit 0))) (.seq (.block 1 (.seq (.reg r13_5) (.seq (.reg r13_6) (.cond (Operand.tmp 27) (.seq (.reg r13_7) (.pre ⟨[2], [], []⟩ .ret)) .skip)))) (.post (.reg r13_8) ⟨[1, 17, 18, 19], [.old 0], []⟩))))
def r13_0 : List PO := [⟨(some 1), (Op.box 27 (Operand.tmp 0)), none⟩,
  ⟨(some 2), (Op.assign (Operand.const (Value.bool false))), none⟩]
attribute [go_sem] r13_0
def r13_2 : List PO := [⟨(some 2), (Op.assign (Operand.const (Value.bool false))), none⟩]
attribute [go_sem] r13_2
def r13_3 : List PO := [⟨(some 16), (Op.fieldAddr 27 (Operand.tmp 1) 1), none⟩,
  ⟨(some 17), (Op.load 22 (Operand.tmp 16)), none⟩,
  ⟨(some 18), (Op.call { callee := (Callee.builtin Builtin.len), args := #[(Operand.tmp 17)], argTypes := #[22] }), none⟩,
  ⟨(some 19), (Op.move (Operand.const (Value.int IntKind.i64 0))), none⟩]
attribute [go_sem] r13_3
def r13_9 : List PO := [⟨(some 2), (Op.assign (Operand.const (Value.bool true))), none⟩]
attribute [go_sem] r13_9
def c13 : PC := (.seq (.reg r13_0) (.seq (.seq (.pre ⟨[1], [.old 0], []⟩ k13_1) (.cond (Operand.tmp 15) (.seq (.reg r13_2) .ret) .skip)) (.seq (.seq (.reg r13_3) (.block 0 (.pre ⟨[1, 17, 18, 19], [.old 0], []⟩ (.loop k13_2b)))) (.seq (.reg r13_9) .ret))))
def i13 : FnI := ⟨29, [(ResultVar.tmp 2)], c13, 0, [[0, 1]], [[0]], false, false, 0, false⟩
-- loop.example/g00344/spec.LexOf
def r21_1 : List PO := [⟨(some 16), (Op.load 27 (Operand.tmp 2)), none⟩,
  ⟨(some 17), (Op.call { callee := (Callee.value (Operand.func 13)), args := #[(Operand.tmp 16)], argTypes := #[27] }), none⟩,
  ⟨(some 18), (Op.unOp UnOp.not 4 (Operand.tmp 17)), none⟩,
  ⟨(some 19), (Op.move (Operand.tmp 18)), none⟩,
  ⟨(some 20), (Op.load 27 (Operand.tmp 3)), (some (19, false))⟩,
  ⟨(some 21), (Op.call { callee := (Callee.value (Operand.func 13)), args := #[(Operand.tmp 20)], argTypes := #[27] }), (some (19, false))⟩,
  ⟨(some 22), (Op.unOp UnOp.not 4 (Operand.tmp 21)), (some (19, false))⟩,
  ⟨(some 23), (Op.pick (Operand.tmp 19) (Operand.const (Value.bool true)) (Operand.tmp 22)), none⟩,
  ⟨(some 24), (Op.move (Operand.tmp 23)), none⟩,
  ⟨(some 25), (Op.fieldAddr 27 (Operand.tmp 2) 1), (some (24, false))⟩,
  ⟨(some 26), (Op.load 22 (Operand.tmp 25)), (some (24, false))⟩,
  ⟨(some 27), (Op.call { callee := (Callee.builtin Builtin.len), args := #[(Operand.tmp 26)], argTypes := #[22] }), (some (24, false))⟩,
  ⟨(some 28), (Op.fieldAddr 27 (Operand.tmp 3) 1), (some (24, false))⟩,
  ⟨(some 29), (Op.load 22 (Operand.tmp 28)), (some (24, false))⟩,
  ⟨(some 30), (Op.call { callee := (Callee.builtin Builtin.len), args := #[(Operand.tmp 29)], argTypes := #[22] }), (some (24, false))⟩,
  ⟨(some 31), (Op.binOp BinOp.neq 3 (Operand.tmp 27) (Operand.tmp 30) 3), (some (24, false))⟩,
  ⟨(some 32), (Op.pick (Operand.tmp 24) (Operand.const (Value.bool true)) (Operand.tmp 31)), none⟩]
attribute [go_sem] r21_1
def k21_1 : PC := (.post (.reg r21_1) ⟨[2, 3, 4, 32], [.old 0, .old 1, .old 2, .old 3], []⟩)
def r21_18 : List PO := [⟨(some 83), (Op.move (Operand.tmp 14)), none⟩,
  ⟨(some 84), (Op.move (Operand.tmp 6)), none⟩,
  ⟨(some 85), (Op.binOp BinOp.eql 3 (Operand.tmp 83) (Operand.tmp 84) 3), none⟩,
  ⟨(some 86), (Op.move (Operand.tmp 85)), none⟩,
  ⟨(some 87), (Op.move (Operand.tmp 15)), (some (86, false))⟩,
  ⟨(some 88), (Op.move (Operand.tmp 7)), (some (86, false))⟩,
  ⟨(some 89), (Op.binOp BinOp.eql 3 (Operand.tmp 87) (Operand.tmp 88) 3), (some (86, false))⟩,
  ⟨(some 90), (Op.pick (Operand.tmp 86) (Operand.const (Value.bool true)) (Operand.tmp 89)), none⟩]
attribute [go_sem] r21_18
def k21_11 : PC := (.post (.reg r21_18) ⟨[3, 4, 6, 7, 8, 10, 11, 12, 13, 14, 15, 52, 53, 54, 90], [.old 0, .old 1, .old 2, .old 3, .old 4, .old 5], []⟩)
def r21_19 : List PO := [⟨(some 91), (Op.move (Operand.tmp 12)), none⟩,
  ⟨(some 92), (Op.move (Operand.tmp 6)), none⟩,
  ⟨(some 93), (Op.move (Operand.tmp 7)), none⟩,
  ⟨(some 94), (Op.binOp BinOp.mul 3 (Operand.tmp 92) (Operand.tmp 93) 3), none⟩,
  ⟨(some 95), (Op.buildSlice 38 1 #[(0, (Operand.tmp 94))]), none⟩,
  ⟨(some 96), (Op.call { callee := (Callee.builtin Builtin.append), args := #[(Operand.tmp 91), (Operand.tmp 95)], argTypes := #[38, 38] }), none⟩,
  ⟨(some 12), (Op.assign (Operand.tmp 96)), none⟩]
attribute [go_sem] r21_19
def r21_20 : List PO := [⟨(some 97), (Op.move (Operand.tmp 12)), none⟩,
  ⟨(some 98), (Op.move (Operand.tmp 14)), none⟩,
  ⟨(some 99), (Op.move (Operand.tmp 7)), none⟩,
  ⟨(some 100), (Op.binOp BinOp.mul 3 (Operand.tmp 98) (Operand.tmp 99) 3), none⟩,
  ⟨(some 101), (Op.move (Operand.tmp 15)), none⟩,
  ⟨(some 102), (Op.binOp BinOp.add 3 (Operand.tmp 100) (Operand.tmp 101) 3), none⟩,
  ⟨(some 103), (Op.buildSlice 38 1 #[(0, (Operand.tmp 102))]), none⟩,
  ⟨(some 104), (Op.call { callee := (Callee.builtin Builtin.append), args := #[(Operand.tmp 97), (Operand.tmp 103)], argTypes := #[38, 38] }), none⟩,
  ⟨(some 12), (Op.assign (Operand.tmp 104)), none⟩]
attribute [go_sem] r21_20
def k21_12 : PC := (.cond (Operand.tmp 90) (.post (.reg r21_19) ⟨[3, 4, 6, 7, 8, 10, 11, 12, 13, 52, 53, 54], [.old 0, .old 1, .old 2, .old 3, .old 4, .old 7], []⟩) (.post (.reg r21_20) ⟨[3, 4, 6, 7, 8, 10, 11, 12, 13, 52, 53, 54], [.old 0, .old 1, .old 2, .old 3, .old 4, .old 7], []⟩))
def r21_14 : List PO := [⟨(some 64), (Op.move (Operand.tmp 13)), none⟩,
  ⟨(some 65), (Op.move (Operand.tmp 6)), none⟩,
  ⟨(some 66), (Op.move (Operand.tmp 7)), none⟩,
  ⟨(some 67), (Op.binOp BinOp.mul 3 (Operand.tmp 65) (Operand.tmp 66) 3), none⟩,
  ⟨(some 68), (Op.binOp BinOp.lss 3 (Operand.tmp 64) (Operand.tmp 67) 3), none⟩]
attribute [go_sem] r21_14
def r21_16 : List PO := [⟨(some 71), (Op.move (Operand.tmp 10)), none⟩,
  ⟨(some 72), (Op.move (Operand.tmp 13)), none⟩,
  ⟨(some 73), (Op.move (Operand.tmp 7)), none⟩,
  ⟨(some 74), (Op.binOp BinOp.quo 3 (Operand.tmp 72) (Operand.tmp 73) 3), none⟩,
  ⟨(some 75), (Op.indexAddr 38 (Operand.tmp 71) (Operand.tmp 74)), none⟩,
  ⟨(some 76), (Op.load 3 (Operand.tmp 75)), none⟩,
  ⟨(some 14), (Op.assign (Operand.tmp 76)), none⟩]
attribute [go_sem] r21_16
def r21_17 : List PO := [⟨(some 77), (Op.move (Operand.tmp 11)), none⟩,
  ⟨(some 78), (Op.move (Operand.tmp 13)), none⟩,
  ⟨(some 79), (Op.move (Operand.tmp 7)), none⟩,
  ⟨(some 80), (Op.binOp BinOp.rem 3 (Operand.tmp 78) (Operand.tmp 79) 3), none⟩,
  ⟨(some 81), (Op.indexAddr 38 (Operand.tmp 77) (Operand.tmp 80)), none⟩,
  ⟨(some 82), (Op.load 3 (Operand.tmp 81)), none⟩,
  ⟨(some 15), (Op.assign (Operand.tmp 82)), none⟩]
attribute [go_sem] r21_17
def r21_15 : List PO := [⟨(some 69), (Op.move (Operand.tmp 13)), none⟩,
  ⟨(some 70), (Op.binOp BinOp.add 3 (Operand.tmp 69) (Operand.const (Value.int IntKind.i64 1)) 3), none⟩,
  ⟨(some 13), (Op.assign (Operand.tmp 70)), none⟩]
attribute [go_sem] r21_15
def k21_8b : PC := (.seq (.seq (.reg r21_14) (.cond (Operand.tmp 68) .skip (.pre ⟨[3, 4, 6, 7, 8, 12, 52, 53, 54], [.old 0, .old 1, .old 2, .old 3, .old 4, .old 5], []⟩ (.exit 2)))) (.seq (.block 3 (.seq (.reg r21_16) (.seq (.reg r21_17) (.seq (.pre ⟨[3, 4, 6, 7, 8, 10, 11, 12, 13, 14, 15, 52, 53, 54], [.old 0, .old 1, .old 2, .old 3, .old 4, .old 5], []⟩ k21_11) (.pre ⟨[3, 4, 6, 7, 8, 10, 11, 12, 13, 14, 15, 52, 53, 54, 90], [.old 0, .old 1, .old 2, .old 3, .old 4, .old 5], []⟩ k21_12))))) (.post (.reg r21_15) ⟨[3, 4, 6, 7, 8, 10, 11, 12, 13, 52, 53, 54], [.old 0, .old 1, .old 2, .old 3, .old 4, .old 5], []⟩)))
def r21_9 : List PO := [⟨(some 55), (Op.binOp BinOp.lss 3 (Operand.tmp 54) (Operand.tmp 53) 3), none⟩]
attribute [go_sem] r21_9
def r21_10 : List PO := [⟨(some 56), (Op.move (Operand.tmp 54)), none⟩,
  ⟨(some 57), (Op.indexAddr 22 (Operand.tmp 52) (Operand.tmp 54)), none⟩,
  ⟨(some 58), (Op.load 38 (Operand.tmp 57)), none⟩,
  ⟨(some 9), (Op.assign (Operand.tmp 56)), none⟩,
  ⟨(some 10), (Op.assign (Operand.tmp 58)), none⟩]
attribute [go_sem] r21_10
def r21_11 : List PO := [⟨(some 59), (Op.fieldAddr 27 (Operand.tmp 3) 1), none⟩,
  ⟨(some 60), (Op.load 22 (Operand.tmp 59)), none⟩,
  ⟨(some 61), (Op.move (Operand.tmp 9)), none⟩,
  ⟨(some 62), (Op.indexAddr 22 (Operand.tmp 60) (Operand.tmp 61)), none⟩,
  ⟨(some 63), (Op.load 38 (Operand.tmp 62)), none⟩,
  ⟨(some 11), (Op.assign (Operand.tmp 63)), none⟩]
attribute [go_sem] r21_11
def r21_12 : List PO := [⟨(some 12), (Op.assign (Operand.const (Value.slice none 0 0))), none⟩]
attribute [go_sem] r21_12
def r21_13 : List PO := [⟨(some 13), (Op.assign (Operand.const (Value.int IntKind.i64 0))), none⟩]
attribute [go_sem] r21_13
def r21_21 : List PO := [⟨(some 105), (Op.fieldAddr 27 (Operand.tmp 8) 1), none⟩,
  ⟨(some 106), (Op.load 22 (Operand.tmp 105)), none⟩,
  ⟨(some 107), (Op.move (Operand.tmp 12)), none⟩,
  ⟨(some 108), (Op.move (Operand.tmp 6)), none⟩,
  ⟨(some 109), (Op.move (Operand.tmp 7)), none⟩,
  ⟨(some 110), (Op.binOp BinOp.mul 3 (Operand.tmp 108) (Operand.tmp 109) 3), none⟩,
  ⟨(some 111), (Op.buildSlice 38 1 #[(0, (Operand.tmp 110))]), none⟩,
  ⟨(some 112), (Op.call { callee := (Callee.builtin Builtin.append), args := #[(Operand.tmp 107), (Operand.tmp 111)], argTypes := #[38, 38] }), none⟩,
  ⟨(some 113), (Op.buildSlice 22 1 #[(0, (Operand.tmp 112))]), none⟩,
  ⟨(some 114), (Op.call { callee := (Callee.builtin Builtin.append), args := #[(Operand.tmp 106), (Operand.tmp 113)], argTypes := #[22, 22] }), none⟩,
  ⟨(some 115), (Op.fieldAddr 27 (Operand.tmp 8) 1), none⟩,
  ⟨none, (Op.store 22 (Operand.tmp 115) (Operand.tmp 114)), none⟩]
attribute [go_sem] r21_21
def x21_21 : FxI := ⟨[6, 7, 8, 9, 11], [none, none, none, none, none, none, none, none, none, none, none, none], 0, [[], [6], [6, 7], [6, 7, 8], [6, 7, 8, 9], [6, 7, 8, 9, 11]], [], [(1, 1, 1), (1, 2, 2), (1, 3, 3)]⟩
attribute [go_sem] x21_21
def r21_22 : List PO := [⟨(some 116), (Op.binOp BinOp.add 3 (Operand.tmp 54) (Operand.const (Value.int IntKind.i64 1)) 3), none⟩,
  ⟨(some 54), (Op.move (Operand.tmp 116)), none⟩]
attribute [go_sem] r21_22
def k21_2b : PC := (.seq (.reg r21_9) (.seq (.cond (Operand.tmp 55) .skip (.pre ⟨[4, 8], [.old 1, .old 2, .old 3, .old 4], []⟩ (.exit 0))) (.seq (.block 1 (.seq (.reg r21_10) (.seq (.reg r21_11) (.seq (.reg r21_12) (.seq (.seq (.reg r21_13) (.block 2 (.pre ⟨[3, 4, 6, 7, 8, 10, 11, 12, 13, 52, 53, 54], [.old 0, .old 1, .old 2, .old 3, .old 4, .nilT 12 0 1], []⟩ (.loop k21_8b)))) (.fx r21_21 x21_21)))))) (.post (.reg r21_22) ⟨[3, 4, 6, 7, 8, 52, 53, 54], [.old 0, .old 1, .old 2, .old 3, .old 9], []⟩))))
def r21_0 : List PO := [⟨(some 2), (Op.box 27 (Operand.tmp 0)), none⟩,
  ⟨(some 3), (Op.box 27 (Operand.tmp 1)), none⟩,
  ⟨(some 4), (Op.alloc 27), none⟩,
  ⟨(some 5), (Op.assign (Operand.const (Value.bool false))), none⟩]
attribute [go_sem] r21_0
def r21_2 : List PO := [⟨(some 33), (Op.build 27 #[]), none⟩,
  ⟨none, (Op.store 27 (Operand.tmp 4) (Operand.tmp 33)), none⟩,
  ⟨(some 5), (Op.assign (Operand.const (Value.bool false))), none⟩]
attribute [go_sem] r21_2
def r21_3 : List PO := [⟨(some 34), (Op.fieldAddr 27 (Operand.tmp 2) 0), none⟩,
  ⟨(some 35), (Op.load 3 (Operand.tmp 34)), none⟩,
  ⟨(some 36), (Op.binOp BinOp.sub 3 (Operand.tmp 35) (Operand.const (Value.int IntKind.i64 1)) 3), none⟩,
  ⟨(some 6), (Op.assign (Operand.tmp 36)), none⟩]
attribute [go_sem] r21_3
def r21_4 : List PO := [⟨(some 37), (Op.fieldAddr 27 (Operand.tmp 3) 0), none⟩,
  ⟨(some 38), (Op.load 3 (Operand.tmp 37)), none⟩,
  ⟨(some 39), (Op.binOp BinOp.sub 3 (Operand.tmp 38) (Operand.const (Value.int IntKind.i64 1)) 3), none⟩,
  ⟨(some 7), (Op.assign (Operand.tmp 39)), none⟩]
attribute [go_sem] r21_4
def r21_5 : List PO := [⟨(some 40), (Op.move (Operand.tmp 6)), none⟩,
  ⟨(some 41), (Op.move (Operand.tmp 7)), none⟩,
  ⟨(some 42), (Op.binOp BinOp.mul 3 (Operand.tmp 40) (Operand.tmp 41) 3), none⟩,
  ⟨(some 43), (Op.binOp BinOp.add 3 (Operand.tmp 42) (Operand.const (Value.int IntKind.i64 1)) 3), none⟩,
  ⟨(some 44), (Op.binOp BinOp.gtr 3 (Operand.tmp 43) (Operand.const (Value.int IntKind.i64 12)) 3), none⟩]
attribute [go_sem] r21_5
def r21_6 : List PO := [⟨(some 45), (Op.build 27 #[]), none⟩,
  ⟨none, (Op.store 27 (Operand.tmp 4) (Operand.tmp 45)), none⟩,
  ⟨(some 5), (Op.assign (Operand.const (Value.bool false))), none⟩]
attribute [go_sem] r21_6
def r21_7 : List PO := [⟨(some 46), (Op.move (Operand.tmp 6)), none⟩,
  ⟨(some 47), (Op.move (Operand.tmp 7)), none⟩,
  ⟨(some 48), (Op.binOp BinOp.mul 3 (Operand.tmp 46) (Operand.tmp 47) 3), none⟩,
  ⟨(some 49), (Op.binOp BinOp.add 3 (Operand.tmp 48) (Operand.const (Value.int IntKind.i64 1)) 3), none⟩,
  ⟨(some 50), (Op.build 27 #[(0, (Operand.tmp 49))]), none⟩,
  ⟨(some 8), (Op.alloc 27), none⟩,
  ⟨none, (Op.store 27 (Operand.tmp 8) (Operand.tmp 50)), none⟩]
attribute [go_sem] r21_7
def r21_8 : List PO := [⟨(some 51), (Op.fieldAddr 27 (Operand.tmp 2) 1), none⟩,
  ⟨(some 52), (Op.load 22 (Operand.tmp 51)), none⟩,
  ⟨(some 53), (Op.call { callee := (Callee.builtin Builtin.len), args := #[(Operand.tmp 52)], argTypes := #[22] }), none⟩,
  ⟨(some 54), (Op.move (Operand.const (Value.int IntKind.i64 0))), none⟩]
attribute [go_sem] r21_8
def r21_23 : List PO := [⟨(some 117), (Op.load 27 (Operand.tmp 8)), none⟩,
  ⟨none, (Op.store 27 (Operand.tmp 4) (Operand.tmp 117)), none⟩,
  ⟨(some 5), (Op.assign (Operand.const (Value.bool true))), none⟩]
attribute [go_sem] r21_23
def c21 : PC := (.seq (.reg r21_0) (.seq (.seq (.pre ⟨[2, 3, 4], [.old 0, .old 1, .old 2, .nilB 2 1 1], []⟩ k21_1) (.cond (Operand.tmp 32) (.seq (.reg r21_2) .ret) .skip)) (.seq (.reg r21_3) (.seq (.reg r21_4) (.seq (.seq (.reg r21_5) (.cond (Operand.tmp 44) (.seq (.reg r21_6) .ret) .skip)) (.seq (.reg r21_7) (.seq (.seq (.reg r21_8) (.block 0 (.pre ⟨[3, 4, 6, 7, 8, 52, 53, 54], [.old 1, .old 2, .old 3, .old 4, .nilB 4 1 1], []⟩ (.loop k21_2b)))) (.seq (.reg r21_23) .ret))))))))
def i21 : FnI := ⟨118, [(ResultVar.cell 4 27), (ResultVar.tmp 5)], c21, 0, [[0, 1], [0, 1]], [[0, 1], [0]], false, false, 0, false⟩
-- loop.example/g00344/impl.within
def r48_1 : List PO := [⟨(some 7), (Op.move (Operand.tmp 0)), none⟩,
  ⟨(some 8), (Op.move (Operand.tmp 1)), none⟩,
  ⟨(some 9), (Op.binOp BinOp.geq 3 (Operand.tmp 7) (Operand.tmp 8) 3), none⟩,
  ⟨(some 10), (Op.move (Operand.tmp 9)), none⟩,
  ⟨(some 11), (Op.move (Operand.tmp 0)), (some (10, true))⟩,
  ⟨(some 12), (Op.move (Operand.tmp 2)), (some (10, true))⟩,
  ⟨(some 13), (Op.binOp BinOp.leq 3 (Operand.tmp 11) (Operand.tmp 12) 3), (some (10, true))⟩,
  ⟨(some 14), (Op.pick (Operand.tmp 10) (Operand.tmp 13) (Operand.const (Value.bool false))), none⟩,
  ⟨(some 6), (Op.assign (Operand.tmp 14)), none⟩]
attribute [go_sem] r48_1
def k48_1 : PC := (.post (.reg r48_1) ⟨[6], [], []⟩)
def r48_0 : List PO := [⟨(some 6), (Op.assign (Operand.const (Value.bool false))), none⟩]
attribute [go_sem] r48_0
def c48 : PC := (.seq (.reg r48_0) (.seq (.pre ⟨[0, 1, 2], [], []⟩ k48_1) .ret))
def i48 : FnI := ⟨15, [(ResultVar.tmp 6)], c48, 0, [[0], [0], [0]], [[0]], false, false, 0, false⟩
-- slices.IndexFunc[[][]int,[]int]
def r77_2 : List PO := [⟨(some 9), (Op.binOp BinOp.lss 3 (Operand.tmp 8) (Operand.tmp 7) 3), none⟩]
attribute [go_sem] r77_2
def r77_3 : List PO := [⟨(some 10), (Op.move (Operand.tmp 8)), none⟩,
  ⟨(some 5), (Op.assign (Operand.tmp 10)), none⟩]
attribute [go_sem] r77_3
def r77_4 : List PO := [⟨(some 11), (Op.move (Operand.tmp 1)), none⟩,
  ⟨(some 12), (Op.move (Operand.tmp 0)), none⟩,
  ⟨(some 13), (Op.move (Operand.tmp 5)), none⟩,
  ⟨(some 14), (Op.indexAddr 22 (Operand.tmp 12) (Operand.tmp 13)), none⟩,
  ⟨(some 15), (Op.load 38 (Operand.tmp 14)), none⟩,
  ⟨(some 16), (Op.call { callee := (Callee.value (Operand.tmp 11)), args := #[(Operand.tmp 15)], argTypes := #[38] }), none⟩]
attribute [go_sem] r77_4
def r77_5 : List PO := [⟨(some 17), (Op.move (Operand.tmp 5)), none⟩,
  ⟨(some 4), (Op.assign (Operand.tmp 17)), none⟩]
attribute [go_sem] r77_5
def r77_6 : List PO := [⟨(some 18), (Op.binOp BinOp.add 3 (Operand.tmp 8) (Operand.const (Value.int IntKind.i64 1)) 3), none⟩,
  ⟨(some 8), (Op.move (Operand.tmp 18)), none⟩]
attribute [go_sem] r77_6
def k77_1b : PC := (.seq (.reg r77_2) (.seq (.cond (Operand.tmp 9) .skip (.pre ⟨[], [], []⟩ (.exit 0))) (.seq (.block 1 (.seq (.reg r77_3) (.seq (.reg r77_4) (.cond (Operand.tmp 16) (.seq (.reg r77_5) (.pre ⟨[4], [], []⟩ .ret)) .skip)))) (.post (.reg r77_6) ⟨[0, 1, 7, 8], [], []⟩))))
def r77_0 : List PO := [⟨(some 4), (Op.assign (Operand.const (Value.int IntKind.i64 0))), none⟩]
attribute [go_sem] r77_0
def r77_1 : List PO := [⟨(some 6), (Op.move (Operand.tmp 0)), none⟩,
  ⟨(some 7), (Op.call { callee := (Callee.builtin Builtin.len), args := #[(Operand.tmp 6)], argTypes := #[22] }), none⟩,
  ⟨(some 8), (Op.move (Operand.const (Value.int IntKind.i64 0))), none⟩]
attribute [go_sem] r77_1
def r77_7 : List PO := [⟨(some 4), (Op.assign (Operand.const (Value.int IntKind.i64 (-1)))), none⟩]
attribute [go_sem] r77_7
def c77 : PC := (.seq (.reg r77_0) (.seq (.seq (.reg r77_1) (.block 0 (.pre ⟨[0, 1, 7, 8], [], []⟩ (.loop k77_1b)))) (.seq (.reg r77_7) .ret)))
def i77 : FnI := ⟨19, [(ResultVar.tmp 4)], c77, 0, [[1], [0]], [[0]], false, false, 0, false⟩
-- slices.ContainsFunc[[][]int,[]int]
def r49_0 : List PO := [⟨(some 4), (Op.assign (Operand.const (Value.bool false))), none⟩]
attribute [go_sem] r49_0
def r49_1 : List PO := [⟨(some 5), (Op.move (Operand.tmp 0)), none⟩,
  ⟨(some 6), (Op.move (Operand.tmp 1)), none⟩,
  ⟨(some 7), (Op.call { callee := (Callee.value (Operand.func 77)), args := #[(Operand.tmp 5), (Operand.tmp 6)], argTypes := #[22, 70] }), none⟩,
  ⟨(some 8), (Op.binOp BinOp.geq 3 (Operand.tmp 7) (Operand.const (Value.int IntKind.i64 0)) 3), none⟩,
  ⟨(some 4), (Op.assign (Operand.tmp 8)), none⟩]
attribute [go_sem] r49_1
def c49 : PC := (.seq (.reg r49_0) (.seq (.reg r49_1) .ret))
def i49 : FnI := ⟨9, [(ResultVar.tmp 4)], c49, 0, [[1], [0]], [[0]], false, false, 0, false⟩
-- (loop.example/g00344/impl.Algebra).worst
def r51_0 : List PO := [⟨(some 1), (Op.box 27 (Operand.tmp 0)), none⟩,
  ⟨(some 2), (Op.assign (Operand.const (Value.int IntKind.i64 0))), none⟩]
attribute [go_sem] r51_0
def r51_1 : List PO := [⟨(some 3), (Op.fieldAddr 27 (Operand.tmp 1) 0), none⟩,
  ⟨(some 4), (Op.load 3 (Operand.tmp 3)), none⟩,
  ⟨(some 5), (Op.binOp BinOp.sub 3 (Operand.tmp 4) (Operand.const (Value.int IntKind.i64 1)) 3), none⟩,
  ⟨(some 2), (Op.assign (Operand.tmp 5)), none⟩]
attribute [go_sem] r51_1
def c51 : PC := (.seq (.reg r51_0) (.seq (.reg r51_1) .ret))
def i51 : FnI := ⟨6, [(ResultVar.tmp 2)], c51, 0, [[0, 1]], [[0]], false, false, 0, false⟩
-- slices.IndexFunc[[]int,int]
def r78_2 : List PO := [⟨(some 9), (Op.binOp BinOp.lss 3 (Operand.tmp 8) (Operand.tmp 7) 3), none⟩]
attribute [go_sem] r78_2
def r78_3 : List PO := [⟨(some 10), (Op.move (Operand.tmp 8)), none⟩,
  ⟨(some 5), (Op.assign (Operand.tmp 10)), none⟩]
attribute [go_sem] r78_3
def r78_4 : List PO := [⟨(some 11), (Op.move (Operand.tmp 1)), none⟩,
  ⟨(some 12), (Op.move (Operand.tmp 0)), none⟩,
  ⟨(some 13), (Op.move (Operand.tmp 5)), none⟩,
  ⟨(some 14), (Op.indexAddr 38 (Operand.tmp 12) (Operand.tmp 13)), none⟩,
  ⟨(some 15), (Op.load 3 (Operand.tmp 14)), none⟩,
  ⟨(some 16), (Op.call { callee := (Callee.value (Operand.tmp 11)), args := #[(Operand.tmp 15)], argTypes := #[3] }), none⟩]
attribute [go_sem] r78_4
def r78_5 : List PO := [⟨(some 17), (Op.move (Operand.tmp 5)), none⟩,
  ⟨(some 4), (Op.assign (Operand.tmp 17)), none⟩]
attribute [go_sem] r78_5
def r78_6 : List PO := [⟨(some 18), (Op.binOp BinOp.add 3 (Operand.tmp 8) (Operand.const (Value.int IntKind.i64 1)) 3), none⟩,
  ⟨(some 8), (Op.move (Operand.tmp 18)), none⟩]
attribute [go_sem] r78_6
def k78_1b : PC := (.seq (.reg r78_2) (.seq (.cond (Operand.tmp 9) .skip (.pre ⟨[], [], []⟩ (.exit 0))) (.seq (.block 1 (.seq (.reg r78_3) (.seq (.reg r78_4) (.cond (Operand.tmp 16) (.seq (.reg r78_5) (.pre ⟨[4], [], []⟩ .ret)) .skip)))) (.post (.reg r78_6) ⟨[0, 1, 7, 8], [], []⟩))))
def r78_0 : List PO := [⟨(some 4), (Op.assign (Operand.const (Value.int IntKind.i64 0))), none⟩]
attribute [go_sem] r78_0
def r78_1 : List PO := [⟨(some 6), (Op.move (Operand.tmp 0)), none⟩,
  ⟨(some 7), (Op.call { callee := (Callee.builtin Builtin.len), args := #[(Operand.tmp 6)], argTypes := #[38] }), none⟩,
  ⟨(some 8), (Op.move (Operand.const (Value.int IntKind.i64 0))), none⟩]
attribute [go_sem] r78_1
def r78_7 : List PO := [⟨(some 4), (Op.assign (Operand.const (Value.int IntKind.i64 (-1)))), none⟩]
attribute [go_sem] r78_7
def c78 : PC := (.seq (.reg r78_0) (.seq (.seq (.reg r78_1) (.block 0 (.pre ⟨[0, 1, 7, 8], [], []⟩ (.loop k78_1b)))) (.seq (.reg r78_7) .ret)))
def i78 : FnI := ⟨19, [(ResultVar.tmp 4)], c78, 0, [[1], [0]], [[0]], false, false, 0, false⟩
-- slices.ContainsFunc[[]int,int]
def r52_0 : List PO := [⟨(some 4), (Op.assign (Operand.const (Value.bool false))), none⟩]
attribute [go_sem] r52_0
def r52_1 : List PO := [⟨(some 5), (Op.move (Operand.tmp 0)), none⟩,
  ⟨(some 6), (Op.move (Operand.tmp 1)), none⟩,
  ⟨(some 7), (Op.call { callee := (Callee.value (Operand.func 78)), args := #[(Operand.tmp 5), (Operand.tmp 6)], argTypes := #[38, 69] }), none⟩,
  ⟨(some 8), (Op.binOp BinOp.geq 3 (Operand.tmp 7) (Operand.const (Value.int IntKind.i64 0)) 3), none⟩,
  ⟨(some 4), (Op.assign (Operand.tmp 8)), none⟩]
attribute [go_sem] r52_1
def c52 : PC := (.seq (.reg r52_0) (.seq (.reg r52_1) .ret))
def i52 : FnI := ⟨9, [(ResultVar.tmp 4)], c52, 0, [[1], [0]], [[0]], false, false, 0, false⟩
-- loop.example/g00344/impl.GoodAlgebra$1$1
def r53_0 : List PO := [⟨(some 3), (Op.assign (Operand.const (Value.bool false))), none⟩]
attribute [go_sem] r53_0
def r53_1 : List PO := [⟨(some 4), (Op.move (Operand.tmp 0)), none⟩,
  ⟨(some 5), (Op.load 27 (Operand.tmp 1)), none⟩,
  ⟨(some 6), (Op.call { callee := (Callee.value (Operand.func 51)), args := #[(Operand.tmp 5)], argTypes := #[27] }), none⟩,
  ⟨(some 7), (Op.call { callee := (Callee.value (Operand.func 48)), args := #[(Operand.tmp 4), (Operand.const (Value.int IntKind.i64 0)), (Operand.tmp 6)], argTypes := #[3, 3, 3] }), none⟩,
  ⟨(some 8), (Op.unOp UnOp.not 4 (Operand.tmp 7)), none⟩,
  ⟨(some 3), (Op.assign (Operand.tmp 8)), none⟩]
attribute [go_sem] r53_1
def c53 : PC := (.seq (.reg r53_0) (.seq (.reg r53_1) .ret))
def i53 : FnI := ⟨9, [(ResultVar.tmp 3)], c53, 0, [[0], [0]], [[0]], false, false, 0, false⟩
-- loop.example/g00344/impl.GoodAlgebra$1
def r50_1 : List PO := [⟨(some 4), (Op.move (Operand.tmp 0)), none⟩,
  ⟨(some 5), (Op.call { callee := (Callee.builtin Builtin.len), args := #[(Operand.tmp 4)], argTypes := #[38] }), none⟩,
  ⟨(some 6), (Op.fieldAddr 27 (Operand.tmp 1) 0), none⟩,
  ⟨(some 7), (Op.load 3 (Operand.tmp 6)), none⟩,
  ⟨(some 8), (Op.binOp BinOp.neq 3 (Operand.tmp 5) (Operand.tmp 7) 3), none⟩,
  ⟨(some 9), (Op.move (Operand.tmp 8)), none⟩,
  ⟨(some 10), (Op.move (Operand.tmp 0)), (some (9, false))⟩,
  ⟨(some 11), (Op.load 27 (Operand.tmp 1)), (some (9, false))⟩,
  ⟨(some 12), (Op.call { callee := (Callee.value (Operand.func 51)), args := #[(Operand.tmp 11)], argTypes := #[27] }), (some (9, false))⟩,
  ⟨(some 13), (Op.indexAddr 38 (Operand.tmp 10) (Operand.tmp 12)), (some (9, false))⟩,
  ⟨(some 14), (Op.load 3 (Operand.tmp 13)), (some (9, false))⟩,
  ⟨(some 15), (Op.load 27 (Operand.tmp 1)), (some (9, false))⟩,
  ⟨(some 16), (Op.call { callee := (Callee.value (Operand.func 51)), args := #[(Operand.tmp 15)], argTypes := #[27] }), (some (9, false))⟩,
  ⟨(some 17), (Op.binOp BinOp.neq 3 (Operand.tmp 14) (Operand.tmp 16) 3), (some (9, false))⟩,
  ⟨(some 18), (Op.pick (Operand.tmp 9) (Operand.const (Value.bool true)) (Operand.tmp 17)), none⟩,
  ⟨(some 19), (Op.move (Operand.tmp 18)), none⟩,
  ⟨(some 20), (Op.move (Operand.tmp 0)), (some (19, false))⟩,
  ⟨(some 21), (Op.makeFunc (Fn.func 53) #[] #[(Operand.tmp 1)]), (some (19, false))⟩,
  ⟨(some 22), (Op.call { callee := (Callee.value (Operand.func 52)), args := #[(Operand.tmp 20), (Operand.tmp 21)], argTypes := #[38, 69] }), (some (19, false))⟩,
  ⟨(some 23), (Op.pick (Operand.tmp 19) (Operand.const (Value.bool true)) (Operand.tmp 22)), none⟩,
  ⟨(some 3), (Op.assign (Operand.tmp 23)), none⟩]
attribute [go_sem] r50_1
def k50_1 : PC := (.post (.fz r50_1) ⟨[3], [], []⟩)
def r50_0 : List PO := [⟨(some 3), (Op.assign (Operand.const (Value.bool false))), none⟩]
attribute [go_sem] r50_0
def c50 : PC := (.seq (.reg r50_0) (.seq (.pre ⟨[0, 1], [], []⟩ k50_1) .ret))
def i50 : FnI := ⟨24, [(ResultVar.tmp 3)], c50, 0, [[1], [0]], [[0]], false, false, 0, false⟩
-- loop.example/g00344/impl.GoodAlgebra
def r15_1 : List PO := [⟨(some 3), (Op.fieldAddr 27 (Operand.tmp 1) 0), none⟩,
  ⟨(some 4), (Op.load 3 (Operand.tmp 3)), none⟩,
  ⟨(some 5), (Op.call { callee := (Callee.value (Operand.func 48)), args := #[(Operand.tmp 4), (Operand.const (Value.int IntKind.i64 2)), (Operand.const (Value.int IntKind.i64 12))], argTypes := #[3, 3, 3] }), none⟩,
  ⟨(some 6), (Op.unOp UnOp.not 4 (Operand.tmp 5)), none⟩,
  ⟨(some 7), (Op.move (Operand.tmp 6)), none⟩,
  ⟨(some 8), (Op.fieldAddr 27 (Operand.tmp 1) 1), (some (7, false))⟩,
  ⟨(some 9), (Op.load 22 (Operand.tmp 8)), (some (7, false))⟩,
  ⟨(some 10), (Op.call { callee := (Callee.builtin Builtin.len), args := #[(Operand.tmp 9)], argTypes := #[22] }), (some (7, false))⟩,
  ⟨(some 11), (Op.call { callee := (Callee.value (Operand.func 48)), args := #[(Operand.tmp 10), (Operand.const (Value.int IntKind.i64 1)), (Operand.const (Value.int IntKind.i64 4))], argTypes := #[3, 3, 3] }), (some (7, false))⟩,
  ⟨(some 12), (Op.unOp UnOp.not 4 (Operand.tmp 11)), (some (7, false))⟩,
  ⟨(some 13), (Op.pick (Operand.tmp 7) (Operand.const (Value.bool true)) (Operand.tmp 12)), none⟩]
attribute [go_sem] r15_1
def k15_1 : PC := (.post (.reg r15_1) ⟨[1, 13], [.old 0], []⟩)
def r15_0 : List PO := [⟨(some 1), (Op.box 27 (Operand.tmp 0)), none⟩,
  ⟨(some 2), (Op.assign (Operand.const (Value.bool false))), none⟩]
attribute [go_sem] r15_0
def r15_2 : List PO := [⟨(some 2), (Op.assign (Operand.const (Value.bool false))), none⟩]
attribute [go_sem] r15_2
def r15_3 : List PO := [⟨(some 14), (Op.fieldAddr 27 (Operand.tmp 1) 1), none⟩,
  ⟨(some 15), (Op.load 22 (Operand.tmp 14)), none⟩,
  ⟨(some 16), (Op.makeFunc (Fn.func 50) #[] #[(Operand.tmp 1)]), none⟩,
  ⟨(some 17), (Op.call { callee := (Callee.value (Operand.func 49)), args := #[(Operand.tmp 15), (Operand.tmp 16)], argTypes := #[22, 70] }), none⟩,
  ⟨(some 18), (Op.unOp UnOp.not 4 (Operand.tmp 17)), none⟩,
  ⟨(some 2), (Op.assign (Operand.tmp 18)), none⟩]
attribute [go_sem] r15_3
def c15 : PC := (.seq (.reg r15_0) (.seq (.seq (.pre ⟨[1], [.old 0], []⟩ k15_1) (.cond (Operand.tmp 13) (.seq (.reg r15_2) .ret) .skip)) (.seq (.reg r15_3) .ret)))
def i15 : FnI := ⟨19, [(ResultVar.tmp 2)], c15, 0, [[0, 1]], [[0]], false, false, 0, false⟩
-- loop.example/g00344/impl.LexOf
def r22_1 : List PO := [⟨(some 14), (Op.load 27 (Operand.tmp 2)), none⟩,
  ⟨(some 15), (Op.call { callee := (Callee.value (Operand.func 15)), args := #[(Operand.tmp 14)], argTypes := #[27] }), none⟩,
  ⟨(some 16), (Op.unOp UnOp.not 4 (Operand.tmp 15)), none⟩,
  ⟨(some 17), (Op.move (Operand.tmp 16)), none⟩,
  ⟨(some 18), (Op.load 27 (Operand.tmp 3)), (some (17, false))⟩,
  ⟨(some 19), (Op.call { callee := (Callee.value (Operand.func 15)), args := #[(Operand.tmp 18)], argTypes := #[27] }), (some (17, false))⟩,
  ⟨(some 20), (Op.unOp UnOp.not 4 (Operand.tmp 19)), (some (17, false))⟩,
  ⟨(some 21), (Op.pick (Operand.tmp 17) (Operand.const (Value.bool true)) (Operand.tmp 20)), none⟩,
  ⟨(some 22), (Op.move (Operand.tmp 21)), none⟩,
  ⟨(some 23), (Op.fieldAddr 27 (Operand.tmp 2) 1), (some (22, false))⟩,
  ⟨(some 24), (Op.load 22 (Operand.tmp 23)), (some (22, false))⟩,
  ⟨(some 25), (Op.call { callee := (Callee.builtin Builtin.len), args := #[(Operand.tmp 24)], argTypes := #[22] }), (some (22, false))⟩,
  ⟨(some 26), (Op.fieldAddr 27 (Operand.tmp 3) 1), (some (22, false))⟩,
  ⟨(some 27), (Op.load 22 (Operand.tmp 26)), (some (22, false))⟩,
  ⟨(some 28), (Op.call { callee := (Callee.builtin Builtin.len), args := #[(Operand.tmp 27)], argTypes := #[22] }), (some (22, false))⟩,
  ⟨(some 29), (Op.binOp BinOp.neq 3 (Operand.tmp 25) (Operand.tmp 28) 3), (some (22, false))⟩,
  ⟨(some 30), (Op.pick (Operand.tmp 22) (Operand.const (Value.bool true)) (Operand.tmp 29)), none⟩]
attribute [go_sem] r22_1
def k22_1 : PC := (.post (.reg r22_1) ⟨[2, 3, 4, 30], [.old 0, .old 1, .old 2, .old 3], []⟩)
def r22_17 : List PO := [⟨(some 74), (Op.move (Operand.tmp 12)), none⟩,
  ⟨(some 75), (Op.load 27 (Operand.tmp 2)), none⟩,
  ⟨(some 76), (Op.call { callee := (Callee.value (Operand.func 51)), args := #[(Operand.tmp 75)], argTypes := #[27] }), none⟩,
  ⟨(some 77), (Op.binOp BinOp.eql 3 (Operand.tmp 74) (Operand.tmp 76) 3), none⟩,
  ⟨(some 78), (Op.move (Operand.tmp 77)), none⟩,
  ⟨(some 79), (Op.move (Operand.tmp 13)), (some (78, false))⟩,
  ⟨(some 80), (Op.load 27 (Operand.tmp 3)), (some (78, false))⟩,
  ⟨(some 81), (Op.call { callee := (Callee.value (Operand.func 51)), args := #[(Operand.tmp 80)], argTypes := #[27] }), (some (78, false))⟩,
  ⟨(some 82), (Op.binOp BinOp.eql 3 (Operand.tmp 79) (Operand.tmp 81) 3), (some (78, false))⟩,
  ⟨(some 83), (Op.pick (Operand.tmp 78) (Operand.const (Value.bool true)) (Operand.tmp 82)), none⟩]
attribute [go_sem] r22_17
def k22_23 : PC := (.post (.reg r22_17) ⟨[2, 3, 4, 6, 7, 8, 9, 10, 12, 13, 44, 45, 46, 53, 54, 58, 59, 83], [.old 0, .old 1, .old 2, .old 3, .old 4, .old 5, .old 6], []⟩)
def r22_18 : List PO := [⟨(some 84), (Op.move (Operand.tmp 9)), none⟩,
  ⟨(some 85), (Op.load 27 (Operand.tmp 6)), none⟩,
  ⟨(some 86), (Op.call { callee := (Callee.value (Operand.func 51)), args := #[(Operand.tmp 85)], argTypes := #[27] }), none⟩,
  ⟨(some 87), (Op.buildSlice 38 1 #[(0, (Operand.tmp 86))]), none⟩,
  ⟨(some 88), (Op.call { callee := (Callee.builtin Builtin.append), args := #[(Operand.tmp 84), (Operand.tmp 87)], argTypes := #[38, 38] }), none⟩,
  ⟨(some 9), (Op.assign (Operand.tmp 88)), none⟩]
attribute [go_sem] r22_18
def r22_19 : List PO := [⟨(some 89), (Op.move (Operand.tmp 9)), none⟩,
  ⟨(some 90), (Op.move (Operand.tmp 12)), none⟩,
  ⟨(some 91), (Op.load 27 (Operand.tmp 3)), none⟩,
  ⟨(some 92), (Op.call { callee := (Callee.value (Operand.func 51)), args := #[(Operand.tmp 91)], argTypes := #[27] }), none⟩,
  ⟨(some 93), (Op.binOp BinOp.mul 3 (Operand.tmp 90) (Operand.tmp 92) 3), none⟩,
  ⟨(some 94), (Op.move (Operand.tmp 13)), none⟩,
  ⟨(some 95), (Op.binOp BinOp.add 3 (Operand.tmp 93) (Operand.tmp 94) 3), none⟩,
  ⟨(some 96), (Op.buildSlice 38 1 #[(0, (Operand.tmp 95))]), none⟩,
  ⟨(some 97), (Op.call { callee := (Callee.builtin Builtin.append), args := #[(Operand.tmp 89), (Operand.tmp 96)], argTypes := #[38, 38] }), none⟩,
  ⟨(some 9), (Op.assign (Operand.tmp 97)), none⟩]
attribute [go_sem] r22_19
def k22_24 : PC := (.cond (Operand.tmp 83) (.post (.reg r22_18) ⟨[2, 3, 4, 6, 7, 8, 9, 10, 44, 45, 46, 53, 54, 58, 59], [.old 0, .old 1, .old 2, .old 3, .old 4, .old 5, .old 8], []⟩) (.post (.reg r22_19) ⟨[2, 3, 4, 6, 7, 8, 9, 10, 44, 45, 46, 53, 54, 58, 59], [.old 0, .old 1, .old 2, .old 3, .old 4, .old 5, .old 8], []⟩))
def r22_14 : List PO := [⟨(some 60), (Op.binOp BinOp.lss 3 (Operand.tmp 59) (Operand.tmp 58) 3), none⟩]
attribute [go_sem] r22_14
def r22_15 : List PO := [⟨(some 61), (Op.move (Operand.tmp 59)), none⟩,
  ⟨(some 11), (Op.assign (Operand.tmp 61)), none⟩]
attribute [go_sem] r22_15
def r22_16 : List PO := [⟨(some 62), (Op.move (Operand.tmp 8)), none⟩,
  ⟨(some 63), (Op.move (Operand.tmp 10)), none⟩,
  ⟨(some 64), (Op.indexAddr 38 (Operand.tmp 62) (Operand.tmp 63)), none⟩,
  ⟨(some 65), (Op.load 3 (Operand.tmp 64)), none⟩,
  ⟨(some 66), (Op.fieldAddr 27 (Operand.tmp 3) 1), none⟩,
  ⟨(some 67), (Op.load 22 (Operand.tmp 66)), none⟩,
  ⟨(some 68), (Op.move (Operand.tmp 7)), none⟩,
  ⟨(some 69), (Op.indexAddr 22 (Operand.tmp 67) (Operand.tmp 68)), none⟩,
  ⟨(some 70), (Op.load 38 (Operand.tmp 69)), none⟩,
  ⟨(some 71), (Op.move (Operand.tmp 11)), none⟩,
  ⟨(some 72), (Op.indexAddr 38 (Operand.tmp 70) (Operand.tmp 71)), none⟩,
  ⟨(some 73), (Op.load 3 (Operand.tmp 72)), none⟩,
  ⟨(some 12), (Op.assign (Operand.tmp 65)), none⟩,
  ⟨(some 13), (Op.assign (Operand.tmp 73)), none⟩]
attribute [go_sem] r22_16
def r22_20 : List PO := [⟨(some 98), (Op.binOp BinOp.add 3 (Operand.tmp 59) (Operand.const (Value.int IntKind.i64 1)) 3), none⟩,
  ⟨(some 59), (Op.move (Operand.tmp 98)), none⟩]
attribute [go_sem] r22_20
def k22_20b : PC := (.seq (.reg r22_14) (.seq (.cond (Operand.tmp 60) .skip (.pre ⟨[2, 3, 4, 6, 7, 8, 9, 44, 45, 46, 53, 54], [.old 0, .old 1, .old 2, .old 3, .old 4, .old 5, .old 6], []⟩ (.exit 4))) (.seq (.block 5 (.seq (.reg r22_15) (.seq (.fz r22_16) (.seq (.pre ⟨[2, 3, 4, 6, 7, 8, 9, 10, 12, 13, 44, 45, 46, 53, 54, 58, 59], [.old 0, .old 1, .old 2, .old 3, .old 4, .old 5, .old 6], []⟩ k22_23) (.pre ⟨[2, 3, 4, 6, 7, 8, 9, 10, 12, 13, 44, 45, 46, 53, 54, 58, 59, 83], [.old 0, .old 1, .old 2, .old 3, .old 4, .old 5, .old 6], []⟩ k22_24))))) (.post (.reg r22_20) ⟨[2, 3, 4, 6, 7, 8, 9, 10, 44, 45, 46, 53, 54, 58, 59], [.old 0, .old 1, .old 2, .old 3, .old 4, .old 5, .old 6], []⟩))))
def r22_11 : List PO := [⟨(some 55), (Op.binOp BinOp.lss 3 (Operand.tmp 54) (Operand.tmp 53) 3), none⟩]
attribute [go_sem] r22_11
def r22_12 : List PO := [⟨(some 56), (Op.move (Operand.tmp 54)), none⟩,
  ⟨(some 10), (Op.assign (Operand.tmp 56)), none⟩]
attribute [go_sem] r22_12
def r22_13 : List PO := [⟨(some 57), (Op.load 27 (Operand.tmp 3)), none⟩,
  ⟨(some 58), (Op.call { callee := (Callee.value (Operand.func 51)), args := #[(Operand.tmp 57)], argTypes := #[27] }), none⟩,
  ⟨(some 59), (Op.move (Operand.const (Value.int IntKind.i64 0))), none⟩]
attribute [go_sem] r22_13
def r22_21 : List PO := [⟨(some 99), (Op.binOp BinOp.add 3 (Operand.tmp 54) (Operand.const (Value.int IntKind.i64 1)) 3), none⟩,
  ⟨(some 54), (Op.move (Operand.tmp 99)), none⟩]
attribute [go_sem] r22_21
def k22_14b : PC := (.seq (.reg r22_11) (.seq (.cond (Operand.tmp 55) .skip (.pre ⟨[2, 3, 4, 6, 9, 44, 45, 46], [.old 0, .old 1, .old 2, .old 3, .old 4, .old 5, .old 6], []⟩ (.exit 2))) (.seq (.block 3 (.seq (.reg r22_12) (.seq (.reg r22_13) (.block 4 (.pre ⟨[2, 3, 4, 6, 7, 8, 9, 10, 44, 45, 46, 53, 54, 58, 59], [.old 0, .old 1, .old 2, .old 3, .old 4, .old 5, .old 6], []⟩ (.loop k22_20b)))))) (.post (.reg r22_21) ⟨[2, 3, 4, 6, 7, 8, 9, 44, 45, 46, 53, 54], [.old 0, .old 1, .old 2, .old 3, .old 4, .old 5, .old 6], []⟩))))
def r22_7 : List PO := [⟨(some 47), (Op.binOp BinOp.lss 3 (Operand.tmp 46) (Operand.tmp 45) 3), none⟩]
attribute [go_sem] r22_7
def r22_8 : List PO := [⟨(some 48), (Op.move (Operand.tmp 46)), none⟩,
  ⟨(some 49), (Op.indexAddr 22 (Operand.tmp 44) (Operand.tmp 46)), none⟩,
  ⟨(some 50), (Op.load 38 (Operand.tmp 49)), none⟩,
  ⟨(some 7), (Op.assign (Operand.tmp 48)), none⟩,
  ⟨(some 8), (Op.assign (Operand.tmp 50)), none⟩]
attribute [go_sem] r22_8
def r22_9 : List PO := [⟨(some 51), (Op.buildSlice 38 0 #[]), none⟩,
  ⟨(some 9), (Op.assign (Operand.tmp 51)), none⟩]
attribute [go_sem] r22_9
def r22_10 : List PO := [⟨(some 52), (Op.load 27 (Operand.tmp 2)), none⟩,
  ⟨(some 53), (Op.call { callee := (Callee.value (Operand.func 51)), args := #[(Operand.tmp 52)], argTypes := #[27] }), none⟩,
  ⟨(some 54), (Op.move (Operand.const (Value.int IntKind.i64 0))), none⟩]
attribute [go_sem] r22_10
def r22_22 : List PO := [⟨(some 100), (Op.fieldAddr 27 (Operand.tmp 6) 1), none⟩,
  ⟨(some 101), (Op.load 22 (Operand.tmp 100)), none⟩,
  ⟨(some 102), (Op.move (Operand.tmp 9)), none⟩,
  ⟨(some 103), (Op.load 27 (Operand.tmp 6)), none⟩,
  ⟨(some 104), (Op.call { callee := (Callee.value (Operand.func 51)), args := #[(Operand.tmp 103)], argTypes := #[27] }), none⟩,
  ⟨(some 105), (Op.buildSlice 38 1 #[(0, (Operand.tmp 104))]), none⟩,
  ⟨(some 106), (Op.call { callee := (Callee.builtin Builtin.append), args := #[(Operand.tmp 102), (Operand.tmp 105)], argTypes := #[38, 38] }), none⟩,
  ⟨(some 107), (Op.buildSlice 22 1 #[(0, (Operand.tmp 106))]), none⟩,
  ⟨(some 108), (Op.call { callee := (Callee.builtin Builtin.append), args := #[(Operand.tmp 101), (Operand.tmp 107)], argTypes := #[22, 22] }), none⟩,
  ⟨(some 109), (Op.fieldAddr 27 (Operand.tmp 6) 1), none⟩,
  ⟨none, (Op.store 22 (Operand.tmp 109) (Operand.tmp 108)), none⟩]
attribute [go_sem] r22_22
def x22_22 : FxI := ⟨[4, 5, 6, 7, 8, 10], [none, none, none, none, none, none, none, none, none, none, none], 0, [[], [4], [4, 5], [4, 5, 6], [4, 5, 6, 7], [4, 5, 6, 7, 8], [4, 5, 6, 7, 8, 10]], [], [(1, 1, 1), (1, 2, 2), (1, 3, 3), (1, 4, 4)]⟩
attribute [go_sem] x22_22
def r22_23 : List PO := [⟨(some 110), (Op.binOp BinOp.add 3 (Operand.tmp 46) (Operand.const (Value.int IntKind.i64 1)) 3), none⟩,
  ⟨(some 46), (Op.move (Operand.tmp 110)), none⟩]
attribute [go_sem] r22_23
def k22_2b : PC := (.seq (.reg r22_7) (.seq (.cond (Operand.tmp 47) .skip (.pre ⟨[4, 6], [.old 2, .old 3, .old 4, .old 5], []⟩ (.exit 0))) (.seq (.block 1 (.seq (.reg r22_8) (.seq (.reg r22_9) (.seq (.seq (.reg r22_10) (.block 2 (.pre ⟨[2, 3, 4, 6, 7, 8, 9, 44, 45, 46, 53, 54], [.old 0, .old 1, .old 2, .old 3, .old 4, .old 5, .old 6], []⟩ (.loop k22_14b)))) (.fx r22_22 x22_22))))) (.post (.reg r22_23) ⟨[2, 3, 4, 6, 44, 45, 46], [.old 0, .old 1, .old 2, .old 3, .old 4, .old 10], []⟩))))
def r22_0 : List PO := [⟨(some 2), (Op.box 27 (Operand.tmp 0)), none⟩,
  ⟨(some 3), (Op.box 27 (Operand.tmp 1)), none⟩,
  ⟨(some 4), (Op.alloc 27), none⟩,
  ⟨(some 5), (Op.assign (Operand.const (Value.bool false))), none⟩]
attribute [go_sem] r22_0
def r22_2 : List PO := [⟨(some 31), (Op.build 27 #[]), none⟩,
  ⟨none, (Op.store 27 (Operand.tmp 4) (Operand.tmp 31)), none⟩,
  ⟨(some 5), (Op.assign (Operand.const (Value.bool false))), none⟩]
attribute [go_sem] r22_2
def r22_3 : List PO := [⟨(some 32), (Op.load 27 (Operand.tmp 2)), none⟩,
  ⟨(some 33), (Op.call { callee := (Callee.value (Operand.func 51)), args := #[(Operand.tmp 32)], argTypes := #[27] }), none⟩,
  ⟨(some 34), (Op.load 27 (Operand.tmp 3)), none⟩,
  ⟨(some 35), (Op.call { callee := (Callee.value (Operand.func 51)), args := #[(Operand.tmp 34)], argTypes := #[27] }), none⟩,
  ⟨(some 36), (Op.binOp BinOp.mul 3 (Operand.tmp 33) (Operand.tmp 35) 3), none⟩,
  ⟨(some 37), (Op.binOp BinOp.add 3 (Operand.tmp 36) (Operand.const (Value.int IntKind.i64 1)) 3), none⟩,
  ⟨(some 38), (Op.build 27 #[(0, (Operand.tmp 37))]), none⟩,
  ⟨(some 6), (Op.alloc 27), none⟩,
  ⟨none, (Op.store 27 (Operand.tmp 6) (Operand.tmp 38)), none⟩]
attribute [go_sem] r22_3
def x22_3 : FxI := ⟨[1, 3, 7, 8], [none, none, none, none, none, none, none, some 0, none], 1, [[], [1], [1, 3], [1, 3, 7], [1, 3, 7, 8], [7], [1, 7]], [(0, 7), (1, 7)], [(0, 5, 5), (1, 5, 6), (2, 0, 0), (2, 5, 5), (2, 6, 6), (3, 6, 3), (6, 3, 3), (7, 0, 5), (7, 1, 6)]⟩
attribute [go_sem] x22_3
def r22_4 : List PO := [⟨(some 39), (Op.fieldAddr 27 (Operand.tmp 6) 0), none⟩,
  ⟨(some 40), (Op.load 3 (Operand.tmp 39)), none⟩,
  ⟨(some 41), (Op.binOp BinOp.gtr 3 (Operand.tmp 40) (Operand.const (Value.int IntKind.i64 12)) 3), none⟩]
attribute [go_sem] r22_4
def r22_5 : List PO := [⟨(some 42), (Op.build 27 #[]), none⟩,
  ⟨none, (Op.store 27 (Operand.tmp 4) (Operand.tmp 42)), none⟩,
  ⟨(some 5), (Op.assign (Operand.const (Value.bool false))), none⟩]
attribute [go_sem] r22_5
def r22_6 : List PO := [⟨(some 43), (Op.fieldAddr 27 (Operand.tmp 2) 1), none⟩,
  ⟨(some 44), (Op.load 22 (Operand.tmp 43)), none⟩,
  ⟨(some 45), (Op.call { callee := (Callee.builtin Builtin.len), args := #[(Operand.tmp 44)], argTypes := #[22] }), none⟩,
  ⟨(some 46), (Op.move (Operand.const (Value.int IntKind.i64 0))), none⟩]
attribute [go_sem] r22_6
def r22_24 : List PO := [⟨(some 111), (Op.load 27 (Operand.tmp 6)), none⟩,
  ⟨none, (Op.store 27 (Operand.tmp 4) (Operand.tmp 111)), none⟩,
  ⟨(some 5), (Op.assign (Operand.const (Value.bool true))), none⟩]
attribute [go_sem] r22_24
def c22 : PC := (.seq (.reg r22_0) (.seq (.seq (.pre ⟨[2, 3, 4], [.old 0, .old 1, .old 2, .nilB 2 1 1], []⟩ k22_1) (.cond (Operand.tmp 30) (.seq (.reg r22_2) .ret) .skip)) (.seq (.fx r22_3 x22_3) (.seq (.seq (.reg r22_4) (.cond (Operand.tmp 41) (.seq (.reg r22_5) .ret) .skip)) (.seq (.seq (.reg r22_6) (.block 0 (.pre ⟨[2, 3, 4, 6, 44, 45, 46], [.old 0, .old 1, .old 2, .old 3, .old 4, .nilB 4 1 1], []⟩ (.loop k22_2b)))) (.seq (.reg r22_24) .ret))))))
def i22 : FnI := ⟨112, [(ResultVar.cell 4 27), (ResultVar.tmp 5)], c22, 0, [[0, 1], [0, 1]], [[0, 1], [0]], false, false, 0, false⟩
-- loop.example/g00344/laws.eqIntS
def r31_4 : List PO := [⟨(some 11), (Op.move (Operand.tmp 5)), none⟩,
  ⟨(some 12), (Op.move (Operand.tmp 0)), none⟩,
  ⟨(some 13), (Op.call { callee := (Callee.builtin Builtin.len), args := #[(Operand.tmp 12)], argTypes := #[38] }), none⟩,
  ⟨(some 14), (Op.binOp BinOp.lss 3 (Operand.tmp 11) (Operand.tmp 13) 3), none⟩]
attribute [go_sem] r31_4
def r31_6 : List PO := [⟨(some 17), (Op.move (Operand.tmp 0)), none⟩,
  ⟨(some 18), (Op.move (Operand.tmp 5)), none⟩,
  ⟨(some 19), (Op.indexAddr 38 (Operand.tmp 17) (Operand.tmp 18)), none⟩,
  ⟨(some 20), (Op.load 3 (Operand.tmp 19)), none⟩,
  ⟨(some 21), (Op.move (Operand.tmp 1)), none⟩,
  ⟨(some 22), (Op.move (Operand.tmp 5)), none⟩,
  ⟨(some 23), (Op.indexAddr 38 (Operand.tmp 21) (Operand.tmp 22)), none⟩,
  ⟨(some 24), (Op.load 3 (Operand.tmp 23)), none⟩,
  ⟨(some 25), (Op.binOp BinOp.neq 3 (Operand.tmp 20) (Operand.tmp 24) 3), none⟩]
attribute [go_sem] r31_6
def r31_7 : List PO := [⟨(some 4), (Op.assign (Operand.const (Value.bool false))), none⟩]
attribute [go_sem] r31_7
def r31_5 : List PO := [⟨(some 15), (Op.move (Operand.tmp 5)), none⟩,
  ⟨(some 16), (Op.binOp BinOp.add 3 (Operand.tmp 15) (Operand.const (Value.int IntKind.i64 1)) 3), none⟩,
  ⟨(some 5), (Op.assign (Operand.tmp 16)), none⟩]
attribute [go_sem] r31_5
def k31_1b : PC := (.seq (.seq (.reg r31_4) (.cond (Operand.tmp 14) .skip (.pre ⟨[], [], []⟩ (.exit 0)))) (.seq (.block 1 (.seq (.fz r31_6) (.cond (Operand.tmp 25) (.seq (.reg r31_7) (.pre ⟨[4], [], []⟩ .ret)) .skip))) (.post (.reg r31_5) ⟨[0, 1, 5], [], []⟩)))
def r31_0 : List PO := [⟨(some 4), (Op.assign (Operand.const (Value.bool false))), none⟩]
attribute [go_sem] r31_0
def r31_1 : List PO := [⟨(some 6), (Op.move (Operand.tmp 0)), none⟩,
  ⟨(some 7), (Op.call { callee := (Callee.builtin Builtin.len), args := #[(Operand.tmp 6)], argTypes := #[38] }), none⟩,
  ⟨(some 8), (Op.move (Operand.tmp 1)), none⟩,
  ⟨(some 9), (Op.call { callee := (Callee.builtin Builtin.len), args := #[(Operand.tmp 8)], argTypes := #[38] }), none⟩,
  ⟨(some 10), (Op.binOp BinOp.neq 3 (Operand.tmp 7) (Operand.tmp 9) 3), none⟩]
attribute [go_sem] r31_1
def r31_2 : List PO := [⟨(some 4), (Op.assign (Operand.const (Value.bool false))), none⟩]
attribute [go_sem] r31_2
def r31_3 : List PO := [⟨(some 5), (Op.assign (Operand.const (Value.int IntKind.i64 0))), none⟩]
attribute [go_sem] r31_3
def r31_8 : List PO := [⟨(some 4), (Op.assign (Operand.const (Value.bool true))), none⟩]
attribute [go_sem] r31_8
def c31 : PC := (.seq (.reg r31_0) (.seq (.seq (.reg r31_1) (.cond (Operand.tmp 10) (.seq (.reg r31_2) .ret) .skip)) (.seq (.seq (.reg r31_3) (.block 0 (.pre ⟨[0, 1, 5], [], []⟩ (.loop k31_1b)))) (.seq (.reg r31_8) .ret))))
def i31 : FnI := ⟨26, [(ResultVar.tmp 4)], c31, 0, [[1], [1]], [[0]], false, false, 0, false⟩
-- loop.example/g00344/laws.eqIntSS
def r54_4 : List PO := [⟨(some 11), (Op.move (Operand.tmp 5)), none⟩,
  ⟨(some 12), (Op.move (Operand.tmp 0)), none⟩,
  ⟨(some 13), (Op.call { callee := (Callee.builtin Builtin.len), args := #[(Operand.tmp 12)], argTypes := #[22] }), none⟩,
  ⟨(some 14), (Op.binOp BinOp.lss 3 (Operand.tmp 11) (Operand.tmp 13) 3), none⟩]
attribute [go_sem] r54_4
def r54_6 : List PO := [⟨(some 17), (Op.move (Operand.tmp 0)), none⟩,
  ⟨(some 18), (Op.move (Operand.tmp 5)), none⟩,
  ⟨(some 19), (Op.indexAddr 22 (Operand.tmp 17) (Operand.tmp 18)), none⟩,
  ⟨(some 20), (Op.load 38 (Operand.tmp 19)), none⟩,
  ⟨(some 21), (Op.move (Operand.tmp 1)), none⟩,
  ⟨(some 22), (Op.move (Operand.tmp 5)), none⟩,
  ⟨(some 23), (Op.indexAddr 22 (Operand.tmp 21) (Operand.tmp 22)), none⟩,
  ⟨(some 24), (Op.load 38 (Operand.tmp 23)), none⟩,
  ⟨(some 25), (Op.call { callee := (Callee.value (Operand.func 31)), args := #[(Operand.tmp 20), (Operand.tmp 24)], argTypes := #[38, 38] }), none⟩,
  ⟨(some 26), (Op.unOp UnOp.not 4 (Operand.tmp 25)), none⟩]
attribute [go_sem] r54_6
def r54_7 : List PO := [⟨(some 4), (Op.assign (Operand.const (Value.bool false))), none⟩]
attribute [go_sem] r54_7
def r54_5 : List PO := [⟨(some 15), (Op.move (Operand.tmp 5)), none⟩,
  ⟨(some 16), (Op.binOp BinOp.add 3 (Operand.tmp 15) (Operand.const (Value.int IntKind.i64 1)) 3), none⟩,
  ⟨(some 5), (Op.assign (Operand.tmp 16)), none⟩]
attribute [go_sem] r54_5
def k54_1b : PC := (.seq (.seq (.reg r54_4) (.cond (Operand.tmp 14) .skip (.pre ⟨[], [], []⟩ (.exit 0)))) (.seq (.block 1 (.seq (.fz r54_6) (.cond (Operand.tmp 26) (.seq (.reg r54_7) (.pre ⟨[4], [], []⟩ .ret)) .skip))) (.post (.reg r54_5) ⟨[0, 1, 5], [], []⟩)))
def r54_0 : List PO := [⟨(some 4), (Op.assign (Operand.const (Value.bool false))), none⟩]
attribute [go_sem] r54_0
def r54_1 : List PO := [⟨(some 6), (Op.move (Operand.tmp 0)), none⟩,
  ⟨(some 7), (Op.call { callee := (Callee.builtin Builtin.len), args := #[(Operand.tmp 6)], argTypes := #[22] }), none⟩,
  ⟨(some 8), (Op.move (Operand.tmp 1)), none⟩,
  ⟨(some 9), (Op.call { callee := (Callee.builtin Builtin.len), args := #[(Operand.tmp 8)], argTypes := #[22] }), none⟩,
  ⟨(some 10), (Op.binOp BinOp.neq 3 (Operand.tmp 7) (Operand.tmp 9) 3), none⟩]
attribute [go_sem] r54_1
def r54_2 : List PO := [⟨(some 4), (Op.assign (Operand.const (Value.bool false))), none⟩]
attribute [go_sem] r54_2
def r54_3 : List PO := [⟨(some 5), (Op.assign (Operand.const (Value.int IntKind.i64 0))), none⟩]
attribute [go_sem] r54_3
def r54_8 : List PO := [⟨(some 4), (Op.assign (Operand.const (Value.bool true))), none⟩]
attribute [go_sem] r54_8
def c54 : PC := (.seq (.reg r54_0) (.seq (.seq (.reg r54_1) (.cond (Operand.tmp 10) (.seq (.reg r54_2) .ret) .skip)) (.seq (.seq (.reg r54_3) (.block 0 (.pre ⟨[0, 1, 5], [], []⟩ (.loop k54_1b)))) (.seq (.reg r54_8) .ret))))
def i54 : FnI := ⟨27, [(ResultVar.tmp 4)], c54, 0, [[1], [1]], [[0]], false, false, 0, false⟩
-- loop.example/g00344/laws.eqAlgebra
def r16_0 : List PO := [⟨(some 2), (Op.box 27 (Operand.tmp 0)), none⟩,
  ⟨(some 3), (Op.box 27 (Operand.tmp 1)), none⟩,
  ⟨(some 4), (Op.assign (Operand.const (Value.bool false))), none⟩]
attribute [go_sem] r16_0
def r16_1 : List PO := [⟨(some 5), (Op.fieldAddr 27 (Operand.tmp 2) 0), none⟩,
  ⟨(some 6), (Op.load 3 (Operand.tmp 5)), none⟩,
  ⟨(some 7), (Op.fieldAddr 27 (Operand.tmp 3) 0), none⟩,
  ⟨(some 8), (Op.load 3 (Operand.tmp 7)), none⟩,
  ⟨(some 9), (Op.binOp BinOp.neq 3 (Operand.tmp 6) (Operand.tmp 8) 3), none⟩]
attribute [go_sem] r16_1
def r16_2 : List PO := [⟨(some 4), (Op.assign (Operand.const (Value.bool false))), none⟩]
attribute [go_sem] r16_2
def r16_3 : List PO := [⟨(some 10), (Op.fieldAddr 27 (Operand.tmp 2) 1), none⟩,
  ⟨(some 11), (Op.load 22 (Operand.tmp 10)), none⟩,
  ⟨(some 12), (Op.fieldAddr 27 (Operand.tmp 3) 1), none⟩,
  ⟨(some 13), (Op.load 22 (Operand.tmp 12)), none⟩,
  ⟨(some 14), (Op.call { callee := (Callee.value (Operand.func 54)), args := #[(Operand.tmp 11), (Operand.tmp 13)], argTypes := #[22, 22] }), none⟩,
  ⟨(some 15), (Op.unOp UnOp.not 4 (Operand.tmp 14)), none⟩]
attribute [go_sem] r16_3
def r16_4 : List PO := [⟨(some 4), (Op.assign (Operand.const (Value.bool false))), none⟩]
attribute [go_sem] r16_4
def r16_5 : List PO := [⟨(some 4), (Op.assign (Operand.const (Value.bool true))), none⟩]
attribute [go_sem] r16_5
def c16 : PC := (.seq (.reg r16_0) (.seq (.seq (.reg r16_1) (.cond (Operand.tmp 9) (.seq (.reg r16_2) .ret) .skip)) (.seq (.seq (.reg r16_3) (.cond (Operand.tmp 15) (.seq (.reg r16_4) .ret) .skip)) (.seq (.reg r16_5) .ret))))
def i16 : FnI := ⟨16, [(ResultVar.tmp 4)], c16, 0, [[0, 1], [0, 1]], [[0]], false, false, 0, false⟩
-- loop.example/g00344/laws.markIntS
def r35_2 : List PO := [⟨(some 6), (Op.move (Operand.tmp 5)), none⟩,
  ⟨(some 7), (Op.move (Operand.tmp 0)), none⟩,
  ⟨(some 8), (Op.call { callee := (Callee.builtin Builtin.len), args := #[(Operand.tmp 7)], argTypes := #[38] }), none⟩,
  ⟨(some 9), (Op.binOp BinOp.lss 3 (Operand.tmp 6) (Operand.tmp 8) 3), none⟩]
attribute [go_sem] r35_2
def r35_4 : List PO := [⟨(some 12), (Op.move (Operand.tmp 0)), none⟩,
  ⟨(some 13), (Op.move (Operand.tmp 5)), none⟩,
  ⟨(some 14), (Op.move (Operand.tmp 1)), none⟩,
  ⟨(some 15), (Op.indexAddr 38 (Operand.tmp 12) (Operand.tmp 13)), none⟩,
  ⟨none, (Op.store 3 (Operand.tmp 15) (Operand.tmp 14)), none⟩]
attribute [go_sem] r35_4
def r35_5 : List PO := [⟨(some 16), (Op.move (Operand.tmp 1)), none⟩,
  ⟨(some 17), (Op.binOp BinOp.add 3 (Operand.tmp 16) (Operand.const (Value.int IntKind.i64 1)) 3), none⟩,
  ⟨(some 1), (Op.assign (Operand.tmp 17)), none⟩]
attribute [go_sem] r35_5
def r35_3 : List PO := [⟨(some 10), (Op.move (Operand.tmp 5)), none⟩,
  ⟨(some 11), (Op.binOp BinOp.add 3 (Operand.tmp 10) (Operand.const (Value.int IntKind.i64 1)) 3), none⟩,
  ⟨(some 5), (Op.assign (Operand.tmp 11)), none⟩]
attribute [go_sem] r35_3
def k35_1b : PC := (.seq (.seq (.reg r35_2) (.cond (Operand.tmp 9) .skip (.pre ⟨[1], [], []⟩ (.exit 0)))) (.seq (.block 1 (.seq (.reg r35_4) (.reg r35_5))) (.post (.reg r35_3) ⟨[0, 1, 5], [], []⟩)))
def r35_0 : List PO := [⟨(some 4), (Op.assign (Operand.const (Value.int IntKind.i64 0))), none⟩]
attribute [go_sem] r35_0
def r35_1 : List PO := [⟨(some 5), (Op.assign (Operand.const (Value.int IntKind.i64 0))), none⟩]
attribute [go_sem] r35_1
def r35_6 : List PO := [⟨(some 18), (Op.move (Operand.tmp 1)), none⟩,
  ⟨(some 4), (Op.assign (Operand.tmp 18)), none⟩]
attribute [go_sem] r35_6
def c35 : PC := (.seq (.reg r35_0) (.seq (.seq (.reg r35_1) (.block 0 (.pre ⟨[0, 1, 5], [], []⟩ (.loop k35_1b)))) (.seq (.reg r35_6) (.pre ⟨[4], [], []⟩ .ret))))
def i35 : FnI := ⟨19, [(ResultVar.tmp 4)], c35, 3, [[1], [0]], [[0]], false, true, 1, false⟩
-- loop.example/g00344/laws.markIntSS
def r57_2 : List PO := [⟨(some 6), (Op.move (Operand.tmp 5)), none⟩,
  ⟨(some 7), (Op.move (Operand.tmp 0)), none⟩,
  ⟨(some 8), (Op.call { callee := (Callee.builtin Builtin.len), args := #[(Operand.tmp 7)], argTypes := #[22] }), none⟩,
  ⟨(some 9), (Op.binOp BinOp.lss 3 (Operand.tmp 6) (Operand.tmp 8) 3), none⟩]
attribute [go_sem] r57_2
def r57_4 : List PO := [⟨(some 12), (Op.move (Operand.tmp 0)), none⟩,
  ⟨(some 13), (Op.move (Operand.tmp 5)), none⟩,
  ⟨(some 14), (Op.indexAddr 22 (Operand.tmp 12) (Operand.tmp 13)), none⟩,
  ⟨(some 15), (Op.load 38 (Operand.tmp 14)), none⟩,
  ⟨(some 16), (Op.move (Operand.tmp 1)), none⟩,
  ⟨(some 17), (Op.call { callee := (Callee.value (Operand.func 35)), args := #[(Operand.tmp 15), (Operand.tmp 16)], argTypes := #[38, 3] }), none⟩,
  ⟨(some 1), (Op.assign (Operand.tmp 17)), none⟩]
attribute [go_sem] r57_4
def r57_3 : List PO := [⟨(some 10), (Op.move (Operand.tmp 5)), none⟩,
  ⟨(some 11), (Op.binOp BinOp.add 3 (Operand.tmp 10) (Operand.const (Value.int IntKind.i64 1)) 3), none⟩,
  ⟨(some 5), (Op.assign (Operand.tmp 11)), none⟩]
attribute [go_sem] r57_3
def k57_1b : PC := (.seq (.seq (.reg r57_2) (.cond (Operand.tmp 9) .skip (.pre ⟨[1], [], []⟩ (.exit 0)))) (.seq (.block 1 (.nest r57_4 3 2)) (.post (.reg r57_3) ⟨[0, 1, 5], [], []⟩)))
def r57_0 : List PO := [⟨(some 4), (Op.assign (Operand.const (Value.int IntKind.i64 0))), none⟩]
attribute [go_sem] r57_0
def r57_1 : List PO := [⟨(some 5), (Op.assign (Operand.const (Value.int IntKind.i64 0))), none⟩]
attribute [go_sem] r57_1
def r57_5 : List PO := [⟨(some 18), (Op.move (Operand.tmp 1)), none⟩,
  ⟨(some 4), (Op.assign (Operand.tmp 18)), none⟩]
attribute [go_sem] r57_5
def c57 : PC := (.seq (.reg r57_0) (.seq (.seq (.reg r57_1) (.block 0 (.pre ⟨[0, 1, 5], [], []⟩ (.loop k57_1b)))) (.seq (.reg r57_5) (.pre ⟨[4], [], []⟩ .ret))))
def i57 : FnI := ⟨19, [(ResultVar.tmp 4)], c57, 3, [[1], [0]], [[0]], false, true, 1, true⟩
-- loop.example/g00344/laws.markAlgebra
def r23_0 : List PO := [⟨(some 2), (Op.box 27 (Operand.tmp 0)), none⟩,
  ⟨(some 4), (Op.assign (Operand.const (Value.int IntKind.i64 0))), none⟩]
attribute [go_sem] r23_0
def r23_1 : List PO := [⟨(some 5), (Op.fieldAddr 27 (Operand.tmp 2) 1), none⟩,
  ⟨(some 6), (Op.load 22 (Operand.tmp 5)), none⟩,
  ⟨(some 7), (Op.move (Operand.tmp 1)), none⟩,
  ⟨(some 8), (Op.call { callee := (Callee.value (Operand.func 57)), args := #[(Operand.tmp 6), (Operand.tmp 7)], argTypes := #[22, 3] }), none⟩,
  ⟨(some 1), (Op.assign (Operand.tmp 8)), none⟩]
attribute [go_sem] r23_1
def r23_2 : List PO := [⟨(some 9), (Op.move (Operand.tmp 1)), none⟩,
  ⟨(some 4), (Op.assign (Operand.tmp 9)), none⟩]
attribute [go_sem] r23_2
def c23 : PC := (.seq (.reg r23_0) (.seq (.reg r23_1) (.seq (.reg r23_2) (.pre ⟨[4], [], []⟩ .ret))))
def i23 : FnI := ⟨10, [(ResultVar.tmp 4)], c23, 3, [[0, 1], [0]], [[0]], false, true, 1, true⟩
-- loop.example/g00344/laws.heldIntS
def r36_2 : List PO := [⟨(some 6), (Op.move (Operand.tmp 5)), none⟩,
  ⟨(some 7), (Op.move (Operand.tmp 0)), none⟩,
  ⟨(some 8), (Op.call { callee := (Callee.builtin Builtin.len), args := #[(Operand.tmp 7)], argTypes := #[38] }), none⟩,
  ⟨(some 9), (Op.binOp BinOp.lss 3 (Operand.tmp 6) (Operand.tmp 8) 3), none⟩]
attribute [go_sem] r36_2
def r36_4 : List PO := [⟨(some 12), (Op.move (Operand.tmp 0)), none⟩,
  ⟨(some 13), (Op.move (Operand.tmp 5)), none⟩,
  ⟨(some 14), (Op.indexAddr 38 (Operand.tmp 12) (Operand.tmp 13)), none⟩,
  ⟨(some 15), (Op.load 3 (Operand.tmp 14)), none⟩,
  ⟨(some 16), (Op.move (Operand.tmp 1)), none⟩,
  ⟨(some 17), (Op.binOp BinOp.neq 3 (Operand.tmp 15) (Operand.tmp 16) 3), none⟩]
attribute [go_sem] r36_4
def r36_5 : List PO := [⟨(some 4), (Op.assign (Operand.const (Value.int IntKind.i64 (-1)))), none⟩]
attribute [go_sem] r36_5
def r36_6 : List PO := [⟨(some 18), (Op.move (Operand.tmp 1)), none⟩,
  ⟨(some 19), (Op.binOp BinOp.add 3 (Operand.tmp 18) (Operand.const (Value.int IntKind.i64 1)) 3), none⟩,
  ⟨(some 1), (Op.assign (Operand.tmp 19)), none⟩]
attribute [go_sem] r36_6
def r36_3 : List PO := [⟨(some 10), (Op.move (Operand.tmp 5)), none⟩,
  ⟨(some 11), (Op.binOp BinOp.add 3 (Operand.tmp 10) (Operand.const (Value.int IntKind.i64 1)) 3), none⟩,
  ⟨(some 5), (Op.assign (Operand.tmp 11)), none⟩]
attribute [go_sem] r36_3
def k36_1b : PC := (.seq (.seq (.reg r36_2) (.cond (Operand.tmp 9) .skip (.pre ⟨[1], [], []⟩ (.exit 0)))) (.seq (.block 1 (.seq (.seq (.reg r36_4) (.cond (Operand.tmp 17) (.seq (.reg r36_5) (.pre ⟨[4], [], []⟩ .ret)) .skip)) (.reg r36_6))) (.post (.reg r36_3) ⟨[0, 1, 5], [], []⟩)))
def r36_0 : List PO := [⟨(some 4), (Op.assign (Operand.const (Value.int IntKind.i64 0))), none⟩]
attribute [go_sem] r36_0
def r36_1 : List PO := [⟨(some 5), (Op.assign (Operand.const (Value.int IntKind.i64 0))), none⟩]
attribute [go_sem] r36_1
def r36_7 : List PO := [⟨(some 20), (Op.move (Operand.tmp 1)), none⟩,
  ⟨(some 4), (Op.assign (Operand.tmp 20)), none⟩]
attribute [go_sem] r36_7
def c36 : PC := (.seq (.reg r36_0) (.seq (.seq (.reg r36_1) (.block 0 (.pre ⟨[0, 1, 5], [], []⟩ (.loop k36_1b)))) (.seq (.reg r36_7) .ret)))
def i36 : FnI := ⟨21, [(ResultVar.tmp 4)], c36, 0, [[1], [0]], [[0]], false, false, 0, false⟩
-- loop.example/g00344/laws.heldIntSS
def r58_2 : List PO := [⟨(some 6), (Op.move (Operand.tmp 5)), none⟩,
  ⟨(some 7), (Op.move (Operand.tmp 0)), none⟩,
  ⟨(some 8), (Op.call { callee := (Callee.builtin Builtin.len), args := #[(Operand.tmp 7)], argTypes := #[22] }), none⟩,
  ⟨(some 9), (Op.binOp BinOp.lss 3 (Operand.tmp 6) (Operand.tmp 8) 3), none⟩]
attribute [go_sem] r58_2
def r58_4 : List PO := [⟨(some 12), (Op.move (Operand.tmp 0)), none⟩,
  ⟨(some 13), (Op.move (Operand.tmp 5)), none⟩,
  ⟨(some 14), (Op.indexAddr 22 (Operand.tmp 12) (Operand.tmp 13)), none⟩,
  ⟨(some 15), (Op.load 38 (Operand.tmp 14)), none⟩,
  ⟨(some 16), (Op.move (Operand.tmp 1)), none⟩,
  ⟨(some 17), (Op.call { callee := (Callee.value (Operand.func 36)), args := #[(Operand.tmp 15), (Operand.tmp 16)], argTypes := #[38, 3] }), none⟩,
  ⟨(some 1), (Op.assign (Operand.tmp 17)), none⟩]
attribute [go_sem] r58_4
def r58_5 : List PO := [⟨(some 18), (Op.move (Operand.tmp 1)), none⟩,
  ⟨(some 19), (Op.binOp BinOp.lss 3 (Operand.tmp 18) (Operand.const (Value.int IntKind.i64 0)) 3), none⟩]
attribute [go_sem] r58_5
def r58_6 : List PO := [⟨(some 4), (Op.assign (Operand.const (Value.int IntKind.i64 (-1)))), none⟩]
attribute [go_sem] r58_6
def r58_3 : List PO := [⟨(some 10), (Op.move (Operand.tmp 5)), none⟩,
  ⟨(some 11), (Op.binOp BinOp.add 3 (Operand.tmp 10) (Operand.const (Value.int IntKind.i64 1)) 3), none⟩,
  ⟨(some 5), (Op.assign (Operand.tmp 11)), none⟩]
attribute [go_sem] r58_3
def k58_1b : PC := (.seq (.seq (.reg r58_2) (.cond (Operand.tmp 9) .skip (.pre ⟨[1], [], []⟩ (.exit 0)))) (.seq (.block 1 (.seq (.reg r58_4) (.seq (.reg r58_5) (.cond (Operand.tmp 19) (.seq (.reg r58_6) (.pre ⟨[4], [], []⟩ .ret)) .skip)))) (.post (.reg r58_3) ⟨[0, 1, 5], [], []⟩)))
def r58_0 : List PO := [⟨(some 4), (Op.assign (Operand.const (Value.int IntKind.i64 0))), none⟩]
attribute [go_sem] r58_0
def r58_1 : List PO := [⟨(some 5), (Op.assign (Operand.const (Value.int IntKind.i64 0))), none⟩]
attribute [go_sem] r58_1
def r58_7 : List PO := [⟨(some 20), (Op.move (Operand.tmp 1)), none⟩,
  ⟨(some 4), (Op.assign (Operand.tmp 20)), none⟩]
attribute [go_sem] r58_7
def c58 : PC := (.seq (.reg r58_0) (.seq (.seq (.reg r58_1) (.block 0 (.pre ⟨[0, 1, 5], [], []⟩ (.loop k58_1b)))) (.seq (.reg r58_7) .ret)))
def i58 : FnI := ⟨21, [(ResultVar.tmp 4)], c58, 0, [[1], [0]], [[0]], false, false, 0, false⟩
-- loop.example/g00344/laws.heldAlgebra
def r24_0 : List PO := [⟨(some 2), (Op.box 27 (Operand.tmp 0)), none⟩,
  ⟨(some 4), (Op.assign (Operand.const (Value.int IntKind.i64 0))), none⟩]
attribute [go_sem] r24_0
def r24_1 : List PO := [⟨(some 5), (Op.fieldAddr 27 (Operand.tmp 2) 1), none⟩,
  ⟨(some 6), (Op.load 22 (Operand.tmp 5)), none⟩,
  ⟨(some 7), (Op.move (Operand.tmp 1)), none⟩,
  ⟨(some 8), (Op.call { callee := (Callee.value (Operand.func 58)), args := #[(Operand.tmp 6), (Operand.tmp 7)], argTypes := #[22, 3] }), none⟩,
  ⟨(some 1), (Op.assign (Operand.tmp 8)), none⟩]
attribute [go_sem] r24_1
def r24_2 : List PO := [⟨(some 9), (Op.move (Operand.tmp 1)), none⟩,
  ⟨(some 10), (Op.binOp BinOp.lss 3 (Operand.tmp 9) (Operand.const (Value.int IntKind.i64 0)) 3), none⟩]
attribute [go_sem] r24_2
def r24_3 : List PO := [⟨(some 4), (Op.assign (Operand.const (Value.int IntKind.i64 (-1)))), none⟩]
attribute [go_sem] r24_3
def r24_4 : List PO := [⟨(some 11), (Op.move (Operand.tmp 1)), none⟩,
  ⟨(some 4), (Op.assign (Operand.tmp 11)), none⟩]
attribute [go_sem] r24_4
def c24 : PC := (.seq (.reg r24_0) (.seq (.reg r24_1) (.seq (.seq (.reg r24_2) (.cond (Operand.tmp 10) (.seq (.reg r24_3) .ret) .skip)) (.seq (.reg r24_4) .ret))))
def i24 : FnI := ⟨12, [(ResultVar.tmp 4)], c24, 0, [[0, 1], [0]], [[0]], false, false, 0, false⟩
-- loop.example/g00344/laws.FnExactLexOf
def r6_12 : List PO := [⟨(some 45), (Op.load 27 (Operand.tmp 10)), none⟩,
  ⟨(some 46), (Op.load 27 (Operand.tmp 6)), none⟩,
  ⟨(some 47), (Op.call { callee := (Callee.value (Operand.func 16)), args := #[(Operand.tmp 45), (Operand.tmp 46)], argTypes := #[27, 27] }), none⟩,
  ⟨(some 48), (Op.unOp UnOp.not 4 (Operand.tmp 47)), none⟩,
  ⟨(some 49), (Op.move (Operand.tmp 48)), none⟩,
  ⟨(some 50), (Op.move (Operand.tmp 11)), (some (49, false))⟩,
  ⟨(some 51), (Op.move (Operand.tmp 7)), (some (49, false))⟩,
  ⟨(some 52), (Op.binOp BinOp.neq 4 (Operand.tmp 50) (Operand.tmp 51) 4), (some (49, false))⟩,
  ⟨(some 53), (Op.pick (Operand.tmp 49) (Operand.const (Value.bool true)) (Operand.tmp 52)), none⟩]
attribute [go_sem] r6_12
def k6_1 : PC := (.post (.reg r6_12) ⟨[2, 3, 6, 7, 8, 9, 10, 11, 53], [.old 0, .old 1, .old 2, .old 3, .old 4, .old 5, .old 6, .old 7, .old 8, .old 9], []⟩)
def r6_21 : List PO := [⟨(some 70), (Op.move (Operand.tmp 12)), none⟩,
  ⟨(some 71), (Op.binOp BinOp.lss 3 (Operand.tmp 70) (Operand.const (Value.int IntKind.i64 0)) 3), none⟩,
  ⟨(some 72), (Op.move (Operand.tmp 71)), none⟩,
  ⟨(some 73), (Op.load 27 (Operand.tmp 10)), (some (72, false))⟩,
  ⟨(some 74), (Op.load 27 (Operand.tmp 6)), (some (72, false))⟩,
  ⟨(some 75), (Op.call { callee := (Callee.value (Operand.func 16)), args := #[(Operand.tmp 73), (Operand.tmp 74)], argTypes := #[27, 27] }), (some (72, false))⟩,
  ⟨(some 76), (Op.unOp UnOp.not 4 (Operand.tmp 75)), (some (72, false))⟩,
  ⟨(some 77), (Op.pick (Operand.tmp 72) (Operand.const (Value.bool true)) (Operand.tmp 76)), none⟩,
  ⟨(some 78), (Op.move (Operand.tmp 77)), none⟩,
  ⟨(some 79), (Op.move (Operand.tmp 11)), (some (78, false))⟩,
  ⟨(some 80), (Op.move (Operand.tmp 7)), (some (78, false))⟩,
  ⟨(some 81), (Op.binOp BinOp.neq 4 (Operand.tmp 79) (Operand.tmp 80) 4), (some (78, false))⟩,
  ⟨(some 82), (Op.pick (Operand.tmp 78) (Operand.const (Value.bool true)) (Operand.tmp 81)), none⟩]
attribute [go_sem] r6_21
def k6_2 : PC := (.post (.reg r6_21) ⟨[2, 3, 6, 7, 10, 82], [.old 0, .old 1, .old 2, .old 3, .old 4, .old 5], []⟩)
def r6_32 : List PO := [⟨(some 102), (Op.load 27 (Operand.tmp 15)), none⟩,
  ⟨(some 103), (Op.load 27 (Operand.tmp 6)), none⟩,
  ⟨(some 104), (Op.call { callee := (Callee.value (Operand.func 16)), args := #[(Operand.tmp 102), (Operand.tmp 103)], argTypes := #[27, 27] }), none⟩,
  ⟨(some 105), (Op.unOp UnOp.not 4 (Operand.tmp 104)), none⟩,
  ⟨(some 106), (Op.move (Operand.tmp 105)), none⟩,
  ⟨(some 107), (Op.move (Operand.tmp 16)), (some (106, false))⟩,
  ⟨(some 108), (Op.move (Operand.tmp 7)), (some (106, false))⟩,
  ⟨(some 109), (Op.binOp BinOp.neq 4 (Operand.tmp 107) (Operand.tmp 108) 4), (some (106, false))⟩,
  ⟨(some 110), (Op.pick (Operand.tmp 106) (Operand.const (Value.bool true)) (Operand.tmp 109)), none⟩]
attribute [go_sem] r6_32
def k6_3 : PC := (.post (.reg r6_32) ⟨[10, 13, 110], [.old 2, .old 3], []⟩)
def r6_0 : List PO := [⟨(some 2), (Op.box 24 (Operand.tmp 0)), none⟩,
  ⟨(some 3), (Op.box 24 (Operand.tmp 1)), none⟩,
  ⟨(some 4), (Op.assign (Operand.const (Value.bool false))), none⟩]
attribute [go_sem] r6_0
def r6_1 : List PO := [⟨(some 5), (Op.assign (Operand.const (Value.int IntKind.i64 1048576))), none⟩]
attribute [go_sem] r6_1
def r6_2 : List PO := [⟨(some 17), (Op.load 24 (Operand.tmp 2)), none⟩,
  ⟨(some 18), (Op.move (Operand.tmp 5)), none⟩,
  ⟨(some 19), (Op.call { callee := (Callee.value (Operand.func 12)), args := #[(Operand.tmp 17), (Operand.tmp 18)], argTypes := #[24, 3] }), none⟩,
  ⟨(some 5), (Op.assign (Operand.tmp 19)), none⟩]
attribute [go_sem] r6_2
def r6_3 : List PO := [⟨(some 20), (Op.move (Operand.tmp 5)), none⟩,
  ⟨(some 21), (Op.binOp BinOp.lss 3 (Operand.tmp 20) (Operand.const (Value.int IntKind.i64 0)) 3), none⟩]
attribute [go_sem] r6_3
def r6_4 : List PO := [⟨(some 4), (Op.assign (Operand.const (Value.bool true))), none⟩]
attribute [go_sem] r6_4
def r6_5 : List PO := [⟨(some 22), (Op.load 24 (Operand.tmp 3)), none⟩,
  ⟨(some 23), (Op.move (Operand.tmp 5)), none⟩,
  ⟨(some 24), (Op.call { callee := (Callee.value (Operand.func 12)), args := #[(Operand.tmp 22), (Operand.tmp 23)], argTypes := #[24, 3] }), none⟩,
  ⟨(some 5), (Op.assign (Operand.tmp 24)), none⟩]
attribute [go_sem] r6_5
def r6_6 : List PO := [⟨(some 25), (Op.move (Operand.tmp 5)), none⟩,
  ⟨(some 26), (Op.binOp BinOp.lss 3 (Operand.tmp 25) (Operand.const (Value.int IntKind.i64 0)) 3), none⟩]
attribute [go_sem] r6_6
def r6_7 : List PO := [⟨(some 4), (Op.assign (Operand.const (Value.bool true))), none⟩]
attribute [go_sem] r6_7
def r6_8 : List PO := [⟨(some 28), (Op.load 24 (Operand.tmp 2)), none⟩,
  ⟨(some 29), (Op.call { callee := (Callee.value (Operand.func 14)), args := #[(Operand.tmp 28)], argTypes := #[24] }), none⟩,
  ⟨(some 30), (Op.load 24 (Operand.tmp 3)), none⟩,
  ⟨(some 31), (Op.call { callee := (Callee.value (Operand.func 14)), args := #[(Operand.tmp 30)], argTypes := #[24] }), none⟩,
  ⟨(some 32), (Op.call { callee := (Callee.value (Operand.func 21)), args := #[(Operand.tmp 29), (Operand.tmp 31)], argTypes := #[27, 27] }), none⟩,
  ⟨(some 27), (Op.move (Operand.tmp 32)), none⟩,
  ⟨(some 33), (Op.extract (Operand.tmp 27) 0), none⟩,
  ⟨(some 34), (Op.extract (Operand.tmp 27) 1), none⟩,
  ⟨(some 6), (Op.alloc 27), none⟩,
  ⟨none, (Op.store 27 (Operand.tmp 6) (Operand.tmp 33)), none⟩,
  ⟨(some 7), (Op.assign (Operand.tmp 34)), none⟩]
attribute [go_sem] r6_8
def x6_8 : FxI := ⟨[1, 3, 4, 8, 9], [none, none, none, none, none, none, none, none, some 0, none, none], 1, [[], [1], [1, 3], [1, 3, 4], [1, 3, 4, 8], [1, 3, 4, 8, 9], [8], [1, 8], [1, 3, 8]], [(0, 8), (1, 8), (2, 8)], [(0, 6, 6), (1, 6, 7), (2, 0, 0), (2, 6, 6), (2, 7, 7), (3, 7, 8), (4, 8, 4), (8, 0, 6), (8, 1, 7), (8, 2, 8)]⟩
attribute [go_sem] x6_8
def r6_9 : List PO := [⟨(some 35), (Op.load 24 (Operand.tmp 2)), none⟩,
  ⟨(some 36), (Op.call { callee := (Callee.value (Operand.func 14)), args := #[(Operand.tmp 35)], argTypes := #[24] }), none⟩,
  ⟨(some 8), (Op.alloc 27), none⟩,
  ⟨none, (Op.store 27 (Operand.tmp 8) (Operand.tmp 36)), none⟩]
attribute [go_sem] r6_9
def r6_10 : List PO := [⟨(some 37), (Op.load 24 (Operand.tmp 3)), none⟩,
  ⟨(some 38), (Op.call { callee := (Callee.value (Operand.func 14)), args := #[(Operand.tmp 37)], argTypes := #[24] }), none⟩,
  ⟨(some 9), (Op.alloc 27), none⟩,
  ⟨none, (Op.store 27 (Operand.tmp 9) (Operand.tmp 38)), none⟩]
attribute [go_sem] r6_10
def r6_11 : List PO := [⟨(some 40), (Op.load 27 (Operand.tmp 8)), none⟩,
  ⟨(some 41), (Op.load 27 (Operand.tmp 9)), none⟩,
  ⟨(some 42), (Op.call { callee := (Callee.value (Operand.func 22)), args := #[(Operand.tmp 40), (Operand.tmp 41)], argTypes := #[27, 27] }), none⟩,
  ⟨(some 39), (Op.move (Operand.tmp 42)), none⟩,
  ⟨(some 43), (Op.extract (Operand.tmp 39) 0), none⟩,
  ⟨(some 44), (Op.extract (Operand.tmp 39) 1), none⟩,
  ⟨(some 10), (Op.alloc 27), none⟩,
  ⟨none, (Op.store 27 (Operand.tmp 10) (Operand.tmp 43)), none⟩,
  ⟨(some 11), (Op.assign (Operand.tmp 44)), none⟩]
attribute [go_sem] r6_11
def r6_13 : List PO := [⟨(some 4), (Op.assign (Operand.const (Value.bool false))), none⟩]
attribute [go_sem] r6_13
def r6_14 : List PO := [⟨(some 54), (Op.load 27 (Operand.tmp 8)), none⟩,
  ⟨(some 55), (Op.load 24 (Operand.tmp 2)), none⟩,
  ⟨(some 56), (Op.call { callee := (Callee.value (Operand.func 14)), args := #[(Operand.tmp 55)], argTypes := #[24] }), none⟩,
  ⟨(some 57), (Op.call { callee := (Callee.value (Operand.func 16)), args := #[(Operand.tmp 54), (Operand.tmp 56)], argTypes := #[27, 27] }), none⟩,
  ⟨(some 58), (Op.unOp UnOp.not 4 (Operand.tmp 57)), none⟩]
attribute [go_sem] r6_14
def r6_15 : List PO := [⟨(some 4), (Op.assign (Operand.const (Value.bool false))), none⟩]
attribute [go_sem] r6_15
def r6_16 : List PO := [⟨(some 59), (Op.load 27 (Operand.tmp 9)), none⟩,
  ⟨(some 60), (Op.load 24 (Operand.tmp 3)), none⟩,
  ⟨(some 61), (Op.call { callee := (Callee.value (Operand.func 14)), args := #[(Operand.tmp 60)], argTypes := #[24] }), none⟩,
  ⟨(some 62), (Op.call { callee := (Callee.value (Operand.func 16)), args := #[(Operand.tmp 59), (Operand.tmp 61)], argTypes := #[27, 27] }), none⟩,
  ⟨(some 63), (Op.unOp UnOp.not 4 (Operand.tmp 62)), none⟩]
attribute [go_sem] r6_16
def r6_17 : List PO := [⟨(some 4), (Op.assign (Operand.const (Value.bool false))), none⟩]
attribute [go_sem] r6_17
def r6_18 : List PO := [⟨(some 12), (Op.assign (Operand.const (Value.int IntKind.i64 1))), none⟩]
attribute [go_sem] r6_18
def r6_19 : List PO := [⟨(some 64), (Op.load 27 (Operand.tmp 8)), none⟩,
  ⟨(some 65), (Op.move (Operand.tmp 12)), none⟩,
  ⟨(some 66), (Op.call { callee := (Callee.value (Operand.func 23)), args := #[(Operand.tmp 64), (Operand.tmp 65)], argTypes := #[27, 3] }), none⟩,
  ⟨(some 12), (Op.assign (Operand.tmp 66)), none⟩]
attribute [go_sem] r6_19
def r6_20 : List PO := [⟨(some 67), (Op.load 27 (Operand.tmp 9)), none⟩,
  ⟨(some 68), (Op.move (Operand.tmp 12)), none⟩,
  ⟨(some 69), (Op.call { callee := (Callee.value (Operand.func 23)), args := #[(Operand.tmp 67), (Operand.tmp 68)], argTypes := #[27, 3] }), none⟩,
  ⟨(some 12), (Op.assign (Operand.tmp 69)), none⟩]
attribute [go_sem] r6_20
def r6_22 : List PO := [⟨(some 4), (Op.assign (Operand.const (Value.bool false))), none⟩]
attribute [go_sem] r6_22
def r6_23 : List PO := [⟨(some 13), (Op.assign (Operand.const (Value.int IntKind.i64 1))), none⟩]
attribute [go_sem] r6_23
def r6_24 : List PO := [⟨(some 83), (Op.load 27 (Operand.tmp 10)), none⟩,
  ⟨(some 84), (Op.move (Operand.tmp 13)), none⟩,
  ⟨(some 85), (Op.call { callee := (Callee.value (Operand.func 23)), args := #[(Operand.tmp 83), (Operand.tmp 84)], argTypes := #[27, 3] }), none⟩,
  ⟨(some 13), (Op.assign (Operand.tmp 85)), none⟩]
attribute [go_sem] r6_24
def r6_25 : List PO := [⟨(some 14), (Op.assign (Operand.const (Value.int IntKind.i64 1))), none⟩]
attribute [go_sem] r6_25
def r6_26 : List PO := [⟨(some 86), (Op.load 27 (Operand.tmp 10)), none⟩,
  ⟨(some 87), (Op.move (Operand.tmp 14)), none⟩,
  ⟨(some 88), (Op.call { callee := (Callee.value (Operand.func 24)), args := #[(Operand.tmp 86), (Operand.tmp 87)], argTypes := #[27, 3] }), none⟩,
  ⟨(some 14), (Op.assign (Operand.tmp 88)), none⟩]
attribute [go_sem] r6_26
def r6_27 : List PO := [⟨(some 89), (Op.move (Operand.tmp 14)), none⟩,
  ⟨(some 90), (Op.binOp BinOp.lss 3 (Operand.tmp 89) (Operand.const (Value.int IntKind.i64 0)) 3), none⟩]
attribute [go_sem] r6_27
def r6_28 : List PO := [⟨(some 4), (Op.assign (Operand.const (Value.bool false))), none⟩]
attribute [go_sem] r6_28
def r6_29 : List PO := [⟨(some 91), (Op.move (Operand.tmp 14)), none⟩,
  ⟨(some 92), (Op.move (Operand.tmp 13)), none⟩,
  ⟨(some 93), (Op.binOp BinOp.neq 3 (Operand.tmp 91) (Operand.tmp 92) 3), none⟩]
attribute [go_sem] r6_29
def r6_30 : List PO := [⟨(some 4), (Op.assign (Operand.const (Value.bool false))), none⟩]
attribute [go_sem] r6_30
def r6_31 : List PO := [⟨(some 95), (Op.load 24 (Operand.tmp 2)), none⟩,
  ⟨(some 96), (Op.call { callee := (Callee.value (Operand.func 14)), args := #[(Operand.tmp 95)], argTypes := #[24] }), none⟩,
  ⟨(some 97), (Op.load 24 (Operand.tmp 3)), none⟩,
  ⟨(some 98), (Op.call { callee := (Callee.value (Operand.func 14)), args := #[(Operand.tmp 97)], argTypes := #[24] }), none⟩,
  ⟨(some 99), (Op.call { callee := (Callee.value (Operand.func 22)), args := #[(Operand.tmp 96), (Operand.tmp 98)], argTypes := #[27, 27] }), none⟩,
  ⟨(some 94), (Op.move (Operand.tmp 99)), none⟩,
  ⟨(some 100), (Op.extract (Operand.tmp 94) 0), none⟩,
  ⟨(some 101), (Op.extract (Operand.tmp 94) 1), none⟩,
  ⟨(some 15), (Op.alloc 27), none⟩,
  ⟨none, (Op.store 27 (Operand.tmp 15) (Operand.tmp 100)), none⟩,
  ⟨(some 16), (Op.assign (Operand.tmp 101)), none⟩]
attribute [go_sem] r6_31
def x6_31 : FxI := ⟨[1, 3, 4, 8, 9], [none, none, none, none, none, none, none, none, some 0, none, none], 1, [[], [1], [1, 3], [1, 3, 4], [1, 3, 4, 8], [1, 3, 4, 8, 9], [8], [1, 8], [1, 3, 8]], [(0, 8), (1, 8), (2, 8)], [(0, 6, 6), (1, 6, 7), (2, 0, 0), (2, 6, 6), (2, 7, 7), (3, 7, 8), (4, 8, 4), (8, 0, 6), (8, 1, 7), (8, 2, 8)]⟩
attribute [go_sem] x6_31
def r6_33 : List PO := [⟨(some 4), (Op.assign (Operand.const (Value.bool false))), none⟩]
attribute [go_sem] r6_33
def r6_34 : List PO := [⟨(some 14), (Op.assign (Operand.const (Value.int IntKind.i64 1))), none⟩]
attribute [go_sem] r6_34
def r6_35 : List PO := [⟨(some 111), (Op.load 27 (Operand.tmp 10)), none⟩,
  ⟨(some 112), (Op.move (Operand.tmp 14)), none⟩,
  ⟨(some 113), (Op.call { callee := (Callee.value (Operand.func 24)), args := #[(Operand.tmp 111), (Operand.tmp 112)], argTypes := #[27, 3] }), none⟩,
  ⟨(some 14), (Op.assign (Operand.tmp 113)), none⟩]
attribute [go_sem] r6_35
def r6_36 : List PO := [⟨(some 114), (Op.move (Operand.tmp 14)), none⟩,
  ⟨(some 115), (Op.binOp BinOp.lss 3 (Operand.tmp 114) (Operand.const (Value.int IntKind.i64 0)) 3), none⟩]
attribute [go_sem] r6_36
def r6_38 : List PO := [⟨(some 116), (Op.move (Operand.tmp 14)), none⟩,
  ⟨(some 117), (Op.move (Operand.tmp 13)), none⟩,
  ⟨(some 118), (Op.binOp BinOp.neq 3 (Operand.tmp 116) (Operand.tmp 117) 3), none⟩]
attribute [go_sem] r6_38
def r6_40 : List PO := [⟨(some 4), (Op.assign (Operand.const (Value.bool true))), none⟩]
attribute [go_sem] r6_40
def c6 : PC := (.seq (.reg r6_0) (.seq (.reg r6_1) (.seq (.reg r6_2) (.seq (.seq (.reg r6_3) (.cond (Operand.tmp 21) (.seq (.reg r6_4) .ret) .skip)) (.seq (.reg r6_5) (.seq (.seq (.reg r6_6) (.cond (Operand.tmp 26) (.seq (.reg r6_7) .ret) .skip)) (.seq (.fx r6_8 x6_8) (.seq (.reg r6_9) (.seq (.reg r6_10) (.seq (.reg r6_11) (.seq (.seq (.pre ⟨[2, 3, 6, 7, 8, 9, 10, 11], [.old 0, .old 1, .old 2, .old 5, .old 7, .old 6, .old 9, .old 8, .old 11, .old 10], []⟩ k6_1) (.cond (Operand.tmp 53) (.seq (.reg r6_13) .ret) .skip)) (.seq (.seq (.fz r6_14) (.cond (Operand.tmp 58) (.seq (.reg r6_15) .ret) .skip)) (.seq (.seq (.fz r6_16) (.cond (Operand.tmp 63) (.seq (.reg r6_17) .ret) .skip)) (.seq (.reg r6_18) (.seq (.reg r6_19) (.seq (.reg r6_20) (.seq (.seq (.pre ⟨[2, 3, 6, 7, 10, 11, 12], [.old 0, .old 1, .old 2, .old 3, .old 8, .old 9], []⟩ k6_2) (.cond (Operand.tmp 82) (.seq (.reg r6_22) .ret) .skip)) (.seq (.reg r6_23) (.seq (.reg r6_24) (.seq (.reg r6_25) (.seq (.reg r6_26) (.seq (.seq (.reg r6_27) (.cond (Operand.tmp 90) (.seq (.reg r6_28) .ret) .skip)) (.seq (.seq (.reg r6_29) (.cond (Operand.tmp 93) (.seq (.reg r6_30) .ret) .skip)) (.seq (.fx r6_31 x6_31) (.seq (.seq (.pre ⟨[6, 7, 10, 13, 15, 16], [.old 2, .old 3, .old 4, .old 5, .old 6, .old 9], []⟩ k6_3) (.cond (Operand.tmp 110) (.seq (.reg r6_33) .ret) .skip)) (.seq (.reg r6_34) (.seq (.reg r6_35) (.seq (.seq (.reg r6_36) (.cond (Operand.tmp 115) .bad .skip)) (.seq (.seq (.reg r6_38) (.cond (Operand.tmp 118) .bad .skip)) (.seq (.reg r6_40) .ret))))))))))))))))))))))))))))))
def i6 : FnI := ⟨119, [(ResultVar.tmp 4)], c6, 0, [[0, 1], [0, 1]], [[0]], false, false, 0, true⟩
def tys : List (Nat × TyI) := [(3, ⟨1, 8, false, [.int .i64 0], [0], 0, [], .int .i64, false⟩),
  (4, ⟨1, 1, false, [.bool false], [0], 0, [], .bool, false⟩),
  (22, ⟨1, 24, false, [.nil], [1], 38, [], .other, false⟩),
  (24, ⟨2, 32, true, [.int .i64 0, .nil], [0, 1], 0, [(0, 1, false), (1, 1, false)], .other, false⟩),
  (27, ⟨2, 32, true, [.int .i64 0, .nil], [0, 1], 0, [(0, 1, false), (1, 1, false)], .other, false⟩),
  (38, ⟨1, 24, false, [.nil], [1], 3, [], .other, false⟩)]
def fns : List (Nat × FnI) := [(6, i6), (12, i12), (13, i13), (14, i14), (15, i15), (16, i16), (21, i21), (22, i22), (23, i23), (24, i24), (28, i28), (31, i31), (35, i35), (36, i36), (44, i44), (45, i45), (46, i46), (47, i47), (48, i48), (49, i49), (50, i50), (51, i51), (52, i52), (53, i53), (54, i54), (57, i57), (58, i58), (76, i76), (77, i77), (78, i78)]
def T : Tab := mkTab tys fns
theorem soft0 : T.soft = false := rfl
theorem ty3 : T.ty 3 = some ⟨1, 8, false, [.int .i64 0], [0], 0, [], .int .i64, false⟩ := rfl
theorem base3 : T.baseOf 3 = Bs.int .i64 := rfl
theorem ty4 : T.ty 4 = some ⟨1, 1, false, [.bool false], [0], 0, [], .bool, false⟩ := rfl
theorem base4 : T.baseOf 4 = Bs.bool := rfl
theorem ty22 : T.ty 22 = some ⟨1, 24, false, [.nil], [1], 38, [], .other, false⟩ := rfl
theorem base22 : T.baseOf 22 = Bs.other := rfl
theorem elem22 : T.elemOf 22 = some ⟨1, 24, false, [.nil], [1], 3, [], .other, false⟩ := rfl
theorem ty24 : T.ty 24 = some ⟨2, 32, true, [.int .i64 0, .nil], [0, 1], 0, [(0, 1, false), (1, 1, false)], .other, false⟩ := rfl
theorem base24 : T.baseOf 24 = Bs.other := rfl
theorem ty27 : T.ty 27 = some ⟨2, 32, true, [.int .i64 0, .nil], [0, 1], 0, [(0, 1, false), (1, 1, false)], .other, false⟩ := rfl
theorem base27 : T.baseOf 27 = Bs.other := rfl
theorem ty38 : T.ty 38 = some ⟨1, 24, false, [.nil], [1], 3, [], .other, false⟩ := rfl
theorem base38 : T.baseOf 38 = Bs.other := rfl
theorem elem38 : T.elemOf 38 = some ⟨1, 8, false, [.int .i64 0], [0], 0, [], .int .i64, false⟩ := rfl
attribute [go_sem] soft0 ty3 base3 ty4 base4 ty22 base22 elem22 ty24 base24 ty27 base27 ty38 base38 elem38
theorem ok6 : FnOk Try.prog (6, i6) := ⟨Try.f6, _, Try.func6, rfl, by kernel_rfl, rfl, rfl, by kernel_rfl⟩
theorem ok12 : FnOk Try.prog (12, i12) := ⟨Try.f12, _, Try.func12, rfl, by kernel_rfl, rfl, rfl, by kernel_rfl⟩
theorem ok13 : FnOk Try.prog (13, i13) := ⟨Try.f13, _, Try.func13, rfl, by kernel_rfl, rfl, rfl, by kernel_rfl⟩
theorem ok14 : FnOk Try.prog (14, i14) := ⟨Try.f14, _, Try.func14, rfl, by kernel_rfl, rfl, rfl, by kernel_rfl⟩
theorem ok15 : FnOk Try.prog (15, i15) := ⟨Try.f15, _, Try.func15, rfl, by kernel_rfl, rfl, rfl, by kernel_rfl⟩
theorem ok16 : FnOk Try.prog (16, i16) := ⟨Try.f16, _, Try.func16, rfl, by kernel_rfl, rfl, rfl, by kernel_rfl⟩
theorem ok21 : FnOk Try.prog (21, i21) := ⟨Try.f21, _, Try.func21, rfl, by kernel_rfl, rfl, rfl, by kernel_rfl⟩
theorem ok22 : FnOk Try.prog (22, i22) := ⟨Try.f22, _, Try.func22, rfl, by kernel_rfl, rfl, rfl, by kernel_rfl⟩
theorem ok23 : FnOk Try.prog (23, i23) := ⟨Try.f23, _, Try.func23, rfl, by kernel_rfl, rfl, rfl, by kernel_rfl⟩
theorem ok24 : FnOk Try.prog (24, i24) := ⟨Try.f24, _, Try.func24, rfl, by kernel_rfl, rfl, rfl, by kernel_rfl⟩
theorem ok28 : FnOk Try.prog (28, i28) := ⟨Try.f28, _, Try.func28, rfl, by kernel_rfl, rfl, rfl, by kernel_rfl⟩
theorem ok31 : FnOk Try.prog (31, i31) := ⟨Try.f31, _, Try.func31, rfl, by kernel_rfl, rfl, rfl, by kernel_rfl⟩
theorem ok35 : FnOk Try.prog (35, i35) := ⟨Try.f35, _, Try.func35, rfl, by kernel_rfl, rfl, rfl, by kernel_rfl⟩
theorem ok36 : FnOk Try.prog (36, i36) := ⟨Try.f36, _, Try.func36, rfl, by kernel_rfl, rfl, rfl, by kernel_rfl⟩
theorem ok44 : FnOk Try.prog (44, i44) := ⟨Try.f44, _, Try.func44, rfl, by kernel_rfl, rfl, rfl, by kernel_rfl⟩
theorem ok45 : FnOk Try.prog (45, i45) := ⟨Try.f45, _, Try.func45, rfl, by kernel_rfl, rfl, rfl, by kernel_rfl⟩
theorem ok46 : FnOk Try.prog (46, i46) := ⟨Try.f46, _, Try.func46, rfl, by kernel_rfl, rfl, rfl, by kernel_rfl⟩
theorem ok47 : FnOk Try.prog (47, i47) := ⟨Try.f47, _, Try.func47, rfl, by kernel_rfl, rfl, rfl, by kernel_rfl⟩
theorem ok48 : FnOk Try.prog (48, i48) := ⟨Try.f48, _, Try.func48, rfl, by kernel_rfl, rfl, rfl, by kernel_rfl⟩
theorem ok49 : FnOk Try.prog (49, i49) := ⟨Try.f49, _, Try.func49, rfl, by kernel_rfl, rfl, rfl, by kernel_rfl⟩
theorem ok50 : FnOk Try.prog (50, i50) := ⟨Try.f50, _, Try.func50, rfl, by kernel_rfl, rfl, rfl, by kernel_rfl⟩
theorem ok51 : FnOk Try.prog (51, i51) := ⟨Try.f51, _, Try.func51, rfl, by kernel_rfl, rfl, rfl, by kernel_rfl⟩
theorem ok52 : FnOk Try.prog (52, i52) := ⟨Try.f52, _, Try.func52, rfl, by kernel_rfl, rfl, rfl, by kernel_rfl⟩
theorem ok53 : FnOk Try.prog (53, i53) := ⟨Try.f53, _, Try.func53, rfl, by kernel_rfl, rfl, rfl, by kernel_rfl⟩
theorem ok54 : FnOk Try.prog (54, i54) := ⟨Try.f54, _, Try.func54, rfl, by kernel_rfl, rfl, rfl, by kernel_rfl⟩
theorem ok57 : FnOk Try.prog (57, i57) := ⟨Try.f57, _, Try.func57, rfl, by kernel_rfl, rfl, rfl, by kernel_rfl⟩
theorem ok58 : FnOk Try.prog (58, i58) := ⟨Try.f58, _, Try.func58, rfl, by kernel_rfl, rfl, rfl, by kernel_rfl⟩
theorem ok76 : FnOk Try.prog (76, i76) := ⟨Try.f76, _, Try.func76, rfl, by kernel_rfl, rfl, rfl, by kernel_rfl⟩
theorem ok77 : FnOk Try.prog (77, i77) := ⟨Try.f77, _, Try.func77, rfl, by kernel_rfl, rfl, rfl, by kernel_rfl⟩
theorem ok78 : FnOk Try.prog (78, i78) := ⟨Try.f78, _, Try.func78, rfl, by kernel_rfl, rfl, rfl, by kernel_rfl⟩
theorem tab : TabOk Try.prog T := tabOk_of (by kernel_rfl) (.cons ok6 (.cons ok12 (.cons ok13 (.cons ok14 (.cons ok15 (.cons ok16 (.cons ok21 (.cons ok22 (.cons ok23 (.cons ok24 (.cons ok28 (.cons ok31 (.cons ok35 (.cons ok36 (.cons ok44 (.cons ok45 (.cons ok46 (.cons ok47 (.cons ok48 (.cons ok49 (.cons ok50 (.cons ok51 (.cons ok52 (.cons ok53 (.cons ok54 (.cons ok57 (.cons ok58 (.cons ok76 (.cons ok77 (.cons ok78 (.nil)))))))))))))))))))))))))))))))
theorem fn6 : T.fn 6 = some i6 := rfl
theorem fn12 : T.fn 12 = some i12 := rfl
theorem fn13 : T.fn 13 = some i13 := rfl
theorem fn14 : T.fn 14 = some i14 := rfl
theorem fn15 : T.fn 15 = some i15 := rfl
theorem fn16 : T.fn 16 = some i16 := rfl
theorem fn21 : T.fn 21 = some i21 := rfl
theorem fn22 : T.fn 22 = some i22 := rfl
theorem fn23 : T.fn 23 = some i23 := rfl
theorem fn24 : T.fn 24 = some i24 := rfl
theorem fn28 : T.fn 28 = some i28 := rfl
theorem fn31 : T.fn 31 = some i31 := rfl
theorem fn35 : T.fn 35 = some i35 := rfl
theorem fn36 : T.fn 36 = some i36 := rfl
theorem fn44 : T.fn 44 = some i44 := rfl
theorem fn45 : T.fn 45 = some i45 := rfl
theorem fn46 : T.fn 46 = some i46 := rfl
theorem fn47 : T.fn 47 = some i47 := rfl
theorem fn48 : T.fn 48 = some i48 := rfl
theorem fn49 : T.fn 49 = some i49 := rfl
theorem fn50 : T.fn 50 = some i50 := rfl
theorem fn51 : T.fn 51 = some i51 := rfl
theorem fn52 : T.fn 52 = some i52 := rfl
theorem fn53 : T.fn 53 = some i53 := rfl
theorem fn54 : T.fn 54 = some i54 := rfl
theorem fn57 : T.fn 57 = some i57 := rfl
theorem fn58 : T.fn 58 = some i58 := rfl
theorem fn76 : T.fn 76 = some i76 := rfl
theorem fn77 : T.fn 77 = some i77 := rfl
theorem fn78 : T.fn 78 = some i78 := rfl
theorem fns6 : (T.at true).fn 6 = some i6 := rfl
theorem fns12 : (T.at true).fn 12 = some i12 := rfl
theorem fns13 : (T.at true).fn 13 = some i13 := rfl
theorem fns14 : (T.at true).fn 14 = some i14 := rfl
theorem fns15 : (T.at true).fn 15 = some i15 := rfl
theorem fns16 : (T.at true).fn 16 = some i16 := rfl
theorem fns21 : (T.at true).fn 21 = some i21 := rfl
theorem fns22 : (T.at true).fn 22 = some i22 := rfl
theorem fns23 : (T.at true).fn 23 = some i23 := rfl
theorem fns24 : (T.at true).fn 24 = some i24 := rfl
theorem fns28 : (T.at true).fn 28 = some i28 := rfl
theorem fns31 : (T.at true).fn 31 = some i31 := rfl
theorem fns35 : (T.at true).fn 35 = some i35 := rfl
theorem fns36 : (T.at true).fn 36 = some i36 := rfl
theorem fns44 : (T.at true).fn 44 = some i44 := rfl
theorem fns45 : (T.at true).fn 45 = some i45 := rfl
theorem fns46 : (T.at true).fn 46 = some i46 := rfl
theorem fns47 : (T.at true).fn 47 = some i47 := rfl
theorem fns48 : (T.at true).fn 48 = some i48 := rfl
theorem fns49 : (T.at true).fn 49 = some i49 := rfl
theorem fns50 : (T.at true).fn 50 = some i50 := rfl
theorem fns51 : (T.at true).fn 51 = some i51 := rfl
theorem fns52 : (T.at true).fn 52 = some i52 := rfl
theorem fns53 : (T.at true).fn 53 = some i53 := rfl
theorem fns54 : (T.at true).fn 54 = some i54 := rfl
theorem fns57 : (T.at true).fn 57 = some i57 := rfl
theorem fns58 : (T.at true).fn 58 = some i58 := rfl
theorem fns76 : (T.at true).fn 76 = some i76 := rfl
theorem fns77 : (T.at true).fn 77 = some i77 := rfl
theorem fns78 : (T.at true).fn 78 = some i78 := rfl
end Go.Pi.Ytbohlpligkfkiaa.LexOf
