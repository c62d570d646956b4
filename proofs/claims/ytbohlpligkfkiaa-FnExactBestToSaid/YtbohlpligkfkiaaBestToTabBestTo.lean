/- What functions of the program answer, and that the law answers true at every input; no condition -/
import Derived.Test.YtbohlpligkfkiaaProg
import Derived.Test.YtbohlpligkfkiaaPiD
set_option linter.all false
/- The program's tables for Pi: types and functions, as they stand in the loaded program, with hints. -/
namespace Go.Pi.Ytbohlpligkfkiaa.BestTo
open Go Go.Proofs Go.Pi
set_option maxRecDepth 100000

-- loop.example/g00344/laws.szIntS
def r76_0 : List PO := [⟨(some 4), (Op.assign (Operand.const (Value.int IntKind.i64 0))), none⟩]
attribute [go_sem] r76_0
def r76_1 : List PO := [⟨(some 5), (Op.move (Operand.tmp 1)), none⟩,
  ⟨(some 6), (Op.move (Operand.tmp 0)), none⟩,
  ⟨(some 7), (Op.call { callee := (Callee.builtin Builtin.len), args := #[(Operand.tmp 6)], argTypes := #[38] }), none⟩,
  ⟨(some 8), (Op.binOp BinOp.sub 3 (Operand.tmp 5) (Operand.tmp 7) 3), none⟩,
  ⟨(some 1), (Op.assign (Operand.tmp 8)), none⟩]
attribute [go_sem] r76_1
def r76_2 : List PO := [⟨(some 9), (Op.move (Operand.tmp 1)), none⟩,
  ⟨(some 10), (Op.binOp BinOp.lss 3 (Operand.tmp 9) (Operand.const (Value.int IntKind.i64 0)) 3), none⟩]
attribute [go_sem] r76_2
def r76_3 : List PO := [⟨(some 4), (Op.assign (Operand.const (Value.int IntKind.i64 (-1)))), none⟩]
attribute [go_sem] r76_3
def r76_4 : List PO := [⟨(some 11), (Op.move (Operand.tmp 1)), none⟩,
  ⟨(some 4), (Op.assign (Operand.tmp 11)), none⟩]
attribute [go_sem] r76_4
def c76 : PC := (.seq (.reg r76_0) (.seq (.reg r76_1) (.seq (.seq (.reg r76_2) (.cond (Operand.tmp 10) (.seq (.reg r76_3) .ret) .skip)) (.seq (.reg r76_4) .ret))))
def i76 : FnI := ⟨12, [(ResultVar.tmp 4)], c76, 0, [[1], [0]], [[0]], false, false, 0, false⟩
-- loop.example/g00344/laws.szIntSS
def r44_5 : List PO := [⟨(some 12), (Op.move (Operand.tmp 5)), none⟩,
  ⟨(some 13), (Op.move (Operand.tmp 0)), none⟩,
  ⟨(some 14), (Op.call { callee := (Callee.builtin Builtin.len), args := #[(Operand.tmp 13)], argTypes := #[22] }), none⟩,
  ⟨(some 15), (Op.binOp BinOp.lss 3 (Operand.tmp 12) (Operand.tmp 14) 3), none⟩]
attribute [go_sem] r44_5
def r44_7 : List PO := [⟨(some 18), (Op.move (Operand.tmp 0)), none⟩,
  ⟨(some 19), (Op.move (Operand.tmp 5)), none⟩,
  ⟨(some 20), (Op.indexAddr 22 (Operand.tmp 18) (Operand.tmp 19)), none⟩,
  ⟨(some 21), (Op.load 38 (Operand.tmp 20)), none⟩,
  ⟨(some 22), (Op.move (Operand.tmp 1)), none⟩,
  ⟨(some 23), (Op.call { callee := (Callee.value (Operand.func 76)), args := #[(Operand.tmp 21), (Operand.tmp 22)], argTypes := #[38, 3] }), none⟩,
  ⟨(some 1), (Op.assign (Operand.tmp 23)), none⟩]
attribute [go_sem] r44_7
def r44_8 : List PO := [⟨(some 24), (Op.move (Operand.tmp 1)), none⟩,
  ⟨(some 25), (Op.binOp BinOp.lss 3 (Operand.tmp 24) (Operand.const (Value.int IntKind.i64 0)) 3), none⟩]
attribute [go_sem] r44_8
def r44_9 : List PO := [⟨(some 4), (Op.assign (Operand.const (Value.int IntKind.i64 (-1)))), none⟩]
attribute [go_sem] r44_9
def r44_6 : List PO := [⟨(some 16), (Op.move (Operand.tmp 5)), none⟩,
  ⟨(some 17), (Op.binOp BinOp.add 3 (Operand.tmp 16) (Operand.const (Value.int IntKind.i64 1)) 3), none⟩,
  ⟨(some 5), (Op.assign (Operand.tmp 17)), none⟩]
attribute [go_sem] r44_6
def k44_1b : PC := (.seq (.seq (.reg r44_5) (.cond (Operand.tmp 15) .skip (.pre ⟨[1], [], []⟩ (.exit 0)))) (.seq (.block 1 (.seq (.reg r44_7) (.seq (.reg r44_8) (.cond (Operand.tmp 25) (.seq (.reg r44_9) (.pre ⟨[4], [], []⟩ .ret)) .skip)))) (.post (.reg r44_6) ⟨[0, 1, 5], [], []⟩)))
def r44_0 : List PO := [⟨(some 4), (Op.assign (Operand.const (Value.int IntKind.i64 0))), none⟩]
attribute [go_sem] r44_0
def r44_1 : List PO := [⟨(some 6), (Op.move (Operand.tmp 1)), none⟩,
  ⟨(some 7), (Op.move (Operand.tmp 0)), none⟩,
  ⟨(some 8), (Op.call { callee := (Callee.builtin Builtin.len), args := #[(Operand.tmp 7)], argTypes := #[22] }), none⟩,
  ⟨(some 9), (Op.binOp BinOp.sub 3 (Operand.tmp 6) (Operand.tmp 8) 3), none⟩,
  ⟨(some 1), (Op.assign (Operand.tmp 9)), none⟩]
attribute [go_sem] r44_1
def r44_2 : List PO := [⟨(some 10), (Op.move (Operand.tmp 1)), none⟩,
  ⟨(some 11), (Op.binOp BinOp.lss 3 (Operand.tmp 10) (Operand.const (Value.int IntKind.i64 0)) 3), none⟩]
attribute [go_sem] r44_2
def r44_3 : List PO := [⟨(some 4), (Op.assign (Operand.const (Value.int IntKind.i64 (-1)))), none⟩]
attribute [go_sem] r44_3
def r44_4 : List PO := [⟨(some 5), (Op.assign (Operand.const (Value.int IntKind.i64 0))), none⟩]
attribute [go_sem] r44_4
def r44_10 : List PO := [⟨(some 26), (Op.move (Operand.tmp 1)), none⟩,
  ⟨(some 4), (Op.assign (Operand.tmp 26)), none⟩]
attribute [go_sem] r44_10
def c44 : PC := (.seq (.reg r44_0) (.seq (.reg r44_1) (.seq (.seq (.reg r44_2) (.cond (Operand.tmp 11) (.seq (.reg r44_3) .ret) .skip)) (.seq (.seq (.reg r44_4) (.block 0 (.pre ⟨[0, 1, 5], [], []⟩ (.loop k44_1b)))) (.seq (.reg r44_10) .ret)))))
def i44 : FnI := ⟨27, [(ResultVar.tmp 4)], c44, 0, [[1], [0]], [[0]], false, false, 0, false⟩
-- loop.example/g00344/laws.szAlgebra
def r12_0 : List PO := [⟨(some 2), (Op.box 24 (Operand.tmp 0)), none⟩,
  ⟨(some 4), (Op.assign (Operand.const (Value.int IntKind.i64 0))), none⟩]
attribute [go_sem] r12_0
def r12_1 : List PO := [⟨(some 5), (Op.fieldAddr 24 (Operand.tmp 2) 1), none⟩,
  ⟨(some 6), (Op.load 22 (Operand.tmp 5)), none⟩,
  ⟨(some 7), (Op.move (Operand.tmp 1)), none⟩,
  ⟨(some 8), (Op.call { callee := (Callee.value (Operand.func 44)), args := #[(Operand.tmp 6), (Operand.tmp 7)], argTypes := #[22, 3] }), none⟩,
  ⟨(some 1), (Op.assign (Operand.tmp 8)), none⟩]
attribute [go_sem] r12_1
def r12_2 : List PO := [⟨(some 9), (Op.move (Operand.tmp 1)), none⟩,
  ⟨(some 10), (Op.binOp BinOp.lss 3 (Operand.tmp 9) (Operand.const (Value.int IntKind.i64 0)) 3), none⟩]
attribute [go_sem] r12_2
def r12_3 : List PO := [⟨(some 4), (Op.assign (Operand.const (Value.int IntKind.i64 (-1)))), none⟩]
attribute [go_sem] r12_3
def r12_4 : List PO := [⟨(some 11), (Op.move (Operand.tmp 1)), none⟩,
  ⟨(some 4), (Op.assign (Operand.tmp 11)), none⟩]
attribute [go_sem] r12_4
def c12 : PC := (.seq (.reg r12_0) (.seq (.reg r12_1) (.seq (.seq (.reg r12_2) (.cond (Operand.tmp 10) (.seq (.reg r12_3) .ret) .skip)) (.seq (.reg r12_4) .ret))))
def i12 : FnI := ⟨12, [(ResultVar.tmp 4)], c12, 0, [[0, 1], [0]], [[0]], false, false, 0, false⟩
-- loop.example/g00344/laws.szArcS
def r25_0 : List PO := [⟨(some 4), (Op.assign (Operand.const (Value.int IntKind.i64 0))), none⟩]
attribute [go_sem] r25_0
def r25_1 : List PO := [⟨(some 5), (Op.move (Operand.tmp 1)), none⟩,
  ⟨(some 6), (Op.move (Operand.tmp 0)), none⟩,
  ⟨(some 7), (Op.call { callee := (Callee.builtin Builtin.len), args := #[(Operand.tmp 6)], argTypes := #[37] }), none⟩,
  ⟨(some 8), (Op.binOp BinOp.sub 3 (Operand.tmp 5) (Operand.tmp 7) 3), none⟩,
  ⟨(some 1), (Op.assign (Operand.tmp 8)), none⟩]
attribute [go_sem] r25_1
def r25_2 : List PO := [⟨(some 9), (Op.move (Operand.tmp 1)), none⟩,
  ⟨(some 10), (Op.binOp BinOp.lss 3 (Operand.tmp 9) (Operand.const (Value.int IntKind.i64 0)) 3), none⟩]
attribute [go_sem] r25_2
def r25_3 : List PO := [⟨(some 4), (Op.assign (Operand.const (Value.int IntKind.i64 (-1)))), none⟩]
attribute [go_sem] r25_3
def r25_4 : List PO := [⟨(some 11), (Op.move (Operand.tmp 1)), none⟩,
  ⟨(some 4), (Op.assign (Operand.tmp 11)), none⟩]
attribute [go_sem] r25_4
def c25 : PC := (.seq (.reg r25_0) (.seq (.reg r25_1) (.seq (.seq (.reg r25_2) (.cond (Operand.tmp 10) (.seq (.reg r25_3) .ret) .skip)) (.seq (.reg r25_4) .ret))))
def i25 : FnI := ⟨12, [(ResultVar.tmp 4)], c25, 0, [[3], [0]], [[0]], false, false, 0, false⟩
-- loop.example/g00344/laws.toIntS
def r28_3 : List PO := [⟨(some 8), (Op.move (Operand.tmp 4)), none⟩,
  ⟨(some 9), (Op.move (Operand.tmp 0)), none⟩,
  ⟨(some 10), (Op.call { callee := (Callee.builtin Builtin.len), args := #[(Operand.tmp 9)], argTypes := #[38] }), none⟩,
  ⟨(some 11), (Op.binOp BinOp.lss 3 (Operand.tmp 8) (Operand.tmp 10) 3), none⟩]
attribute [go_sem] r28_3
def r28_5 : List PO := [⟨(some 14), (Op.move (Operand.tmp 3)), none⟩,
  ⟨(some 15), (Op.move (Operand.tmp 4)), none⟩,
  ⟨(some 16), (Op.move (Operand.tmp 0)), none⟩,
  ⟨(some 17), (Op.move (Operand.tmp 4)), none⟩,
  ⟨(some 18), (Op.indexAddr 38 (Operand.tmp 16) (Operand.tmp 17)), none⟩,
  ⟨(some 19), (Op.load 3 (Operand.tmp 18)), none⟩,
  ⟨(some 20), (Op.indexAddr 38 (Operand.tmp 14) (Operand.tmp 15)), none⟩,
  ⟨none, (Op.store 3 (Operand.tmp 20) (Operand.tmp 19)), none⟩]
attribute [go_sem] r28_5
def r28_4 : List PO := [⟨(some 12), (Op.move (Operand.tmp 4)), none⟩,
  ⟨(some 13), (Op.binOp BinOp.add 3 (Operand.tmp 12) (Operand.const (Value.int IntKind.i64 1)) 3), none⟩,
  ⟨(some 4), (Op.assign (Operand.tmp 13)), none⟩]
attribute [go_sem] r28_4
def k28_1b : PC := (.seq (.seq (.reg r28_3) (.cond (Operand.tmp 11) .skip (.pre ⟨[3], [.old 0], []⟩ (.exit 0)))) (.seq (.block 1 (.reg r28_5)) (.post (.reg r28_4) ⟨[0, 3, 4], [.old 0], []⟩)))
def r28_0 : List PO := [⟨(some 2), (Op.assign (Operand.const (Value.slice none 0 0))), none⟩]
attribute [go_sem] r28_0
def r28_1 : List PO := [⟨(some 5), (Op.move (Operand.tmp 0)), none⟩,
  ⟨(some 6), (Op.call { callee := (Callee.builtin Builtin.len), args := #[(Operand.tmp 5)], argTypes := #[38] }), none⟩,
  ⟨(some 7), (Op.makeSlice 38 (Operand.tmp 6) (Operand.tmp 6)), none⟩,
  ⟨(some 3), (Op.assign (Operand.tmp 7)), none⟩]
attribute [go_sem] r28_1
def r28_2 : List PO := [⟨(some 4), (Op.assign (Operand.const (Value.int IntKind.i64 0))), none⟩]
attribute [go_sem] r28_2
def r28_6 : List PO := [⟨(some 21), (Op.move (Operand.tmp 3)), none⟩,
  ⟨(some 2), (Op.assign (Operand.tmp 21)), none⟩]
attribute [go_sem] r28_6
def c28 : PC := (.seq (.reg r28_0) (.seq (.reg r28_1) (.seq (.seq (.reg r28_2) (.block 0 (.pre ⟨[0, 3, 4], [.old 0], []⟩ (.loop k28_1b)))) (.seq (.reg r28_6) .ret))))
def i28 : FnI := ⟨22, [(ResultVar.tmp 2)], c28, 0, [[1]], [[1]], false, false, 0, false⟩
-- loop.example/g00344/laws.toIntSS
def r47_3 : List PO := [⟨(some 8), (Op.move (Operand.tmp 4)), none⟩,
  ⟨(some 9), (Op.move (Operand.tmp 0)), none⟩,
  ⟨(some 10), (Op.call { callee := (Callee.builtin Builtin.len), args := #[(Operand.tmp 9)], argTypes := #[22] }), none⟩,
  ⟨(some 11), (Op.binOp BinOp.lss 3 (Operand.tmp 8) (Operand.tmp 10) 3), none⟩]
attribute [go_sem] r47_3
def r47_5 : List PO := [⟨(some 14), (Op.move (Operand.tmp 3)), none⟩,
  ⟨(some 15), (Op.move (Operand.tmp 4)), none⟩,
  ⟨(some 16), (Op.move (Operand.tmp 0)), none⟩,
  ⟨(some 17), (Op.move (Operand.tmp 4)), none⟩,
  ⟨(some 18), (Op.indexAddr 22 (Operand.tmp 16) (Operand.tmp 17)), none⟩,
  ⟨(some 19), (Op.load 38 (Operand.tmp 18)), none⟩,
  ⟨(some 20), (Op.call { callee := (Callee.value (Operand.func 28)), args := #[(Operand.tmp 19)], argTypes := #[38] }), none⟩,
  ⟨(some 21), (Op.indexAddr 22 (Operand.tmp 14) (Operand.tmp 15)), none⟩,
  ⟨none, (Op.store 38 (Operand.tmp 21) (Operand.tmp 20)), none⟩]
attribute [go_sem] r47_5
def r47_4 : List PO := [⟨(some 12), (Op.move (Operand.tmp 4)), none⟩,
  ⟨(some 13), (Op.binOp BinOp.add 3 (Operand.tmp 12) (Operand.const (Value.int IntKind.i64 1)) 3), none⟩,
  ⟨(some 4), (Op.assign (Operand.tmp 13)), none⟩]
attribute [go_sem] r47_4
def k47_1b : PC := (.seq (.seq (.reg r47_3) (.cond (Operand.tmp 11) .skip (.pre ⟨[3], [.old 0], []⟩ (.exit 0)))) (.seq (.block 1 (.reg r47_5)) (.post (.reg r47_4) ⟨[0, 3, 4], [.old 0], []⟩)))
def r47_0 : List PO := [⟨(some 2), (Op.assign (Operand.const (Value.slice none 0 0))), none⟩]
attribute [go_sem] r47_0
def r47_1 : List PO := [⟨(some 5), (Op.move (Operand.tmp 0)), none⟩,
  ⟨(some 6), (Op.call { callee := (Callee.builtin Builtin.len), args := #[(Operand.tmp 5)], argTypes := #[22] }), none⟩,
  ⟨(some 7), (Op.makeSlice 22 (Operand.tmp 6) (Operand.tmp 6)), none⟩,
  ⟨(some 3), (Op.assign (Operand.tmp 7)), none⟩]
attribute [go_sem] r47_1
def r47_2 : List PO := [⟨(some 4), (Op.assign (Operand.const (Value.int IntKind.i64 0))), none⟩]
attribute [go_sem] r47_2
def r47_6 : List PO := [⟨(some 22), (Op.move (Operand.tmp 3)), none⟩,
  ⟨(some 2), (Op.assign (Operand.tmp 22)), none⟩]
attribute [go_sem] r47_6
def c47 : PC := (.seq (.reg r47_0) (.seq (.reg r47_1) (.seq (.seq (.reg r47_2) (.block 0 (.pre ⟨[0, 3, 4], [.old 0], []⟩ (.loop k47_1b)))) (.seq (.reg r47_6) .ret))))
def i47 : FnI := ⟨23, [(ResultVar.tmp 2)], c47, 0, [[1]], [[1]], false, false, 0, false⟩
-- loop.example/g00344/laws.toAlgebra
def r14_0 : List PO := [⟨(some 1), (Op.box 24 (Operand.tmp 0)), none⟩,
  ⟨(some 2), (Op.alloc 27), none⟩]
attribute [go_sem] r14_0
def r14_1 : List PO := [⟨(some 3), (Op.alloc 27), none⟩]
attribute [go_sem] r14_1
def r14_2 : List PO := [⟨(some 4), (Op.fieldAddr 24 (Operand.tmp 1) 0), none⟩,
  ⟨(some 5), (Op.load 3 (Operand.tmp 4)), none⟩,
  ⟨(some 6), (Op.fieldAddr 27 (Operand.tmp 3) 0), none⟩,
  ⟨none, (Op.store 3 (Operand.tmp 6) (Operand.tmp 5)), none⟩]
attribute [go_sem] r14_2
def r14_3 : List PO := [⟨(some 7), (Op.fieldAddr 24 (Operand.tmp 1) 1), none⟩,
  ⟨(some 8), (Op.load 22 (Operand.tmp 7)), none⟩,
  ⟨(some 9), (Op.call { callee := (Callee.value (Operand.func 47)), args := #[(Operand.tmp 8)], argTypes := #[22] }), none⟩,
  ⟨(some 10), (Op.fieldAddr 27 (Operand.tmp 3) 1), none⟩,
  ⟨none, (Op.store 22 (Operand.tmp 10) (Operand.tmp 9)), none⟩]
attribute [go_sem] r14_3
def r14_4 : List PO := [⟨(some 11), (Op.load 27 (Operand.tmp 3)), none⟩,
  ⟨none, (Op.store 27 (Operand.tmp 2) (Operand.tmp 11)), none⟩]
attribute [go_sem] r14_4
def c14 : PC := (.seq (.reg r14_0) (.seq (.reg r14_1) (.seq (.reg r14_2) (.seq (.reg r14_3) (.seq (.reg r14_4) .ret)))))
def i14 : FnI := ⟨12, [(ResultVar.cell 2 27)], c14, 0, [[0, 1]], [[0, 1]], false, false, 0, false⟩
-- loop.example/g00344/laws.toArc
def r62_0 : List PO := [⟨(some 1), (Op.box 77 (Operand.tmp 0)), none⟩,
  ⟨(some 2), (Op.alloc 75), none⟩]
attribute [go_sem] r62_0
def r62_1 : List PO := [⟨(some 3), (Op.alloc 75), none⟩]
attribute [go_sem] r62_1
def r62_2 : List PO := [⟨(some 4), (Op.fieldAddr 77 (Operand.tmp 1) 0), none⟩,
  ⟨(some 5), (Op.load 3 (Operand.tmp 4)), none⟩,
  ⟨(some 6), (Op.fieldAddr 75 (Operand.tmp 3) 0), none⟩,
  ⟨none, (Op.store 3 (Operand.tmp 6) (Operand.tmp 5)), none⟩]
attribute [go_sem] r62_2
def r62_3 : List PO := [⟨(some 7), (Op.fieldAddr 77 (Operand.tmp 1) 1), none⟩,
  ⟨(some 8), (Op.load 3 (Operand.tmp 7)), none⟩,
  ⟨(some 9), (Op.fieldAddr 75 (Operand.tmp 3) 1), none⟩,
  ⟨none, (Op.store 3 (Operand.tmp 9) (Operand.tmp 8)), none⟩]
attribute [go_sem] r62_3
def r62_4 : List PO := [⟨(some 10), (Op.fieldAddr 77 (Operand.tmp 1) 2), none⟩,
  ⟨(some 11), (Op.load 3 (Operand.tmp 10)), none⟩,
  ⟨(some 12), (Op.fieldAddr 75 (Operand.tmp 3) 2), none⟩,
  ⟨none, (Op.store 3 (Operand.tmp 12) (Operand.tmp 11)), none⟩]
attribute [go_sem] r62_4
def r62_5 : List PO := [⟨(some 13), (Op.load 75 (Operand.tmp 3)), none⟩,
  ⟨none, (Op.store 75 (Operand.tmp 2) (Operand.tmp 13)), none⟩]
attribute [go_sem] r62_5
def c62 : PC := (.seq (.reg r62_0) (.seq (.reg r62_1) (.seq (.reg r62_2) (.seq (.reg r62_3) (.seq (.reg r62_4) (.seq (.reg r62_5) .ret))))))
def i62 : FnI := ⟨14, [(ResultVar.cell 2 75)], c62, 0, [[0, 0, 0]], [[0, 0, 0]], false, false, 0, false⟩
-- loop.example/g00344/laws.toArcS
def r27_3 : List PO := [⟨(some 8), (Op.move (Operand.tmp 4)), none⟩,
  ⟨(some 9), (Op.move (Operand.tmp 0)), none⟩,
  ⟨(some 10), (Op.call { callee := (Callee.builtin Builtin.len), args := #[(Operand.tmp 9)], argTypes := #[37] }), none⟩,
  ⟨(some 11), (Op.binOp BinOp.lss 3 (Operand.tmp 8) (Operand.tmp 10) 3), none⟩]
attribute [go_sem] r27_3
def r27_5 : List PO := [⟨(some 14), (Op.move (Operand.tmp 3)), none⟩,
  ⟨(some 15), (Op.move (Operand.tmp 4)), none⟩,
  ⟨(some 16), (Op.move (Operand.tmp 0)), none⟩,
  ⟨(some 17), (Op.move (Operand.tmp 4)), none⟩,
  ⟨(some 18), (Op.indexAddr 37 (Operand.tmp 16) (Operand.tmp 17)), none⟩,
  ⟨(some 19), (Op.load 77 (Operand.tmp 18)), none⟩,
  ⟨(some 20), (Op.call { callee := (Callee.value (Operand.func 62)), args := #[(Operand.tmp 19)], argTypes := #[77] }), none⟩,
  ⟨(some 21), (Op.indexAddr 42 (Operand.tmp 14) (Operand.tmp 15)), none⟩,
  ⟨none, (Op.store 75 (Operand.tmp 21) (Operand.tmp 20)), none⟩]
attribute [go_sem] r27_5
def r27_4 : List PO := [⟨(some 12), (Op.move (Operand.tmp 4)), none⟩,
  ⟨(some 13), (Op.binOp BinOp.add 3 (Operand.tmp 12) (Operand.const (Value.int IntKind.i64 1)) 3), none⟩,
  ⟨(some 4), (Op.assign (Operand.tmp 13)), none⟩]
attribute [go_sem] r27_4
def k27_1b : PC := (.seq (.seq (.reg r27_3) (.cond (Operand.tmp 11) .skip (.pre ⟨[3], [.old 0], []⟩ (.exit 0)))) (.seq (.block 1 (.reg r27_5)) (.post (.reg r27_4) ⟨[0, 3, 4], [.old 0], []⟩)))
def r27_0 : List PO := [⟨(some 2), (Op.assign (Operand.const (Value.slice none 0 0))), none⟩]
attribute [go_sem] r27_0
def r27_1 : List PO := [⟨(some 5), (Op.move (Operand.tmp 0)), none⟩,
  ⟨(some 6), (Op.call { callee := (Callee.builtin Builtin.len), args := #[(Operand.tmp 5)], argTypes := #[37] }), none⟩,
  ⟨(some 7), (Op.makeSlice 42 (Operand.tmp 6) (Operand.tmp 6)), none⟩,
  ⟨(some 3), (Op.assign (Operand.tmp 7)), none⟩]
attribute [go_sem] r27_1
def r27_2 : List PO := [⟨(some 4), (Op.assign (Operand.const (Value.int IntKind.i64 0))), none⟩]
attribute [go_sem] r27_2
def r27_6 : List PO := [⟨(some 22), (Op.move (Operand.tmp 3)), none⟩,
  ⟨(some 2), (Op.assign (Operand.tmp 22)), none⟩]
attribute [go_sem] r27_6
def c27 : PC := (.seq (.reg r27_0) (.seq (.reg r27_1) (.seq (.seq (.reg r27_2) (.block 0 (.pre ⟨[0, 3, 4], [.old 0], []⟩ (.loop k27_1b)))) (.seq (.reg r27_6) .ret))))
def i27 : FnI := ⟨23, [(ResultVar.tmp 2)], c27, 0, [[3]], [[3]], false, false, 0, false⟩
-- loop.example/g00344/spec.l1In
def r45_1 : List PO := [⟨(some 7), (Op.move (Operand.tmp 0)), none⟩,
  ⟨(some 8), (Op.move (Operand.tmp 1)), none⟩,
  ⟨(some 9), (Op.binOp BinOp.geq 3 (Operand.tmp 7) (Operand.tmp 8) 3), none⟩,
  ⟨(some 10), (Op.move (Operand.tmp 9)), none⟩,
  ⟨(some 11), (Op.move (Operand.tmp 0)), (some (10, true))⟩,
  ⟨(some 12), (Op.move (Operand.tmp 2)), (some (10, true))⟩,
  ⟨(some 13), (Op.binOp BinOp.leq 3 (Operand.tmp 11) (Operand.tmp 12) 3), (some (10, true))⟩,
  ⟨(some 14), (Op.pick (Operand.tmp 10) (Operand.tmp 13) (Operand.const (Value.bool false))), none⟩,
  ⟨(some 6), (Op.assign (Operand.tmp 14)), none⟩]
attribute [go_sem] r45_1
def k45_1 : PC := (.post (.reg r45_1) ⟨[6], [], []⟩)
def r45_0 : List PO := [⟨(some 6), (Op.assign (Operand.const (Value.bool false))), none⟩]
attribute [go_sem] r45_0
def c45 : PC := (.seq (.reg r45_0) (.seq (.pre ⟨[0, 1, 2], [], []⟩ k45_1) .ret))
def i45 : FnI := ⟨15, [(ResultVar.tmp 6)], c45, 0, [[0], [0], [0]], [[0]], false, false, 0, false⟩
-- loop.example/g00344/spec.l9Apply
def r46_4 : List PO := [⟨(some 13), (Op.move (Operand.tmp 6)), none⟩,
  ⟨(some 14), (Op.binOp BinOp.lss 3 (Operand.tmp 13) (Operand.const (Value.int IntKind.i64 0)) 3), none⟩,
  ⟨(some 15), (Op.move (Operand.tmp 14)), none⟩,
  ⟨(some 16), (Op.move (Operand.tmp 6)), (some (15, false))⟩,
  ⟨(some 17), (Op.move (Operand.tmp 1)), (some (15, false))⟩,
  ⟨(some 18), (Op.binOp BinOp.geq 3 (Operand.tmp 16) (Operand.tmp 17) 3), (some (15, false))⟩,
  ⟨(some 19), (Op.pick (Operand.tmp 15) (Operand.const (Value.bool true)) (Operand.tmp 18)), none⟩]
attribute [go_sem] r46_4
def k46_3 : PC := (.post (.reg r46_4) ⟨[0, 1, 7, 8, 9, 19], [], []⟩)
def r46_2 : List PO := [⟨(some 10), (Op.binOp BinOp.lss 3 (Operand.tmp 9) (Operand.tmp 8) 3), none⟩]
attribute [go_sem] r46_2
def r46_3 : List PO := [⟨(some 11), (Op.indexAddr 38 (Operand.tmp 7) (Operand.tmp 9)), none⟩,
  ⟨(some 12), (Op.load 3 (Operand.tmp 11)), none⟩,
  ⟨(some 6), (Op.assign (Operand.tmp 12)), none⟩]
attribute [go_sem] r46_3
def r46_5 : List PO := [⟨(some 4), (Op.assign (Operand.const (Value.bool false))), none⟩]
attribute [go_sem] r46_5
def r46_6 : List PO := [⟨(some 20), (Op.binOp BinOp.add 3 (Operand.tmp 9) (Operand.const (Value.int IntKind.i64 1)) 3), none⟩,
  ⟨(some 9), (Op.move (Operand.tmp 20)), none⟩]
attribute [go_sem] r46_6
def k46_1b : PC := (.seq (.reg r46_2) (.seq (.cond (Operand.tmp 10) .skip (.pre ⟨[0, 1], [], []⟩ (.exit 0))) (.seq (.block 1 (.seq (.reg r46_3) (.seq (.pre ⟨[0, 1, 6, 7, 8, 9], [], []⟩ k46_3) (.cond (Operand.tmp 19) (.seq (.reg r46_5) (.pre ⟨[4], [], []⟩ .ret)) .skip)))) (.post (.reg r46_6) ⟨[0, 1, 7, 8, 9], [], []⟩))))
def r46_7 : List PO := [⟨(some 21), (Op.move (Operand.tmp 0)), none⟩,
  ⟨(some 22), (Op.call { callee := (Callee.builtin Builtin.len), args := #[(Operand.tmp 21)], argTypes := #[38] }), none⟩,
  ⟨(some 23), (Op.move (Operand.tmp 1)), none⟩,
  ⟨(some 24), (Op.binOp BinOp.eql 3 (Operand.tmp 22) (Operand.tmp 23) 3), none⟩,
  ⟨(some 25), (Op.move (Operand.tmp 24)), none⟩,
  ⟨(some 26), (Op.move (Operand.tmp 0)), (some (25, true))⟩,
  ⟨(some 27), (Op.move (Operand.tmp 1)), (some (25, true))⟩,
  ⟨(some 28), (Op.binOp BinOp.sub 3 (Operand.tmp 27) (Operand.const (Value.int IntKind.i64 1)) 3), (some (25, true))⟩,
  ⟨(some 29), (Op.indexAddr 38 (Operand.tmp 26) (Operand.tmp 28)), (some (25, true))⟩,
  ⟨(some 30), (Op.load 3 (Operand.tmp 29)), (some (25, true))⟩,
  ⟨(some 31), (Op.move (Operand.tmp 1)), (some (25, true))⟩,
  ⟨(some 32), (Op.binOp BinOp.sub 3 (Operand.tmp 31) (Operand.const (Value.int IntKind.i64 1)) 3), (some (25, true))⟩,
  ⟨(some 33), (Op.binOp BinOp.eql 3 (Operand.tmp 30) (Operand.tmp 32) 3), (some (25, true))⟩,
  ⟨(some 34), (Op.pick (Operand.tmp 25) (Operand.tmp 33) (Operand.const (Value.bool false))), none⟩,
  ⟨(some 4), (Op.assign (Operand.tmp 34)), none⟩]
attribute [go_sem] r46_7
def k46_4 : PC := (.post (.reg r46_7) ⟨[4], [], []⟩)
def r46_0 : List PO := [⟨(some 4), (Op.assign (Operand.const (Value.bool false))), none⟩]
attribute [go_sem] r46_0
def r46_1 : List PO := [⟨(some 7), (Op.move (Operand.tmp 0)), none⟩,
  ⟨(some 8), (Op.call { callee := (Callee.builtin Builtin.len), args := #[(Operand.tmp 7)], argTypes := #[38] }), none⟩,
  ⟨(some 9), (Op.move (Operand.const (Value.int IntKind.i64 0))), none⟩]
attribute [go_sem] r46_1
def c46 : PC := (.seq (.reg r46_0) (.seq (.seq (.reg r46_1) (.block 0 (.pre ⟨[0, 1, 7, 8, 9], [], []⟩ (.loop k46_1b)))) (.seq (.pre ⟨[0, 1], [], []⟩ k46_4) .ret)))
def i46 : FnI := ⟨35, [(ResultVar.tmp 4)], c46, 0, [[1], [0]], [[0]], false, false, 0, false⟩
-- loop.example/g00344/spec.GoodAlgebra
def r13_1 : List PO := [⟨(some 5), (Op.fieldAddr 27 (Operand.tmp 1) 0), none⟩,
  ⟨(some 6), (Op.load 3 (Operand.tmp 5)), none⟩,
  ⟨(some 7), (Op.call { callee := (Callee.value (Operand.func 45)), args := #[(Operand.tmp 6), (Operand.const (Value.int IntKind.i64 2)), (Operand.const (Value.int IntKind.i64 12))], argTypes := #[3, 3, 3] }), none⟩,
  ⟨(some 8), (Op.unOp UnOp.not 4 (Operand.tmp 7)), none⟩,
  ⟨(some 9), (Op.move (Operand.tmp 8)), none⟩,
  ⟨(some 10), (Op.fieldAddr 27 (Operand.tmp 1) 1), (some (9, false))⟩,
  ⟨(some 11), (Op.load 22 (Operand.tmp 10)), (some (9, false))⟩,
  ⟨(some 12), (Op.call { callee := (Callee.builtin Builtin.len), args := #[(Operand.tmp 11)], argTypes := #[22] }), (some (9, false))⟩,
  ⟨(some 13), (Op.call { callee := (Callee.value (Operand.func 45)), args := #[(Operand.tmp 12), (Operand.const (Value.int IntKind.i64 1)), (Operand.const (Value.int IntKind.i64 4))], argTypes := #[3, 3, 3] }), (some (9, false))⟩,
  ⟨(some 14), (Op.unOp UnOp.not 4 (Operand.tmp 13)), (some (9, false))⟩,
  ⟨(some 15), (Op.pick (Operand.tmp 9) (Operand.const (Value.bool true)) (Operand.tmp 14)), none⟩]
attribute [go_sem] r13_1
def k13_1 : PC := (.post (.reg r13_1) ⟨[1, 15], [.old 0], []⟩)
def r13_4 : List PO := [⟨(some 20), (Op.binOp BinOp.lss 3 (Operand.tmp 19) (Operand.tmp 18) 3), none⟩]
attribute [go_sem] r13_4
def r13_5 : List PO := [⟨(some 21), (Op.indexAddr 22 (Operand.tmp 17) (Operand.tmp 19)), none⟩,
  ⟨(some 22), (Op.load 38 (Operand.tmp 21)), none⟩,
  ⟨(some 4), (Op.assign (Operand.tmp 22)), none⟩]
attribute [go_sem] r13_5
def r13_6 : List PO := [⟨(some 23), (Op.move (Operand.tmp 4)), none⟩,
  ⟨(some 24), (Op.fieldAddr 27 (Operand.tmp 1) 0), none⟩,
  ⟨(some 25), (Op.load 3 (Operand.tmp 24)), none⟩,
  ⟨(some 26), (Op.call { callee := (Callee.value (Operand.func 46)), args := #[(Operand.tmp 23), (Operand.tmp 25)], argTypes := #[38, 3] }), none⟩,
  ⟨(some 27), (Op.unOp UnOp.not 4 (Operand.tmp 26)), none⟩]
attribute [go_sem] r13_6
def r13_7 : List PO := [⟨(some 2), (Op.assign (Operand.const (Value.bool false))), none⟩]
attribute [go_sem] r13_7
def r13_8 : List PO := [⟨(some 28), (Op.binOp BinOp.add 3 (Operand.tmp 19) (Operand.const (Value.int IntKind.i64 1)) 3), none⟩,
  ⟨(some 19), (Op.move (Operand.tmp 28)), none⟩]
attribute [go_sem] r13_8
def k13_2b : PC := (.seq (.reg r13_4) (.seq (.cond (Operand.tmp 20) .skip (.pre ⟨[], [], []⟩ (.exit 0))) (.seq (.block 1 (.seq (.reg r13_5) (.seq (.reg r13_6) (.cond (Operand.tmp 27) (.seq (.reg r13_7) (.pre ⟨[2], [], []⟩ .ret)) .skip)))) (.post (.reg r13_8) ⟨[1, 17, 18, 19], [.old 0], []⟩))))
def r13_0 : List PO := [⟨(some 1), (Op.box 27 (Operand.tmp 0)), none⟩,
  ⟨(some 2), (Op.assign (Operand.const (Value.bool false))), none⟩]
attribute [go_sem] r13_0
def r13_2 : List PO := [⟨(some 2), (Op.assign (Operand.const (Value.bool false))), none⟩]
attribute [go_sem] r13_2
def r13_3 : List PO := [⟨(some 16), (Op.fieldAddr 27 (Operand.tmp 1) 1), none⟩,
  ⟨(some 17), (Op.load 22 (Operand.tmp 16)), none⟩,
  ⟨(some 18), (Op.call { callee := (Callee.builtin Builtin.len), args := #[(Operand.tmp 17)], argTypes := #[22] }), none⟩,
  ⟨(some 19), (Op.move (Operand.const (Value.int IntKind.i64 0))), none⟩]
attribute [go_sem] r13_3
def r13_9 : List PO := [⟨(some 2), (Op.assign (Operand.const (Value.bool true))), none⟩]
attribute [go_sem] r13_9
def c13 : PC := (.seq (.reg r13_0) (.seq (.seq (.pre ⟨[1], [.old 0], []⟩ k13_1) (.cond (Operand.tmp 15) (.seq (.reg r13_2) .ret) .skip)) (.seq (.seq (.reg r13_3) (.block 0 (.pre ⟨[1, 17, 18, 19], [.old 0], []⟩ (.loop k13_2b)))) (.seq (.reg r13_9) .ret))))
def i13 : FnI := ⟨29, [(ResultVar.tmp 2)], c13, 0, [[0, 1]], [[0]], false, false, 0, false⟩
-- loop.example/g00344/spec.l9Arcs
def r59_4 : List PO := [⟨(some 13), (Op.fieldAddr 75 (Operand.tmp 6) 0), none⟩,
  ⟨(some 14), (Op.load 3 (Operand.tmp 13)), none⟩,
  ⟨(some 15), (Op.call { callee := (Callee.value (Operand.func 45)), args := #[(Operand.tmp 14), (Operand.const (Value.int IntKind.i64 0)), (Operand.const (Value.int IntKind.i64 5))], argTypes := #[3, 3, 3] }), none⟩,
  ⟨(some 16), (Op.unOp UnOp.not 4 (Operand.tmp 15)), none⟩,
  ⟨(some 17), (Op.move (Operand.tmp 16)), none⟩,
  ⟨(some 18), (Op.fieldAddr 75 (Operand.tmp 6) 1), (some (17, false))⟩,
  ⟨(some 19), (Op.load 3 (Operand.tmp 18)), (some (17, false))⟩,
  ⟨(some 20), (Op.call { callee := (Callee.value (Operand.func 45)), args := #[(Operand.tmp 19), (Operand.const (Value.int IntKind.i64 0)), (Operand.const (Value.int IntKind.i64 5))], argTypes := #[3, 3, 3] }), (some (17, false))⟩,
  ⟨(some 21), (Op.unOp UnOp.not 4 (Operand.tmp 20)), (some (17, false))⟩,
  ⟨(some 22), (Op.pick (Operand.tmp 17) (Operand.const (Value.bool true)) (Operand.tmp 21)), none⟩,
  ⟨(some 23), (Op.move (Operand.tmp 22)), none⟩,
  ⟨(some 24), (Op.fieldAddr 75 (Operand.tmp 6) 0), (some (23, false))⟩,
  ⟨(some 25), (Op.load 3 (Operand.tmp 24)), (some (23, false))⟩,
  ⟨(some 26), (Op.fieldAddr 75 (Operand.tmp 6) 1), (some (23, false))⟩,
  ⟨(some 27), (Op.load 3 (Operand.tmp 26)), (some (23, false))⟩,
  ⟨(some 28), (Op.binOp BinOp.eql 3 (Operand.tmp 25) (Operand.tmp 27) 3), (some (23, false))⟩,
  ⟨(some 29), (Op.pick (Operand.tmp 23) (Operand.const (Value.bool true)) (Operand.tmp 28)), none⟩,
  ⟨(some 30), (Op.move (Operand.tmp 29)), none⟩,
  ⟨(some 31), (Op.fieldAddr 75 (Operand.tmp 6) 2), (some (30, false))⟩,
  ⟨(some 32), (Op.load 3 (Operand.tmp 31)), (some (30, false))⟩,
  ⟨(some 33), (Op.binOp BinOp.lss 3 (Operand.tmp 32) (Operand.const (Value.int IntKind.i64 0)) 3), (some (30, false))⟩,
  ⟨(some 34), (Op.pick (Operand.tmp 30) (Operand.const (Value.bool true)) (Operand.tmp 33)), none⟩,
  ⟨(some 35), (Op.move (Operand.tmp 34)), none⟩,
  ⟨(some 36), (Op.fieldAddr 75 (Operand.tmp 6) 2), (some (35, false))⟩,
  ⟨(some 37), (Op.load 3 (Operand.tmp 36)), (some (35, false))⟩,
  ⟨(some 38), (Op.fieldAddr 27 (Operand.tmp 2) 1), (some (35, false))⟩,
  ⟨(some 39), (Op.load 22 (Operand.tmp 38)), (some (35, false))⟩,
  ⟨(some 40), (Op.call { callee := (Callee.builtin Builtin.len), args := #[(Operand.tmp 39)], argTypes := #[22] }), (some (35, false))⟩,
  ⟨(some 41), (Op.binOp BinOp.geq 3 (Operand.tmp 37) (Operand.tmp 40) 3), (some (35, false))⟩,
  ⟨(some 42), (Op.pick (Operand.tmp 35) (Operand.const (Value.bool true)) (Operand.tmp 41)), none⟩]
attribute [go_sem] r59_4
def k59_3 : PC := (.post (.reg r59_4) ⟨[1, 2, 7, 8, 9, 42], [.old 0], []⟩)
def r59_2 : List PO := [⟨(some 10), (Op.binOp BinOp.lss 3 (Operand.tmp 9) (Operand.tmp 8) 3), none⟩]
attribute [go_sem] r59_2
def r59_3 : List PO := [⟨(some 11), (Op.indexAddr 42 (Operand.tmp 7) (Operand.tmp 9)), none⟩,
  ⟨(some 12), (Op.load 75 (Operand.tmp 11)), none⟩,
  ⟨(some 6), (Op.alloc 75), none⟩,
  ⟨none, (Op.store 75 (Operand.tmp 6) (Operand.tmp 12)), none⟩]
attribute [go_sem] r59_3
def r59_5 : List PO := [⟨(some 4), (Op.assign (Operand.const (Value.bool false))), none⟩]
attribute [go_sem] r59_5
def r59_6 : List PO := [⟨(some 43), (Op.binOp BinOp.add 3 (Operand.tmp 9) (Operand.const (Value.int IntKind.i64 1)) 3), none⟩,
  ⟨(some 9), (Op.move (Operand.tmp 43)), none⟩]
attribute [go_sem] r59_6
def k59_1b : PC := (.seq (.reg r59_2) (.seq (.cond (Operand.tmp 10) .skip (.pre ⟨[1, 2], [.old 0], []⟩ (.exit 0))) (.seq (.block 1 (.seq (.reg r59_3) (.seq (.pre ⟨[1, 2, 6, 7, 8, 9], [.old 0, .old 1], []⟩ k59_3) (.cond (Operand.tmp 42) (.seq (.reg r59_5) (.pre ⟨[4], [], []⟩ .ret)) .skip)))) (.post (.reg r59_6) ⟨[1, 2, 7, 8, 9], [.old 0], []⟩))))
def r59_7 : List PO := [⟨(some 44), (Op.load 27 (Operand.tmp 2)), none⟩,
  ⟨(some 45), (Op.call { callee := (Callee.value (Operand.func 13)), args := #[(Operand.tmp 44)], argTypes := #[27] }), none⟩,
  ⟨(some 46), (Op.move (Operand.tmp 45)), none⟩,
  ⟨(some 47), (Op.move (Operand.tmp 1)), (some (46, true))⟩,
  ⟨(some 48), (Op.call { callee := (Callee.builtin Builtin.len), args := #[(Operand.tmp 47)], argTypes := #[42] }), (some (46, true))⟩,
  ⟨(some 49), (Op.binOp BinOp.leq 3 (Operand.tmp 48) (Operand.const (Value.int IntKind.i64 20)) 3), (some (46, true))⟩,
  ⟨(some 50), (Op.pick (Operand.tmp 46) (Operand.tmp 49) (Operand.const (Value.bool false))), none⟩,
  ⟨(some 4), (Op.assign (Operand.tmp 50)), none⟩]
attribute [go_sem] r59_7
def k59_4 : PC := (.post (.reg r59_7) ⟨[4], [], []⟩)
def r59_0 : List PO := [⟨(some 2), (Op.box 27 (Operand.tmp 0)), none⟩,
  ⟨(some 4), (Op.assign (Operand.const (Value.bool false))), none⟩]
attribute [go_sem] r59_0
def r59_1 : List PO := [⟨(some 7), (Op.move (Operand.tmp 1)), none⟩,
  ⟨(some 8), (Op.call { callee := (Callee.builtin Builtin.len), args := #[(Operand.tmp 7)], argTypes := #[42] }), none⟩,
  ⟨(some 9), (Op.move (Operand.const (Value.int IntKind.i64 0))), none⟩]
attribute [go_sem] r59_1
def c59 : PC := (.seq (.reg r59_0) (.seq (.seq (.reg r59_1) (.block 0 (.pre ⟨[1, 2, 7, 8, 9], [.old 0], []⟩ (.loop k59_1b)))) (.seq (.pre ⟨[1, 2], [.old 0], []⟩ k59_4) .ret)))
def i59 : FnI := ⟨51, [(ResultVar.tmp 4)], c59, 0, [[0, 1], [3]], [[0]], false, false, 0, false⟩
-- loop.example/g00344/spec.l9None
def r68_3 : List PO := [⟨(some 5), (Op.move (Operand.tmp 4)), none⟩,
  ⟨(some 6), (Op.binOp BinOp.lss 3 (Operand.tmp 5) (Operand.const (Value.int IntKind.i64 6)) 3), none⟩]
attribute [go_sem] r68_3
def r68_5 : List PO := [⟨(some 9), (Op.move (Operand.tmp 3)), none⟩,
  ⟨(some 10), (Op.fieldAddr 27 (Operand.tmp 1) 0), none⟩,
  ⟨(some 11), (Op.load 3 (Operand.tmp 10)), none⟩,
  ⟨(some 12), (Op.binOp BinOp.sub 3 (Operand.tmp 11) (Operand.const (Value.int IntKind.i64 1)) 3), none⟩,
  ⟨(some 13), (Op.buildSlice 38 1 #[(0, (Operand.tmp 12))]), none⟩,
  ⟨(some 14), (Op.call { callee := (Callee.builtin Builtin.append), args := #[(Operand.tmp 9), (Operand.tmp 13)], argTypes := #[38, 38] }), none⟩,
  ⟨(some 3), (Op.assign (Operand.tmp 14)), none⟩]
attribute [go_sem] r68_5
def r68_4 : List PO := [⟨(some 7), (Op.move (Operand.tmp 4)), none⟩,
  ⟨(some 8), (Op.binOp BinOp.add 3 (Operand.tmp 7) (Operand.const (Value.int IntKind.i64 1)) 3), none⟩,
  ⟨(some 4), (Op.assign (Operand.tmp 8)), none⟩]
attribute [go_sem] r68_4
def k68_1b : PC := (.seq (.seq (.reg r68_3) (.cond (Operand.tmp 6) .skip (.pre ⟨[3], [.old 1], []⟩ (.exit 0)))) (.seq (.block 1 (.reg r68_5)) (.post (.reg r68_4) ⟨[1, 3, 4], [.old 0, .old 3], []⟩)))
def r68_0 : List PO := [⟨(some 1), (Op.box 27 (Operand.tmp 0)), none⟩,
  ⟨(some 2), (Op.assign (Operand.const (Value.slice none 0 0))), none⟩]
attribute [go_sem] r68_0
def r68_1 : List PO := [⟨(some 3), (Op.assign (Operand.const (Value.slice none 0 0))), none⟩]
attribute [go_sem] r68_1
def r68_2 : List PO := [⟨(some 4), (Op.assign (Operand.const (Value.int IntKind.i64 0))), none⟩]
attribute [go_sem] r68_2
def r68_6 : List PO := [⟨(some 15), (Op.move (Operand.tmp 3)), none⟩,
  ⟨(some 2), (Op.assign (Operand.tmp 15)), none⟩]
attribute [go_sem] r68_6
def c68 : PC := (.seq (.reg r68_0) (.seq (.reg r68_1) (.seq (.seq (.reg r68_2) (.block 0 (.pre ⟨[1, 3, 4], [.old 0, .nilT 3 0 1], []⟩ (.loop k68_1b)))) (.seq (.reg r68_6) .ret))))
def i68 : FnI := ⟨16, [(ResultVar.tmp 2)], c68, 0, [[0, 1]], [[1]], false, false, 0, false⟩
-- loop.example/g00344/spec.l9Arc
def r61_4 : List PO := [⟨(some 15), (Op.fieldAddr 75 (Operand.tmp 8) 0), none⟩,
  ⟨(some 16), (Op.load 3 (Operand.tmp 15)), none⟩,
  ⟨(some 17), (Op.move (Operand.tmp 1)), none⟩,
  ⟨(some 18), (Op.binOp BinOp.eql 3 (Operand.tmp 16) (Operand.tmp 17) 3), none⟩,
  ⟨(some 19), (Op.move (Operand.tmp 18)), none⟩,
  ⟨(some 20), (Op.fieldAddr 75 (Operand.tmp 8) 1), (some (19, true))⟩,
  ⟨(some 21), (Op.load 3 (Operand.tmp 20)), (some (19, true))⟩,
  ⟨(some 22), (Op.move (Operand.tmp 2)), (some (19, true))⟩,
  ⟨(some 23), (Op.binOp BinOp.eql 3 (Operand.tmp 21) (Operand.tmp 22) 3), (some (19, true))⟩,
  ⟨(some 24), (Op.pick (Operand.tmp 19) (Operand.tmp 23) (Operand.const (Value.bool false))), none⟩]
attribute [go_sem] r61_4
def k61_3 : PC := (.post (.reg r61_4) ⟨[1, 2, 8, 9, 10, 11, 24], [.old 0], []⟩)
def r61_2 : List PO := [⟨(some 12), (Op.binOp BinOp.lss 3 (Operand.tmp 11) (Operand.tmp 10) 3), none⟩]
attribute [go_sem] r61_2
def r61_3 : List PO := [⟨(some 13), (Op.indexAddr 42 (Operand.tmp 9) (Operand.tmp 11)), none⟩,
  ⟨(some 14), (Op.load 75 (Operand.tmp 13)), none⟩,
  ⟨(some 8), (Op.alloc 75), none⟩,
  ⟨none, (Op.store 75 (Operand.tmp 8) (Operand.tmp 14)), none⟩]
attribute [go_sem] r61_3
def r61_5 : List PO := [⟨(some 25), (Op.fieldAddr 75 (Operand.tmp 8) 2), none⟩,
  ⟨(some 26), (Op.load 3 (Operand.tmp 25)), none⟩,
  ⟨(some 6), (Op.assign (Operand.tmp 26)), none⟩]
attribute [go_sem] r61_5
def r61_6 : List PO := [⟨(some 27), (Op.binOp BinOp.add 3 (Operand.tmp 11) (Operand.const (Value.int IntKind.i64 1)) 3), none⟩,
  ⟨(some 11), (Op.move (Operand.tmp 27)), none⟩]
attribute [go_sem] r61_6
def k61_1b : PC := (.seq (.reg r61_2) (.seq (.cond (Operand.tmp 12) .skip (.pre ⟨[], [], []⟩ (.exit 0))) (.seq (.block 1 (.seq (.reg r61_3) (.seq (.pre ⟨[1, 2, 8, 9, 10, 11], [.old 0], []⟩ k61_3) (.cond (Operand.tmp 24) (.seq (.reg r61_5) (.pre ⟨[6], [], []⟩ .ret)) .skip)))) (.post (.reg r61_6) ⟨[1, 2, 9, 10, 11], [], []⟩))))
def r61_0 : List PO := [⟨(some 6), (Op.assign (Operand.const (Value.int IntKind.i64 0))), none⟩]
attribute [go_sem] r61_0
def r61_1 : List PO := [⟨(some 9), (Op.move (Operand.tmp 0)), none⟩,
  ⟨(some 10), (Op.call { callee := (Callee.builtin Builtin.len), args := #[(Operand.tmp 9)], argTypes := #[42] }), none⟩,
  ⟨(some 11), (Op.move (Operand.const (Value.int IntKind.i64 0))), none⟩]
attribute [go_sem] r61_1
def r61_7 : List PO := [⟨(some 6), (Op.assign (Operand.const (Value.int IntKind.i64 (-1)))), none⟩]
attribute [go_sem] r61_7
def c61 : PC := (.seq (.reg r61_0) (.seq (.seq (.reg r61_1) (.block 0 (.pre ⟨[1, 2, 9, 10, 11], [], []⟩ (.loop k61_1b)))) (.seq (.reg r61_7) .ret)))
def i61 : FnI := ⟨28, [(ResultVar.tmp 6)], c61, 0, [[3], [0], [0]], [[0]], false, false, 0, false⟩
-- loop.example/g00344/spec.BestTo
def r37_1 : List PO := [⟨(some 15), (Op.load 27 (Operand.tmp 3)), none⟩,
  ⟨(some 16), (Op.move (Operand.tmp 1)), none⟩,
  ⟨(some 17), (Op.call { callee := (Callee.value (Operand.func 59)), args := #[(Operand.tmp 15), (Operand.tmp 16)], argTypes := #[27, 42] }), none⟩,
  ⟨(some 18), (Op.unOp UnOp.not 4 (Operand.tmp 17)), none⟩,
  ⟨(some 19), (Op.move (Operand.tmp 18)), none⟩,
  ⟨(some 20), (Op.move (Operand.tmp 2)), (some (19, false))⟩,
  ⟨(some 21), (Op.call { callee := (Callee.value (Operand.func 45)), args := #[(Operand.tmp 20), (Operand.const (Value.int IntKind.i64 0)), (Operand.const (Value.int IntKind.i64 5))], argTypes := #[3, 3, 3] }), (some (19, false))⟩,
  ⟨(some 22), (Op.unOp UnOp.not 4 (Operand.tmp 21)), (some (19, false))⟩,
  ⟨(some 23), (Op.pick (Operand.tmp 19) (Operand.const (Value.bool true)) (Operand.tmp 22)), none⟩]
attribute [go_sem] r37_1
def k37_1 : PC := (.post (.reg r37_1) ⟨[1, 2, 3, 23], [.old 0], []⟩)
def r37_13 : List PO := [⟨(some 39), (Op.move (Operand.tmp 9)), none⟩,
  ⟨(some 40), (Op.move (Operand.tmp 12)), none⟩,
  ⟨(some 41), (Op.indexAddr 84 (Operand.tmp 39) (Operand.tmp 40)), none⟩,
  ⟨(some 42), (Op.load 4 (Operand.tmp 41)), none⟩,
  ⟨(some 43), (Op.unOp UnOp.not 4 (Operand.tmp 42)), none⟩,
  ⟨(some 44), (Op.move (Operand.tmp 43)), none⟩,
  ⟨(some 45), (Op.move (Operand.tmp 11)), (some (44, true))⟩,
  ⟨(some 46), (Op.binOp BinOp.lss 3 (Operand.tmp 45) (Operand.const (Value.int IntKind.i64 0)) 3), (some (44, true))⟩,
  ⟨(some 47), (Op.move (Operand.tmp 46)), (some (44, true))⟩,
  ⟨(some 48), (Op.move (Operand.tmp 8)), (some (47, false))⟩,
  ⟨(some 49), (Op.move (Operand.tmp 12)), (some (47, false))⟩,
  ⟨(some 50), (Op.indexAddr 38 (Operand.tmp 48) (Operand.tmp 49)), (some (47, false))⟩,
  ⟨(some 51), (Op.load 3 (Operand.tmp 50)), (some (47, false))⟩,
  ⟨(some 52), (Op.move (Operand.tmp 8)), (some (47, false))⟩,
  ⟨(some 53), (Op.move (Operand.tmp 11)), (some (47, false))⟩,
  ⟨(some 54), (Op.indexAddr 38 (Operand.tmp 52) (Operand.tmp 53)), (some (47, false))⟩,
  ⟨(some 55), (Op.load 3 (Operand.tmp 54)), (some (47, false))⟩,
  ⟨(some 56), (Op.binOp BinOp.lss 3 (Operand.tmp 51) (Operand.tmp 55) 3), (some (47, false))⟩,
  ⟨(some 57), (Op.pick (Operand.tmp 47) (Operand.const (Value.bool true)) (Operand.tmp 56)), (some (44, true))⟩,
  ⟨(some 58), (Op.pick (Operand.tmp 44) (Operand.tmp 57) (Operand.const (Value.bool false))), none⟩]
attribute [go_sem] r37_13
def k37_16 : PC := (.post (.fz r37_13) ⟨[1, 3, 8, 9, 10, 11, 12, 35, 36, 58], [.old 0, .old 1, .old 2], []⟩)
def r37_14 : List PO := [⟨(some 59), (Op.move (Operand.tmp 12)), none⟩,
  ⟨(some 11), (Op.assign (Operand.tmp 59)), none⟩]
attribute [go_sem] r37_14
def k37_17 : PC := (.cond (Operand.tmp 58) (.post (.reg r37_14) ⟨[1, 3, 8, 9, 10, 11, 35, 36], [.old 0, .old 1, .old 2], []⟩) (.post .skip ⟨[1, 3, 8, 9, 10, 11, 35, 36], [.old 0, .old 1, .old 2], []⟩))
def r37_11 : List PO := [⟨(some 37), (Op.binOp BinOp.lss 3 (Operand.tmp 36) (Operand.tmp 35) 3), none⟩]
attribute [go_sem] r37_11
def r37_12 : List PO := [⟨(some 38), (Op.move (Operand.tmp 36)), none⟩,
  ⟨(some 12), (Op.assign (Operand.tmp 38)), none⟩]
attribute [go_sem] r37_12
def r37_15 : List PO := [⟨(some 60), (Op.binOp BinOp.add 3 (Operand.tmp 36) (Operand.const (Value.int IntKind.i64 1)) 3), none⟩,
  ⟨(some 36), (Op.move (Operand.tmp 60)), none⟩]
attribute [go_sem] r37_15
def k37_13b : PC := (.seq (.reg r37_11) (.seq (.cond (Operand.tmp 37) .skip (.pre ⟨[1, 3, 8, 9, 10, 11], [.old 0, .old 1, .old 2], []⟩ (.exit 2))) (.seq (.block 3 (.seq (.reg r37_12) (.seq (.pre ⟨[1, 3, 8, 9, 10, 11, 12, 35, 36], [.old 0, .old 1, .old 2], []⟩ k37_16) (.pre ⟨[1, 3, 8, 9, 10, 11, 12, 35, 36, 58], [.old 0, .old 1, .old 2], []⟩ k37_17)))) (.post (.reg r37_15) ⟨[1, 3, 8, 9, 10, 11, 35, 36], [.old 0, .old 1, .old 2], []⟩))))
def r37_21 : List PO := [⟨(some 72), (Op.move (Operand.tmp 14)), none⟩,
  ⟨(some 73), (Op.binOp BinOp.geq 3 (Operand.tmp 72) (Operand.const (Value.int IntKind.i64 0)) 3), none⟩,
  ⟨(some 74), (Op.move (Operand.tmp 73)), none⟩,
  ⟨(some 75), (Op.move (Operand.tmp 9)), (some (74, true))⟩,
  ⟨(some 76), (Op.move (Operand.tmp 13)), (some (74, true))⟩,
  ⟨(some 77), (Op.indexAddr 84 (Operand.tmp 75) (Operand.tmp 76)), (some (74, true))⟩,
  ⟨(some 78), (Op.load 4 (Operand.tmp 77)), (some (74, true))⟩,
  ⟨(some 79), (Op.unOp UnOp.not 4 (Operand.tmp 78)), (some (74, true))⟩,
  ⟨(some 80), (Op.pick (Operand.tmp 74) (Operand.tmp 79) (Operand.const (Value.bool false))), none⟩,
  ⟨(some 81), (Op.move (Operand.tmp 80)), none⟩,
  ⟨(some 82), (Op.fieldAddr 27 (Operand.tmp 3) 1), (some (81, true))⟩,
  ⟨(some 83), (Op.load 22 (Operand.tmp 82)), (some (81, true))⟩,
  ⟨(some 84), (Op.move (Operand.tmp 14)), (some (81, true))⟩,
  ⟨(some 85), (Op.indexAddr 22 (Operand.tmp 83) (Operand.tmp 84)), (some (81, true))⟩,
  ⟨(some 86), (Op.load 38 (Operand.tmp 85)), (some (81, true))⟩,
  ⟨(some 87), (Op.move (Operand.tmp 8)), (some (81, true))⟩,
  ⟨(some 88), (Op.move (Operand.tmp 11)), (some (81, true))⟩,
  ⟨(some 89), (Op.indexAddr 38 (Operand.tmp 87) (Operand.tmp 88)), (some (81, true))⟩,
  ⟨(some 90), (Op.load 3 (Operand.tmp 89)), (some (81, true))⟩,
  ⟨(some 91), (Op.indexAddr 38 (Operand.tmp 86) (Operand.tmp 90)), (some (81, true))⟩,
  ⟨(some 92), (Op.load 3 (Operand.tmp 91)), (some (81, true))⟩,
  ⟨(some 93), (Op.move (Operand.tmp 8)), (some (81, true))⟩,
  ⟨(some 94), (Op.move (Operand.tmp 13)), (some (81, true))⟩,
  ⟨(some 95), (Op.indexAddr 38 (Operand.tmp 93) (Operand.tmp 94)), (some (81, true))⟩,
  ⟨(some 96), (Op.load 3 (Operand.tmp 95)), (some (81, true))⟩,
  ⟨(some 97), (Op.binOp BinOp.lss 3 (Operand.tmp 92) (Operand.tmp 96) 3), (some (81, true))⟩,
  ⟨(some 98), (Op.pick (Operand.tmp 81) (Operand.tmp 97) (Operand.const (Value.bool false))), none⟩]
attribute [go_sem] r37_21
def k37_21 : PC := (.post (.fz r37_21) ⟨[1, 3, 8, 9, 10, 11, 13, 14, 98], [.old 0, .old 1, .old 2], []⟩)
def r37_22 : List PO := [⟨(some 99), (Op.move (Operand.tmp 8)), none⟩,
  ⟨(some 100), (Op.move (Operand.tmp 13)), none⟩,
  ⟨(some 101), (Op.fieldAddr 27 (Operand.tmp 3) 1), none⟩,
  ⟨(some 102), (Op.load 22 (Operand.tmp 101)), none⟩,
  ⟨(some 103), (Op.move (Operand.tmp 14)), none⟩,
  ⟨(some 104), (Op.indexAddr 22 (Operand.tmp 102) (Operand.tmp 103)), none⟩,
  ⟨(some 105), (Op.load 38 (Operand.tmp 104)), none⟩,
  ⟨(some 106), (Op.move (Operand.tmp 8)), none⟩,
  ⟨(some 107), (Op.move (Operand.tmp 11)), none⟩,
  ⟨(some 108), (Op.indexAddr 38 (Operand.tmp 106) (Operand.tmp 107)), none⟩,
  ⟨(some 109), (Op.load 3 (Operand.tmp 108)), none⟩,
  ⟨(some 110), (Op.indexAddr 38 (Operand.tmp 105) (Operand.tmp 109)), none⟩,
  ⟨(some 111), (Op.load 3 (Operand.tmp 110)), none⟩,
  ⟨(some 112), (Op.indexAddr 38 (Operand.tmp 99) (Operand.tmp 100)), none⟩,
  ⟨none, (Op.store 3 (Operand.tmp 112) (Operand.tmp 111)), none⟩]
attribute [go_sem] r37_22
def x37_22 : FxI := ⟨[14], [none, none, none, none, none, none, none, none, none, none, none, none, none, none, none], 0, [[], [14]], [], []⟩
attribute [go_sem] x37_22
def k37_22 : PC := (.cond (Operand.tmp 98) (.post (.fx r37_22 x37_22) ⟨[1, 3, 8, 9, 10, 11, 13], [.old 0, .old 1, .old 2], []⟩) (.post .skip ⟨[1, 3, 8, 9, 10, 11, 13], [.old 0, .old 1, .old 2], []⟩))
def r37_18 : List PO := [⟨(some 64), (Op.move (Operand.tmp 13)), none⟩,
  ⟨(some 65), (Op.binOp BinOp.lss 3 (Operand.tmp 64) (Operand.const (Value.int IntKind.i64 6)) 3), none⟩]
attribute [go_sem] r37_18
def r37_20 : List PO := [⟨(some 68), (Op.move (Operand.tmp 1)), none⟩,
  ⟨(some 69), (Op.move (Operand.tmp 13)), none⟩,
  ⟨(some 70), (Op.move (Operand.tmp 11)), none⟩,
  ⟨(some 71), (Op.call { callee := (Callee.value (Operand.func 61)), args := #[(Operand.tmp 68), (Operand.tmp 69), (Operand.tmp 70)], argTypes := #[42, 3, 3] }), none⟩,
  ⟨(some 14), (Op.assign (Operand.tmp 71)), none⟩]
attribute [go_sem] r37_20
def r37_19 : List PO := [⟨(some 66), (Op.move (Operand.tmp 13)), none⟩,
  ⟨(some 67), (Op.binOp BinOp.add 3 (Operand.tmp 66) (Operand.const (Value.int IntKind.i64 1)) 3), none⟩,
  ⟨(some 13), (Op.assign (Operand.tmp 67)), none⟩]
attribute [go_sem] r37_19
def k37_18b : PC := (.seq (.seq (.reg r37_18) (.cond (Operand.tmp 65) .skip (.pre ⟨[1, 3, 8, 9, 10], [.old 0, .old 1, .old 2], []⟩ (.exit 4)))) (.seq (.block 5 (.seq (.reg r37_20) (.seq (.pre ⟨[1, 3, 8, 9, 10, 11, 13, 14], [.old 0, .old 1, .old 2], []⟩ k37_21) (.pre ⟨[1, 3, 8, 9, 10, 11, 13, 14, 98], [.old 0, .old 1, .old 2], []⟩ k37_22)))) (.post (.reg r37_19) ⟨[1, 3, 8, 9, 10, 11, 13], [.old 0, .old 1, .old 2], []⟩)))
def r37_7 : List PO := [⟨(some 30), (Op.move (Operand.tmp 10)), none⟩,
  ⟨(some 31), (Op.binOp BinOp.lss 3 (Operand.tmp 30) (Operand.const (Value.int IntKind.i64 6)) 3), none⟩]
attribute [go_sem] r37_7
def r37_9 : List PO := [⟨(some 11), (Op.assign (Operand.const (Value.int IntKind.i64 (-1)))), none⟩]
attribute [go_sem] r37_9
def r37_10 : List PO := [⟨(some 34), (Op.move (Operand.tmp 8)), none⟩,
  ⟨(some 35), (Op.call { callee := (Callee.builtin Builtin.len), args := #[(Operand.tmp 34)], argTypes := #[38] }), none⟩,
  ⟨(some 36), (Op.move (Operand.const (Value.int IntKind.i64 0))), none⟩]
attribute [go_sem] r37_10
def r37_16 : List PO := [⟨(some 61), (Op.move (Operand.tmp 9)), none⟩,
  ⟨(some 62), (Op.move (Operand.tmp 11)), none⟩,
  ⟨(some 63), (Op.indexAddr 84 (Operand.tmp 61) (Operand.tmp 62)), none⟩,
  ⟨none, (Op.store 4 (Operand.tmp 63) (Operand.const (Value.bool true))), none⟩]
attribute [go_sem] r37_16
def r37_17 : List PO := [⟨(some 13), (Op.assign (Operand.const (Value.int IntKind.i64 0))), none⟩]
attribute [go_sem] r37_17
def r37_8 : List PO := [⟨(some 32), (Op.move (Operand.tmp 10)), none⟩,
  ⟨(some 33), (Op.binOp BinOp.add 3 (Operand.tmp 32) (Operand.const (Value.int IntKind.i64 1)) 3), none⟩,
  ⟨(some 10), (Op.assign (Operand.tmp 33)), none⟩]
attribute [go_sem] r37_8
def k37_2b : PC := (.seq (.seq (.reg r37_7) (.cond (Operand.tmp 31) .skip (.pre ⟨[8], [.old 1], []⟩ (.exit 0)))) (.seq (.block 1 (.seq (.reg r37_9) (.seq (.seq (.reg r37_10) (.block 2 (.pre ⟨[1, 3, 8, 9, 10, 11, 35, 36], [.old 0, .old 1, .old 2], []⟩ (.loop k37_13b)))) (.seq (.reg r37_16) (.seq (.reg r37_17) (.block 4 (.pre ⟨[1, 3, 8, 9, 10, 11, 13], [.old 0, .old 1, .old 2], []⟩ (.loop k37_18b)))))))) (.post (.reg r37_8) ⟨[1, 3, 8, 9, 10], [.old 0, .old 1, .old 2], []⟩)))
def r37_0 : List PO := [⟨(some 3), (Op.box 27 (Operand.tmp 0)), none⟩,
  ⟨(some 6), (Op.assign (Operand.const (Value.slice none 0 0))), none⟩,
  ⟨(some 7), (Op.assign (Operand.const (Value.bool false))), none⟩]
attribute [go_sem] r37_0
def r37_2 : List PO := [⟨(some 6), (Op.assign (Operand.const (Value.slice none 0 0))), none⟩,
  ⟨(some 7), (Op.assign (Operand.const (Value.bool false))), none⟩]
attribute [go_sem] r37_2
def r37_3 : List PO := [⟨(some 24), (Op.load 27 (Operand.tmp 3)), none⟩,
  ⟨(some 25), (Op.call { callee := (Callee.value (Operand.func 68)), args := #[(Operand.tmp 24)], argTypes := #[27] }), none⟩,
  ⟨(some 8), (Op.assign (Operand.tmp 25)), none⟩]
attribute [go_sem] r37_3
def r37_4 : List PO := [⟨(some 26), (Op.move (Operand.tmp 8)), none⟩,
  ⟨(some 27), (Op.move (Operand.tmp 2)), none⟩,
  ⟨(some 28), (Op.indexAddr 38 (Operand.tmp 26) (Operand.tmp 27)), none⟩,
  ⟨none, (Op.store 3 (Operand.tmp 28) (Operand.const (Value.int IntKind.i64 0))), none⟩]
attribute [go_sem] r37_4
def r37_5 : List PO := [⟨(some 29), (Op.makeSlice 84 (Operand.const (Value.int IntKind.i64 6)) (Operand.const (Value.int IntKind.i64 6))), none⟩,
  ⟨(some 9), (Op.assign (Operand.tmp 29)), none⟩]
attribute [go_sem] r37_5
def r37_6 : List PO := [⟨(some 10), (Op.assign (Operand.const (Value.int IntKind.i64 0))), none⟩]
attribute [go_sem] r37_6
def r37_23 : List PO := [⟨(some 113), (Op.move (Operand.tmp 8)), none⟩,
  ⟨(some 6), (Op.assign (Operand.tmp 113)), none⟩,
  ⟨(some 7), (Op.assign (Operand.const (Value.bool true))), none⟩]
attribute [go_sem] r37_23
def c37 : PC := (.seq (.reg r37_0) (.seq (.seq (.pre ⟨[1, 2, 3], [.old 0], []⟩ k37_1) (.cond (Operand.tmp 23) (.seq (.reg r37_2) .ret) .skip)) (.seq (.reg r37_3) (.seq (.reg r37_4) (.seq (.reg r37_5) (.seq (.seq (.reg r37_6) (.block 0 (.pre ⟨[1, 3, 8, 9, 10], [.old 0, .old 1, .old 2], []⟩ (.loop k37_2b)))) (.seq (.reg r37_23) .ret)))))))
def i37 : FnI := ⟨114, [(ResultVar.tmp 6), (ResultVar.tmp 7)], c37, 0, [[0, 1], [3], [0]], [[1], [0]], false, false, 0, false⟩
-- loop.example/g00344/impl.within
def r48_1 : List PO := [⟨(some 7), (Op.move (Operand.tmp 0)), none⟩,
  ⟨(some 8), (Op.move (Operand.tmp 1)), none⟩,
  ⟨(some 9), (Op.binOp BinOp.geq 3 (Operand.tmp 7) (Operand.tmp 8) 3), none⟩,
  ⟨(some 10), (Op.move (Operand.tmp 9)), none⟩,
  ⟨(some 11), (Op.move (Operand.tmp 0)), (some (10, true))⟩,
  ⟨(some 12), (Op.move (Operand.tmp 2)), (some (10, true))⟩,
  ⟨(some 13), (Op.binOp BinOp.leq 3 (Operand.tmp 11) (Operand.tmp 12) 3), (some (10, true))⟩,
  ⟨(some 14), (Op.pick (Operand.tmp 10) (Operand.tmp 13) (Operand.const (Value.bool false))), none⟩,
  ⟨(some 6), (Op.assign (Operand.tmp 14)), none⟩]
attribute [go_sem] r48_1
def k48_1 : PC := (.post (.reg r48_1) ⟨[6], [], []⟩)
def r48_0 : List PO := [⟨(some 6), (Op.assign (Operand.const (Value.bool false))), none⟩]
attribute [go_sem] r48_0
def c48 : PC := (.seq (.reg r48_0) (.seq (.pre ⟨[0, 1, 2], [], []⟩ k48_1) .ret))
def i48 : FnI := ⟨15, [(ResultVar.tmp 6)], c48, 0, [[0], [0], [0]], [[0]], false, false, 0, false⟩
-- slices.IndexFunc[[][]int,[]int]
def r77_2 : List PO := [⟨(some 9), (Op.binOp BinOp.lss 3 (Operand.tmp 8) (Operand.tmp 7) 3), none⟩]
attribute [go_sem] r77_2
def r77_3 : List PO := [⟨(some 10), (Op.move (Operand.tmp 8)), none⟩,
  ⟨(some 5), (Op.assign (Operand.tmp 10)), none⟩]
attribute [go_sem] r77_3
def r77_4 : List PO := [⟨(some 11), (Op.move (Operand.tmp 1)), none⟩,
  ⟨(some 12), (Op.move (Operand.tmp 0)), none⟩,
  ⟨(some 13), (Op.move (Operand.tmp 5)), none⟩,
  ⟨(some 14), (Op.indexAddr 22 (Operand.tmp 12) (Operand.tmp 13)), none⟩,
  ⟨(some 15), (Op.load 38 (Operand.tmp 14)), none⟩,
  ⟨(some 16), (Op.call { callee := (Callee.value (Operand.tmp 11)), args := #[(Operand.tmp 15)], argTypes := #[38] }), none⟩]
attribute [go_sem] r77_4
def r77_5 : List PO := [⟨(some 17), (Op.move (Operand.tmp 5)), none⟩,
  ⟨(some 4), (Op.assign (Operand.tmp 17)), none⟩]
attribute [go_sem] r77_5
def r77_6 : List PO := [⟨(some 18), (Op.binOp BinOp.add 3 (Operand.tmp 8) (Operand.const (Value.int IntKind.i64 1)) 3), none⟩,
  ⟨(some 8), (Op.move (Operand.tmp 18)), none⟩]
attribute [go_sem] r77_6
def k77_1b : PC := (.seq (.reg r77_2) (.seq (.cond (Operand.tmp 9) .skip (.pre ⟨[], [], []⟩ (.exit 0))) (.seq (.block 1 (.seq (.reg r77_3) (.seq (.reg r77_4) (.cond (Operand.tmp 16) (.seq (.reg r77_5) (.pre ⟨[4], [], []⟩ .ret)) .skip)))) (.post (.reg r77_6) ⟨[0, 1, 7, 8], [], []⟩))))
def r77_0 : List PO := [⟨(some 4), (Op.assign (Operand.const (Value.int IntKind.i64 0))), none⟩]
attribute [go_sem] r77_0
def r77_1 : List PO := [⟨(some 6), (Op.move (Operand.tmp 0)), none⟩,
  ⟨(some 7), (Op.call { callee := (Callee.builtin Builtin.len), args := #[(Operand.tmp 6)], argTypes := #[22] }), none⟩,
  ⟨(some 8), (Op.move (Operand.const (Value.int IntKind.i64 0))), none⟩]
attribute [go_sem] r77_1
def r77_7 : List PO := [⟨(some 4), (Op.assign (Operand.const (Value.int IntKind.i64 (-1)))), none⟩]
attribute [go_sem] r77_7
def c77 : PC := (.seq (.reg r77_0) (.seq (.seq (.reg r77_1) (.block 0 (.pre ⟨[0, 1, 7, 8], [], []⟩ (.loop k77_1b)))) (.seq (.reg r77_7) .ret)))
def i77 : FnI := ⟨19, [(ResultVar.tmp 4)], c77, 0, [[1], [0]], [[0]], false, false, 0, false⟩
-- slices.ContainsFunc[[][]int,[]int]
def r49_0 : List PO := [⟨(some 4), (Op.assign (Operand.const (Value.bool false))), none⟩]
attribute [go_sem] r49_0
def r49_1 : List PO := [⟨(some 5), (Op.move (Operand.tmp 0)), none⟩,
  ⟨(some 6), (Op.move (Operand.tmp 1)), none⟩,
  ⟨(some 7), (Op.call { callee := (Callee.value (Operand.func 77)), args := #[(Operand.tmp 5), (Operand.tmp 6)], argTypes := #[22, 70] }), none⟩,
  ⟨(some 8), (Op.binOp BinOp.geq 3 (Operand.tmp 7) (Operand.const (Value.int IntKind.i64 0)) 3), none⟩,
  ⟨(some 4), (Op.assign (Operand.tmp 8)), none⟩]
attribute [go_sem] r49_1
def c49 : PC := (.seq (.reg r49_0) (.seq (.reg r49_1) .ret))
def i49 : FnI := ⟨9, [(ResultVar.tmp 4)], c49, 0, [[1], [0]], [[0]], false, false, 0, false⟩
-- (loop.example/g00344/impl.Algebra).worst
def r51_0 : List PO := [⟨(some 1), (Op.box 27 (Operand.tmp 0)), none⟩,
  ⟨(some 2), (Op.assign (Operand.const (Value.int IntKind.i64 0))), none⟩]
attribute [go_sem] r51_0
def r51_1 : List PO := [⟨(some 3), (Op.fieldAddr 27 (Operand.tmp 1) 0), none⟩,
  ⟨(some 4), (Op.load 3 (Operand.tmp 3)), none⟩,
  ⟨(some 5), (Op.binOp BinOp.sub 3 (Operand.tmp 4) (Operand.const (Value.int IntKind.i64 1)) 3), none⟩,
  ⟨(some 2), (Op.assign (Operand.tmp 5)), none⟩]
attribute [go_sem] r51_1
def c51 : PC := (.seq (.reg r51_0) (.seq (.reg r51_1) .ret))
def i51 : FnI := ⟨6, [(ResultVar.tmp 2)], c51, 0, [[0, 1]], [[0]], false, false, 0, false⟩
-- slices.IndexFunc[[]int,int]
def r78_2 : List PO := [⟨(some 9), (Op.binOp BinOp.lss 3 (Operand.tmp 8) (Operand.tmp 7) 3), none⟩]
attribute [go_sem] r78_2
def r78_3 : List PO := [⟨(some 10), (Op.move (Operand.tmp 8)), none⟩,
  ⟨(some 5), (Op.assign (Operand.tmp 10)), none⟩]
attribute [go_sem] r78_3
def r78_4 : List PO := [⟨(some 11), (Op.move (Operand.tmp 1)), none⟩,
  ⟨(some 12), (Op.move (Operand.tmp 0)), none⟩,
  ⟨(some 13), (Op.move (Operand.tmp 5)), none⟩,
  ⟨(some 14), (Op.indexAddr 38 (Operand.tmp 12) (Operand.tmp 13)), none⟩,
  ⟨(some 15), (Op.load 3 (Operand.tmp 14)), none⟩,
  ⟨(some 16), (Op.call { callee := (Callee.value (Operand.tmp 11)), args := #[(Operand.tmp 15)], argTypes := #[3] }), none⟩]
attribute [go_sem] r78_4
def r78_5 : List PO := [⟨(some 17), (Op.move (Operand.tmp 5)), none⟩,
  ⟨(some 4), (Op.assign (Operand.tmp 17)), none⟩]
attribute [go_sem] r78_5
def r78_6 : List PO := [⟨(some 18), (Op.binOp BinOp.add 3 (Operand.tmp 8) (Operand.const (Value.int IntKind.i64 1)) 3), none⟩,
  ⟨(some 8), (Op.move (Operand.tmp 18)), none⟩]
attribute [go_sem] r78_6
def k78_1b : PC := (.seq (.reg r78_2) (.seq (.cond (Operand.tmp 9) .skip (.pre ⟨[], [], []⟩ (.exit 0))) (.seq (.block 1 (.seq (.reg r78_3) (.seq (.reg r78_4) (.cond (Operand.tmp 16) (.seq (.reg r78_5) (.pre ⟨[4], [], []⟩ .ret)) .skip)))) (.post (.reg r78_6) ⟨[0, 1, 7, 8], [], []⟩))))
def r78_0 : List PO := [⟨(some 4), (Op.assign (Operand.const (Value.int IntKind.i64 0))), none⟩]
attribute [go_sem] r78_0
def r78_1 : List PO := [⟨(some 6), (Op.move (Operand.tmp 0)), none⟩,
  ⟨(some 7), (Op.call { callee := (Callee.builtin Builtin.len), args := #[(Operand.tmp 6)], argTypes := #[38] }), none⟩,
  ⟨(some 8), (Op.move (Operand.const (Value.int IntKind.i64 0))), none⟩]
attribute [go_sem] r78_1
def r78_7 : List PO := [⟨(some 4), (Op.assign (Operand.const (Value.int IntKind.i64 (-1)))), none⟩]
attribute [go_sem] r78_7
def c78 : PC := (.seq (.reg r78_0) (.seq (.seq (.reg r78_1) (.block 0 (.pre ⟨[0, 1, 7, 8], [], []⟩ (.loop k78_1b)))) (.seq (.reg r78_7) .ret)))
def i78 : FnI := ⟨19, [(ResultVar.tmp 4)], c78, 0, [[1], [0]], [[0]], false, false, 0, false⟩
-- slices.ContainsFunc[[]int,int]
def r52_0 : List PO := [⟨(some 4), (Op.assign (Operand.const (Value.bool false))), none⟩]
attribute [go_sem] r52_0
def r52_1 : List PO := [⟨(some 5), (Op.move (Operand.tmp 0)), none⟩,
  ⟨(some 6), (Op.move (Operand.tmp 1)), none⟩,
  ⟨(some 7), (Op.call { callee := (Callee.value (Operand.func 78)), args := #[(Operand.tmp 5), (Operand.tmp 6)], argTypes := #[38, 69] }), none⟩,
  ⟨(some 8), (Op.binOp BinOp.geq 3 (Operand.tmp 7) (Operand.const (Value.int IntKind.i64 0)) 3), none⟩,
  ⟨(some 4), (Op.assign (Operand.tmp 8)), none⟩]
attribute [go_sem] r52_1
def c52 : PC := (.seq (.reg r52_0) (.seq (.reg r52_1) .ret))
def i52 : FnI := ⟨9, [(ResultVar.tmp 4)], c52, 0, [[1], [0]], [[0]], false, false, 0, false⟩
-- loop.example/g00344/impl.GoodAlgebra$1$1
def r53_0 : List PO := [⟨(some 3), (Op.assign (Operand.const (Value.bool false))), none⟩]
attribute [go_sem] r53_0
def r53_1 : List PO := [⟨(some 4), (Op.move (Operand.tmp 0)), none⟩,
  ⟨(some 5), (Op.load 27 (Operand.tmp 1)), none⟩,
  ⟨(some 6), (Op.call { callee := (Callee.value (Operand.func 51)), args := #[(Operand.tmp 5)], argTypes := #[27] }), none⟩,
  ⟨(some 7), (Op.call { callee := (Callee.value (Operand.func 48)), args := #[(Operand.tmp 4), (Operand.const (Value.int IntKind.i64 0)), (Operand.tmp 6)], argTypes := #[3, 3, 3] }), none⟩,
  ⟨(some 8), (Op.unOp UnOp.not 4 (Operand.tmp 7)), none⟩,
  ⟨(some 3), (Op.assign (Operand.tmp 8)), none⟩]
attribute [go_sem] r53_1
def c53 : PC := (.seq (.reg r53_0) (.seq (.reg r53_1) .ret))
def i53 : FnI := ⟨9, [(ResultVar.tmp 3)], c53, 0, [[0], [0]], [[0]], false, false, 0, false⟩
-- loop.example/g00344/impl.GoodAlgebra$1
def r50_1 : List PO := [⟨(some 4), (Op.move (Operand.tmp 0)), none⟩,
  ⟨(some 5), (Op.call { callee := (Callee.builtin Builtin.len), args := #[(Operand.tmp 4)], argTypes := #[38] }), none⟩,
  ⟨(some 6), (Op.fieldAddr 27 (Operand.tmp 1) 0), none⟩,
  ⟨(some 7), (Op.load 3 (Operand.tmp 6)), none⟩,
  ⟨(some 8), (Op.binOp BinOp.neq 3 (Operand.tmp 5) (Operand.tmp 7) 3), none⟩,
  ⟨(some 9), (Op.move (Operand.tmp 8)), none⟩,
  ⟨(some 10), (Op.move (Operand.tmp 0)), (some (9, false))⟩,
  ⟨(some 11), (Op.load 27 (Operand.tmp 1)), (some (9, false))⟩,
  ⟨(some 12), (Op.call { callee := (Callee.value (Operand.func 51)), args := #[(Operand.tmp 11)], argTypes := #[27] }), (some (9, false))⟩,
  ⟨(some 13), (Op.indexAddr 38 (Operand.tmp 10) (Operand.tmp 12)), (some (9, false))⟩,
  ⟨(some 14), (Op.load 3 (Operand.tmp 13)), (some (9, false))⟩,
  ⟨(some 15), (Op.load 27 (Operand.tmp 1)), (some (9, false))⟩,
  ⟨(some 16), (Op.call { callee := (Callee.value (Operand.func 51)), args := #[(Operand.tmp 15)], argTypes := #[27] }), (some (9, false))⟩,
  ⟨(some 17), (Op.binOp BinOp.neq 3 (Operand.tmp 14) (Operand.tmp 16) 3), (some (9, false))⟩,
  ⟨(some 18), (Op.pick (Operand.tmp 9) (Operand.const (Value.bool true)) (Operand.tmp 17)), none⟩,
  ⟨(some 19), (Op.move (Operand.tmp 18)), none⟩,
  ⟨(some 20), (Op.move (Operand.tmp 0)), (some (19, false))⟩,
  ⟨(some 21), (Op.makeFunc (Fn.func 53) #[] #[(Operand.tmp 1)]), (some (19, false))⟩,
  ⟨(some 22), (Op.call { callee := (Callee.value (Operand.func 52)), args := #[(Operand.tmp 20), (Operand.tmp 21)], argTypes := #[38, 69] }), (some (19, false))⟩,
  ⟨(some 23), (Op.pick (Operand.tmp 19) (Operand.const (Value.bool true)) (Operand.tmp 22)), none⟩,
  ⟨(some 3), (Op.assign (Operand.tmp 23)), none⟩]
attribute [go_sem] r50_1
def k50_1 : PC := (.post (.fz r50_1) ⟨[3], [], []⟩)
def r50_0 : List PO := [⟨(some 3), (Op.assign (Operand.const (Value.bool false))), none⟩]
attribute [go_sem] r50_0
def c50 : PC := (.seq (.reg r50_0) (.seq (.pre ⟨[0, 1], [], []⟩ k50_1) .ret))
def i50 : FnI := ⟨24, [(ResultVar.tmp 3)], c50, 0, [[1], [0]], [[0]], false, false, 0, false⟩
-- loop.example/g00344/impl.GoodAlgebra
def r15_1 : List PO := [⟨(some 3), (Op.fieldAddr 27 (Operand.tmp 1) 0), none⟩,
  ⟨(some 4), (Op.load 3 (Operand.tmp 3)), none⟩,
  ⟨(some 5), (Op.call { callee := (Callee.value (Operand.func 48)), args := #[(Operand.tmp 4), (Operand.const (Value.int IntKind.i64 2)), (Operand.const (Value.int IntKind.i64 12))], argTypes := #[3, 3, 3] }), none⟩,
  ⟨(some 6), (Op.unOp UnOp.not 4 (Operand.tmp 5)), none⟩,
  ⟨(some 7), (Op.move (Operand.tmp 6)), none⟩,
  ⟨(some 8), (Op.fieldAddr 27 (Operand.tmp 1) 1), (some (7, false))⟩,
  ⟨(some 9), (Op.load 22 (Operand.tmp 8)), (some (7, false))⟩,
  ⟨(some 10), (Op.call { callee := (Callee.builtin Builtin.len), args := #[(Operand.tmp 9)], argTypes := #[22] }), (some (7, false))⟩,
  ⟨(some 11), (Op.call { callee := (Callee.value (Operand.func 48)), args := #[(Operand.tmp 10), (Operand.const (Value.int IntKind.i64 1)), (Operand.const (Value.int IntKind.i64 4))], argTypes := #[3, 3, 3] }), (some (7, false))⟩,
  ⟨(some 12), (Op.unOp UnOp.not 4 (Operand.tmp 11)), (some (7, false))⟩,
  ⟨(some 13), (Op.pick (Operand.tmp 7) (Operand.const (Value.bool true)) (Operand.tmp 12)), none⟩]
attribute [go_sem] r15_1
def k15_1 : PC := (.post (.reg r15_1) ⟨[1, 13], [.old 0], []⟩)
def r15_0 : List PO := [⟨(some 1), (Op.box 27 (Operand.tmp 0)), none⟩,
  ⟨(some 2), (Op.assign (Operand.const (Value.bool false))), none⟩]
attribute [go_sem] r15_0
def r15_2 : List PO := [⟨(some 2), (Op.assign (Operand.const (Value.bool false))), none⟩]
attribute [go_sem] r15_2
def r15_3 : List PO := [⟨(some 14), (Op.fieldAddr 27 (Operand.tmp 1) 1), none⟩,
  ⟨(some 15), (Op.load 22 (Operand.tmp 14)), none⟩,
  ⟨(some 16), (Op.makeFunc (Fn.func 50) #[] #[(Operand.tmp 1)]), none⟩,
  ⟨(some 17), (Op.call { callee := (Callee.value (Operand.func 49)), args := #[(Operand.tmp 15), (Operand.tmp 16)], argTypes := #[22, 70] }), none⟩,
  ⟨(some 18), (Op.unOp UnOp.not 4 (Operand.tmp 17)), none⟩,
  ⟨(some 2), (Op.assign (Operand.tmp 18)), none⟩]
attribute [go_sem] r15_3
def c15 : PC := (.seq (.reg r15_0) (.seq (.seq (.pre ⟨[1], [.old 0], []⟩ k15_1) (.cond (Operand.tmp 13) (.seq (.reg r15_2) .ret) .skip)) (.seq (.reg r15_3) .ret)))
def i15 : FnI := ⟨19, [(ResultVar.tmp 2)], c15, 0, [[0, 1]], [[0]], false, false, 0, false⟩
-- slices.IndexFunc[[]loop.example/g00344/impl.Arc,loop.example/g00344/impl.Arc]
def r83_2 : List PO := [⟨(some 9), (Op.binOp BinOp.lss 3 (Operand.tmp 8) (Operand.tmp 7) 3), none⟩]
attribute [go_sem] r83_2
def r83_3 : List PO := [⟨(some 10), (Op.move (Operand.tmp 8)), none⟩,
  ⟨(some 5), (Op.assign (Operand.tmp 10)), none⟩]
attribute [go_sem] r83_3
def r83_4 : List PO := [⟨(some 11), (Op.move (Operand.tmp 1)), none⟩,
  ⟨(some 12), (Op.move (Operand.tmp 0)), none⟩,
  ⟨(some 13), (Op.move (Operand.tmp 5)), none⟩,
  ⟨(some 14), (Op.indexAddr 42 (Operand.tmp 12) (Operand.tmp 13)), none⟩,
  ⟨(some 15), (Op.load 75 (Operand.tmp 14)), none⟩,
  ⟨(some 16), (Op.call { callee := (Callee.value (Operand.tmp 11)), args := #[(Operand.tmp 15)], argTypes := #[75] }), none⟩]
attribute [go_sem] r83_4
def r83_5 : List PO := [⟨(some 17), (Op.move (Operand.tmp 5)), none⟩,
  ⟨(some 4), (Op.assign (Operand.tmp 17)), none⟩]
attribute [go_sem] r83_5
def r83_6 : List PO := [⟨(some 18), (Op.binOp BinOp.add 3 (Operand.tmp 8) (Operand.const (Value.int IntKind.i64 1)) 3), none⟩,
  ⟨(some 8), (Op.move (Operand.tmp 18)), none⟩]
attribute [go_sem] r83_6
def k83_1b : PC := (.seq (.reg r83_2) (.seq (.cond (Operand.tmp 9) .skip (.pre ⟨[], [], []⟩ (.exit 0))) (.seq (.block 1 (.seq (.reg r83_3) (.seq (.reg r83_4) (.cond (Operand.tmp 16) (.seq (.reg r83_5) (.pre ⟨[4], [], []⟩ .ret)) .skip)))) (.post (.reg r83_6) ⟨[0, 1, 7, 8], [], []⟩))))
def r83_0 : List PO := [⟨(some 4), (Op.assign (Operand.const (Value.int IntKind.i64 0))), none⟩]
attribute [go_sem] r83_0
def r83_1 : List PO := [⟨(some 6), (Op.move (Operand.tmp 0)), none⟩,
  ⟨(some 7), (Op.call { callee := (Callee.builtin Builtin.len), args := #[(Operand.tmp 6)], argTypes := #[42] }), none⟩,
  ⟨(some 8), (Op.move (Operand.const (Value.int IntKind.i64 0))), none⟩]
attribute [go_sem] r83_1
def r83_7 : List PO := [⟨(some 4), (Op.assign (Operand.const (Value.int IntKind.i64 (-1)))), none⟩]
attribute [go_sem] r83_7
def c83 : PC := (.seq (.reg r83_0) (.seq (.seq (.reg r83_1) (.block 0 (.pre ⟨[0, 1, 7, 8], [], []⟩ (.loop k83_1b)))) (.seq (.reg r83_7) .ret)))
def i83 : FnI := ⟨19, [(ResultVar.tmp 4)], c83, 0, [[3], [0]], [[0]], false, false, 0, false⟩
-- slices.ContainsFunc[[]loop.example/g00344/impl.Arc,loop.example/g00344/impl.Arc]
def r80_0 : List PO := [⟨(some 4), (Op.assign (Operand.const (Value.bool false))), none⟩]
attribute [go_sem] r80_0
def r80_1 : List PO := [⟨(some 5), (Op.move (Operand.tmp 0)), none⟩,
  ⟨(some 6), (Op.move (Operand.tmp 1)), none⟩,
  ⟨(some 7), (Op.call { callee := (Callee.value (Operand.func 83)), args := #[(Operand.tmp 5), (Operand.tmp 6)], argTypes := #[42, 96] }), none⟩,
  ⟨(some 8), (Op.binOp BinOp.geq 3 (Operand.tmp 7) (Operand.const (Value.int IntKind.i64 0)) 3), none⟩,
  ⟨(some 4), (Op.assign (Operand.tmp 8)), none⟩]
attribute [go_sem] r80_1
def c80 : PC := (.seq (.reg r80_0) (.seq (.reg r80_1) .ret))
def i80 : FnI := ⟨9, [(ResultVar.tmp 4)], c80, 0, [[3], [0]], [[0]], false, false, 0, false⟩
-- loop.example/g00344/impl.isSpeaker
def r64_0 : List PO := [⟨(some 2), (Op.assign (Operand.const (Value.bool false))), none⟩]
attribute [go_sem] r64_0
def r64_1 : List PO := [⟨(some 3), (Op.move (Operand.tmp 0)), none⟩,
  ⟨(some 4), (Op.call { callee := (Callee.value (Operand.func 48)), args := #[(Operand.tmp 3), (Operand.const (Value.int IntKind.i64 0)), (Operand.const (Value.int IntKind.i64 5))], argTypes := #[3, 3, 3] }), none⟩,
  ⟨(some 2), (Op.assign (Operand.tmp 4)), none⟩]
attribute [go_sem] r64_1
def c64 : PC := (.seq (.reg r64_0) (.seq (.reg r64_1) .ret))
def i64 : FnI := ⟨5, [(ResultVar.tmp 2)], c64, 0, [[0]], [[0]], false, false, 0, false⟩
-- loop.example/g00344/impl.areArcs$1
def r81_1 : List PO := [⟨(some 4), (Op.fieldAddr 75 (Operand.tmp 2) 0), none⟩,
  ⟨(some 5), (Op.load 3 (Operand.tmp 4)), none⟩,
  ⟨(some 6), (Op.call { callee := (Callee.value (Operand.func 64)), args := #[(Operand.tmp 5)], argTypes := #[3] }), none⟩,
  ⟨(some 7), (Op.unOp UnOp.not 4 (Operand.tmp 6)), none⟩,
  ⟨(some 8), (Op.move (Operand.tmp 7)), none⟩,
  ⟨(some 9), (Op.fieldAddr 75 (Operand.tmp 2) 1), (some (8, false))⟩,
  ⟨(some 10), (Op.load 3 (Operand.tmp 9)), (some (8, false))⟩,
  ⟨(some 11), (Op.call { callee := (Callee.value (Operand.func 64)), args := #[(Operand.tmp 10)], argTypes := #[3] }), (some (8, false))⟩,
  ⟨(some 12), (Op.unOp UnOp.not 4 (Operand.tmp 11)), (some (8, false))⟩,
  ⟨(some 13), (Op.pick (Operand.tmp 8) (Operand.const (Value.bool true)) (Operand.tmp 12)), none⟩,
  ⟨(some 14), (Op.move (Operand.tmp 13)), none⟩,
  ⟨(some 15), (Op.fieldAddr 75 (Operand.tmp 2) 0), (some (14, false))⟩,
  ⟨(some 16), (Op.load 3 (Operand.tmp 15)), (some (14, false))⟩,
  ⟨(some 17), (Op.fieldAddr 75 (Operand.tmp 2) 1), (some (14, false))⟩,
  ⟨(some 18), (Op.load 3 (Operand.tmp 17)), (some (14, false))⟩,
  ⟨(some 19), (Op.binOp BinOp.eql 3 (Operand.tmp 16) (Operand.tmp 18) 3), (some (14, false))⟩,
  ⟨(some 20), (Op.pick (Operand.tmp 14) (Operand.const (Value.bool true)) (Operand.tmp 19)), none⟩,
  ⟨(some 21), (Op.move (Operand.tmp 20)), none⟩,
  ⟨(some 22), (Op.fieldAddr 75 (Operand.tmp 2) 2), (some (21, false))⟩,
  ⟨(some 23), (Op.load 3 (Operand.tmp 22)), (some (21, false))⟩,
  ⟨(some 24), (Op.fieldAddr 27 (Operand.tmp 1) 1), (some (21, false))⟩,
  ⟨(some 25), (Op.load 22 (Operand.tmp 24)), (some (21, false))⟩,
  ⟨(some 26), (Op.call { callee := (Callee.builtin Builtin.len), args := #[(Operand.tmp 25)], argTypes := #[22] }), (some (21, false))⟩,
  ⟨(some 27), (Op.binOp BinOp.sub 3 (Operand.tmp 26) (Operand.const (Value.int IntKind.i64 1)) 3), (some (21, false))⟩,
  ⟨(some 28), (Op.call { callee := (Callee.value (Operand.func 48)), args := #[(Operand.tmp 23), (Operand.const (Value.int IntKind.i64 0)), (Operand.tmp 27)], argTypes := #[3, 3, 3] }), (some (21, false))⟩,
  ⟨(some 29), (Op.unOp UnOp.not 4 (Operand.tmp 28)), (some (21, false))⟩,
  ⟨(some 30), (Op.pick (Operand.tmp 21) (Operand.const (Value.bool true)) (Operand.tmp 29)), none⟩,
  ⟨(some 3), (Op.assign (Operand.tmp 30)), none⟩]
attribute [go_sem] r81_1
def k81_1 : PC := (.post (.reg r81_1) ⟨[3], [], []⟩)
def r81_0 : List PO := [⟨(some 2), (Op.box 75 (Operand.tmp 0)), none⟩,
  ⟨(some 3), (Op.assign (Operand.const (Value.bool false))), none⟩]
attribute [go_sem] r81_0
def c81 : PC := (.seq (.reg r81_0) (.seq (.pre ⟨[1, 2], [.old 0], []⟩ k81_1) .ret))
def i81 : FnI := ⟨31, [(ResultVar.tmp 3)], c81, 0, [[0, 0, 0], [0]], [[0]], false, false, 0, false⟩
-- loop.example/g00344/impl.areArcs
def r63_1 : List PO := [⟨(some 5), (Op.load 27 (Operand.tmp 2)), none⟩,
  ⟨(some 6), (Op.call { callee := (Callee.value (Operand.func 15)), args := #[(Operand.tmp 5)], argTypes := #[27] }), none⟩,
  ⟨(some 7), (Op.move (Operand.tmp 6)), none⟩,
  ⟨(some 8), (Op.move (Operand.tmp 1)), (some (7, true))⟩,
  ⟨(some 9), (Op.call { callee := (Callee.builtin Builtin.len), args := #[(Operand.tmp 8)], argTypes := #[42] }), (some (7, true))⟩,
  ⟨(some 10), (Op.binOp BinOp.leq 3 (Operand.tmp 9) (Operand.const (Value.int IntKind.i64 20)) 3), (some (7, true))⟩,
  ⟨(some 11), (Op.pick (Operand.tmp 7) (Operand.tmp 10) (Operand.const (Value.bool false))), none⟩,
  ⟨(some 12), (Op.move (Operand.tmp 11)), none⟩,
  ⟨(some 13), (Op.move (Operand.tmp 1)), (some (12, true))⟩,
  ⟨(some 14), (Op.makeFunc (Fn.func 81) #[] #[(Operand.tmp 2)]), (some (12, true))⟩,
  ⟨(some 15), (Op.call { callee := (Callee.value (Operand.func 80)), args := #[(Operand.tmp 13), (Operand.tmp 14)], argTypes := #[42, 96] }), (some (12, true))⟩,
  ⟨(some 16), (Op.unOp UnOp.not 4 (Operand.tmp 15)), (some (12, true))⟩,
  ⟨(some 17), (Op.pick (Operand.tmp 12) (Operand.tmp 16) (Operand.const (Value.bool false))), none⟩,
  ⟨(some 4), (Op.assign (Operand.tmp 17)), none⟩]
attribute [go_sem] r63_1
def k63_1 : PC := (.post (.reg r63_1) ⟨[4], [], []⟩)
def r63_0 : List PO := [⟨(some 2), (Op.box 27 (Operand.tmp 0)), none⟩,
  ⟨(some 4), (Op.assign (Operand.const (Value.bool false))), none⟩]
attribute [go_sem] r63_0
def c63 : PC := (.seq (.reg r63_0) (.seq (.pre ⟨[1, 2], [.old 0], []⟩ k63_1) .ret))
def i63 : FnI := ⟨18, [(ResultVar.tmp 4)], c63, 0, [[0, 1], [3]], [[0]], false, false, 0, false⟩
-- math/bits.Mul64
def r90_0 : List PO := [⟨(some 4), (Op.assign (Operand.const (Value.int IntKind.u64 0))), none⟩,
  ⟨(some 5), (Op.assign (Operand.const (Value.int IntKind.u64 0))), none⟩]
attribute [go_sem] r90_0
def r90_1 : List PO := [⟨(some 14), (Op.move (Operand.tmp 0)), none⟩,
  ⟨(some 15), (Op.binOp BinOp.and 86 (Operand.tmp 14) (Operand.const (Value.int IntKind.u64 4294967295)) 86), none⟩,
  ⟨(some 6), (Op.assign (Operand.tmp 15)), none⟩]
attribute [go_sem] r90_1
def r90_2 : List PO := [⟨(some 16), (Op.move (Operand.tmp 0)), none⟩,
  ⟨(some 17), (Op.binOp BinOp.shr 86 (Operand.tmp 16) (Operand.const (Value.int IntKind.u64 32)) 98), none⟩,
  ⟨(some 7), (Op.assign (Operand.tmp 17)), none⟩]
attribute [go_sem] r90_2
def r90_3 : List PO := [⟨(some 18), (Op.move (Operand.tmp 1)), none⟩,
  ⟨(some 19), (Op.binOp BinOp.and 86 (Operand.tmp 18) (Operand.const (Value.int IntKind.u64 4294967295)) 86), none⟩,
  ⟨(some 8), (Op.assign (Operand.tmp 19)), none⟩]
attribute [go_sem] r90_3
def r90_4 : List PO := [⟨(some 20), (Op.move (Operand.tmp 1)), none⟩,
  ⟨(some 21), (Op.binOp BinOp.shr 86 (Operand.tmp 20) (Operand.const (Value.int IntKind.u64 32)) 98), none⟩,
  ⟨(some 9), (Op.assign (Operand.tmp 21)), none⟩]
attribute [go_sem] r90_4
def r90_5 : List PO := [⟨(some 22), (Op.move (Operand.tmp 6)), none⟩,
  ⟨(some 23), (Op.move (Operand.tmp 8)), none⟩,
  ⟨(some 24), (Op.binOp BinOp.mul 86 (Operand.tmp 22) (Operand.tmp 23) 86), none⟩,
  ⟨(some 10), (Op.assign (Operand.tmp 24)), none⟩]
attribute [go_sem] r90_5
def r90_6 : List PO := [⟨(some 25), (Op.move (Operand.tmp 7)), none⟩,
  ⟨(some 26), (Op.move (Operand.tmp 8)), none⟩,
  ⟨(some 27), (Op.binOp BinOp.mul 86 (Operand.tmp 25) (Operand.tmp 26) 86), none⟩,
  ⟨(some 28), (Op.move (Operand.tmp 10)), none⟩,
  ⟨(some 29), (Op.binOp BinOp.shr 86 (Operand.tmp 28) (Operand.const (Value.int IntKind.u64 32)) 98), none⟩,
  ⟨(some 30), (Op.binOp BinOp.add 86 (Operand.tmp 27) (Operand.tmp 29) 86), none⟩,
  ⟨(some 11), (Op.assign (Operand.tmp 30)), none⟩]
attribute [go_sem] r90_6
def r90_7 : List PO := [⟨(some 31), (Op.move (Operand.tmp 11)), none⟩,
  ⟨(some 32), (Op.binOp BinOp.and 86 (Operand.tmp 31) (Operand.const (Value.int IntKind.u64 4294967295)) 86), none⟩,
  ⟨(some 12), (Op.assign (Operand.tmp 32)), none⟩]
attribute [go_sem] r90_7
def r90_8 : List PO := [⟨(some 33), (Op.move (Operand.tmp 11)), none⟩,
  ⟨(some 34), (Op.binOp BinOp.shr 86 (Operand.tmp 33) (Operand.const (Value.int IntKind.u64 32)) 98), none⟩,
  ⟨(some 13), (Op.assign (Operand.tmp 34)), none⟩]
attribute [go_sem] r90_8
def r90_9 : List PO := [⟨(some 35), (Op.move (Operand.tmp 12)), none⟩,
  ⟨(some 36), (Op.move (Operand.tmp 6)), none⟩,
  ⟨(some 37), (Op.move (Operand.tmp 9)), none⟩,
  ⟨(some 38), (Op.binOp BinOp.mul 86 (Operand.tmp 36) (Operand.tmp 37) 86), none⟩,
  ⟨(some 39), (Op.binOp BinOp.add 86 (Operand.tmp 35) (Operand.tmp 38) 86), none⟩,
  ⟨(some 12), (Op.assign (Operand.tmp 39)), none⟩]
attribute [go_sem] r90_9
def r90_10 : List PO := [⟨(some 40), (Op.move (Operand.tmp 7)), none⟩,
  ⟨(some 41), (Op.move (Operand.tmp 9)), none⟩,
  ⟨(some 42), (Op.binOp BinOp.mul 86 (Operand.tmp 40) (Operand.tmp 41) 86), none⟩,
  ⟨(some 43), (Op.move (Operand.tmp 13)), none⟩,
  ⟨(some 44), (Op.binOp BinOp.add 86 (Operand.tmp 42) (Operand.tmp 43) 86), none⟩,
  ⟨(some 45), (Op.move (Operand.tmp 12)), none⟩,
  ⟨(some 46), (Op.binOp BinOp.shr 86 (Operand.tmp 45) (Operand.const (Value.int IntKind.u64 32)) 98), none⟩,
  ⟨(some 47), (Op.binOp BinOp.add 86 (Operand.tmp 44) (Operand.tmp 46) 86), none⟩,
  ⟨(some 4), (Op.assign (Operand.tmp 47)), none⟩]
attribute [go_sem] r90_10
def r90_11 : List PO := [⟨(some 48), (Op.move (Operand.tmp 0)), none⟩,
  ⟨(some 49), (Op.move (Operand.tmp 1)), none⟩,
  ⟨(some 50), (Op.binOp BinOp.mul 86 (Operand.tmp 48) (Operand.tmp 49) 86), none⟩,
  ⟨(some 5), (Op.assign (Operand.tmp 50)), none⟩]
attribute [go_sem] r90_11
def c90 : PC := (.seq (.reg r90_0) (.seq (.reg r90_1) (.seq (.reg r90_2) (.seq (.reg r90_3) (.seq (.reg r90_4) (.seq (.reg r90_5) (.seq (.reg r90_6) (.seq (.reg r90_7) (.seq (.reg r90_8) (.seq (.reg r90_9) (.seq (.reg r90_10) (.seq (.reg r90_11) .ret))))))))))))
def i90 : FnI := ⟨51, [(ResultVar.tmp 4), (ResultVar.tmp 5)], c90, 0, [[0], [0]], [[0], [0]], false, false, 0, false⟩
-- math/bits.Mul
def r85_0 : List PO := [⟨(some 4), (Op.assign (Operand.const (Value.int IntKind.u64 0))), none⟩,
  ⟨(some 5), (Op.assign (Operand.const (Value.int IntKind.u64 0))), none⟩]
attribute [go_sem] r85_0
def r85_3 : List PO := [⟨(some 23), (Op.move (Operand.tmp 0)), none⟩,
  ⟨(some 24), (Op.move (Operand.tmp 1)), none⟩,
  ⟨(some 25), (Op.call { callee := (Callee.value (Operand.func 90)), args := #[(Operand.tmp 23), (Operand.tmp 24)], argTypes := #[86, 86] }), none⟩,
  ⟨(some 22), (Op.move (Operand.tmp 25)), none⟩,
  ⟨(some 26), (Op.extract (Operand.tmp 22) 0), none⟩,
  ⟨(some 27), (Op.extract (Operand.tmp 22) 1), none⟩,
  ⟨(some 8), (Op.assign (Operand.tmp 26)), none⟩,
  ⟨(some 9), (Op.assign (Operand.tmp 27)), none⟩]
attribute [go_sem] r85_3
def r85_4 : List PO := [⟨(some 28), (Op.move (Operand.tmp 8)), none⟩,
  ⟨(some 29), (Op.move (Operand.tmp 9)), none⟩,
  ⟨(some 4), (Op.assign (Operand.tmp 28)), none⟩,
  ⟨(some 5), (Op.assign (Operand.tmp 29)), none⟩]
attribute [go_sem] r85_4
def c85 : PC := (.seq (.reg r85_0) (.seq (.cond (Operand.const (Value.bool false)) .bad .skip) (.seq (.reg r85_3) (.seq (.reg r85_4) .ret))))
def i85 : FnI := ⟨30, [(ResultVar.tmp 4), (ResultVar.tmp 5)], c85, 0, [[0], [0]], [[0], [0]], false, false, 0, false⟩
-- slices.Repeat[[]int,int]
def r70_4 : List PO := [⟨(some 21), (Op.move (Operand.tmp 5)), none⟩,
  ⟨(some 22), (Op.binOp BinOp.gtr 98 (Operand.tmp 21) (Operand.const (Value.int IntKind.u64 0)) 98), none⟩,
  ⟨(some 23), (Op.move (Operand.tmp 22)), none⟩,
  ⟨(some 24), (Op.move (Operand.tmp 6)), (some (23, false))⟩,
  ⟨(some 25), (Op.binOp BinOp.gtr 98 (Operand.tmp 24) (Operand.const (Value.int IntKind.u64 9223372036854775807)) 98), (some (23, false))⟩,
  ⟨(some 26), (Op.pick (Operand.tmp 23) (Operand.const (Value.bool true)) (Operand.tmp 25)), none⟩]
attribute [go_sem] r70_4
def k70_1 : PC := (.post (.reg r70_4) ⟨[0, 6, 26], [], []⟩)
def r70_8 : List PO := [⟨(some 34), (Op.move (Operand.tmp 8)), none⟩,
  ⟨(some 35), (Op.move (Operand.tmp 7)), none⟩,
  ⟨(some 36), (Op.call { callee := (Callee.builtin Builtin.len), args := #[(Operand.tmp 35)], argTypes := #[38] }), none⟩,
  ⟨(some 37), (Op.binOp BinOp.lss 3 (Operand.tmp 34) (Operand.tmp 36) 3), none⟩]
attribute [go_sem] r70_8
def r70_9 : List PO := [⟨(some 38), (Op.move (Operand.tmp 8)), none⟩,
  ⟨(some 39), (Op.move (Operand.tmp 7)), none⟩,
  ⟨(some 40), (Op.move (Operand.tmp 8)), none⟩,
  ⟨(some 41), (Op.slice 38 (Operand.tmp 39) (some (Operand.tmp 40)) none none), none⟩,
  ⟨(some 42), (Op.move (Operand.tmp 7)), none⟩,
  ⟨(some 43), (Op.move (Operand.tmp 8)), none⟩,
  ⟨(some 44), (Op.slice 38 (Operand.tmp 42) none (some (Operand.tmp 43)) none), none⟩,
  ⟨(some 45), (Op.call { callee := (Callee.builtin Builtin.copy), args := #[(Operand.tmp 41), (Operand.tmp 44)], argTypes := #[38, 38] }), none⟩,
  ⟨(some 46), (Op.binOp BinOp.add 3 (Operand.tmp 38) (Operand.tmp 45) 3), none⟩,
  ⟨(some 8), (Op.assign (Operand.tmp 46)), none⟩]
attribute [go_sem] r70_9
def x70_9 : FxI := ⟨[7], [none, none, none, none, none, none, none, none, none, none], 0, [[], [7]], [], []⟩
attribute [go_sem] x70_9
def k70_2b : PC := (.seq (.seq (.reg r70_8) (.cond (Operand.tmp 37) .skip (.pre ⟨[7], [.old 0], []⟩ (.exit 0)))) (.block 1 (.post (.fx r70_9 x70_9) ⟨[7, 8], [.old 0], []⟩)))
def r70_0 : List PO := [⟨(some 4), (Op.assign (Operand.const (Value.slice none 0 0))), none⟩]
attribute [go_sem] r70_0
def r70_1 : List PO := [⟨(some 9), (Op.move (Operand.tmp 1)), none⟩,
  ⟨(some 10), (Op.binOp BinOp.lss 3 (Operand.tmp 9) (Operand.const (Value.int IntKind.i64 0)) 3), none⟩]
attribute [go_sem] r70_1
def r70_3 : List PO := [⟨(some 13), (Op.move (Operand.tmp 0)), none⟩,
  ⟨(some 14), (Op.call { callee := (Callee.builtin Builtin.len), args := #[(Operand.tmp 13)], argTypes := #[38] }), none⟩,
  ⟨(some 15), (Op.convert 3 98 (Operand.tmp 14)), none⟩,
  ⟨(some 16), (Op.move (Operand.tmp 1)), none⟩,
  ⟨(some 17), (Op.convert 3 98 (Operand.tmp 16)), none⟩,
  ⟨(some 18), (Op.call { callee := (Callee.value (Operand.func 85)), args := #[(Operand.tmp 15), (Operand.tmp 17)], argTypes := #[98, 98] }), none⟩,
  ⟨(some 12), (Op.move (Operand.tmp 18)), none⟩,
  ⟨(some 19), (Op.extract (Operand.tmp 12) 0), none⟩,
  ⟨(some 20), (Op.extract (Operand.tmp 12) 1), none⟩,
  ⟨(some 5), (Op.assign (Operand.tmp 19)), none⟩,
  ⟨(some 6), (Op.assign (Operand.tmp 20)), none⟩]
attribute [go_sem] r70_3
def r70_6 : List PO := [⟨(some 28), (Op.move (Operand.tmp 6)), none⟩,
  ⟨(some 29), (Op.convert 98 3 (Operand.tmp 28)), none⟩,
  ⟨(some 30), (Op.makeSlice 38 (Operand.tmp 29) (Operand.tmp 29)), none⟩,
  ⟨(some 7), (Op.assign (Operand.tmp 30)), none⟩]
attribute [go_sem] r70_6
def r70_7 : List PO := [⟨(some 31), (Op.move (Operand.tmp 7)), none⟩,
  ⟨(some 32), (Op.move (Operand.tmp 0)), none⟩,
  ⟨(some 33), (Op.call { callee := (Callee.builtin Builtin.copy), args := #[(Operand.tmp 31), (Operand.tmp 32)], argTypes := #[38, 38] }), none⟩,
  ⟨(some 8), (Op.assign (Operand.tmp 33)), none⟩]
attribute [go_sem] r70_7
def r70_10 : List PO := [⟨(some 47), (Op.move (Operand.tmp 7)), none⟩,
  ⟨(some 4), (Op.assign (Operand.tmp 47)), none⟩]
attribute [go_sem] r70_10
def c70 : PC := (.seq (.reg r70_0) (.seq (.seq (.reg r70_1) (.cond (Operand.tmp 10) .bad .skip)) (.seq (.reg r70_3) (.seq (.seq (.pre ⟨[0, 5, 6], [], []⟩ k70_1) (.cond (Operand.tmp 26) .bad .skip)) (.seq (.reg r70_6) (.seq (.reg r70_7) (.seq (.block 0 (.pre ⟨[7, 8], [.old 0], []⟩ (.loop k70_2b))) (.seq (.reg r70_10) .ret))))))))
def i70 : FnI := ⟨48, [(ResultVar.tmp 4)], c70, 0, [[1], [0]], [[1]], false, false, 0, false⟩
-- loop.example/g00344/impl.labelOf$1
def r84_1 : List PO := [⟨(some 5), (Op.fieldAddr 75 (Operand.tmp 3) 0), none⟩,
  ⟨(some 6), (Op.load 3 (Operand.tmp 5)), none⟩,
  ⟨(some 7), (Op.load 3 (Operand.tmp 1)), none⟩,
  ⟨(some 8), (Op.binOp BinOp.eql 3 (Operand.tmp 6) (Operand.tmp 7) 3), none⟩,
  ⟨(some 9), (Op.move (Operand.tmp 8)), none⟩,
  ⟨(some 10), (Op.fieldAddr 75 (Operand.tmp 3) 1), (some (9, true))⟩,
  ⟨(some 11), (Op.load 3 (Operand.tmp 10)), (some (9, true))⟩,
  ⟨(some 12), (Op.load 3 (Operand.tmp 2)), (some (9, true))⟩,
  ⟨(some 13), (Op.binOp BinOp.eql 3 (Operand.tmp 11) (Operand.tmp 12) 3), (some (9, true))⟩,
  ⟨(some 14), (Op.pick (Operand.tmp 9) (Operand.tmp 13) (Operand.const (Value.bool false))), none⟩,
  ⟨(some 4), (Op.assign (Operand.tmp 14)), none⟩]
attribute [go_sem] r84_1
def k84_1 : PC := (.post (.reg r84_1) ⟨[4], [], []⟩)
def r84_0 : List PO := [⟨(some 3), (Op.box 75 (Operand.tmp 0)), none⟩,
  ⟨(some 4), (Op.assign (Operand.const (Value.bool false))), none⟩]
attribute [go_sem] r84_0
def c84 : PC := (.seq (.reg r84_0) (.seq (.pre ⟨[1, 2, 3], [.old 0], []⟩ k84_1) .ret))
def i84 : FnI := ⟨15, [(ResultVar.tmp 4)], c84, 0, [[0, 0, 0], [0], [0]], [[0]], false, false, 0, false⟩
-- loop.example/g00344/impl.labelOf
def r66_0 : List PO := [⟨(some 4), (Op.box 3 (Operand.tmp 1)), none⟩,
  ⟨(some 5), (Op.box 3 (Operand.tmp 2)), none⟩,
  ⟨(some 6), (Op.assign (Operand.const (Value.int IntKind.i64 0))), none⟩,
  ⟨(some 7), (Op.assign (Operand.const (Value.bool false))), none⟩]
attribute [go_sem] r66_0
def r66_1 : List PO := [⟨(some 9), (Op.move (Operand.tmp 0)), none⟩,
  ⟨(some 10), (Op.makeFunc (Fn.func 84) #[] #[(Operand.tmp 4), (Operand.tmp 5)]), none⟩,
  ⟨(some 11), (Op.call { callee := (Callee.value (Operand.func 83)), args := #[(Operand.tmp 9), (Operand.tmp 10)], argTypes := #[42, 96] }), none⟩,
  ⟨(some 8), (Op.assign (Operand.tmp 11)), none⟩]
attribute [go_sem] r66_1
def r66_2 : List PO := [⟨(some 12), (Op.move (Operand.tmp 8)), none⟩,
  ⟨(some 13), (Op.binOp BinOp.lss 3 (Operand.tmp 12) (Operand.const (Value.int IntKind.i64 0)) 3), none⟩]
attribute [go_sem] r66_2
def r66_3 : List PO := [⟨(some 6), (Op.assign (Operand.const (Value.int IntKind.i64 0))), none⟩,
  ⟨(some 7), (Op.assign (Operand.const (Value.bool false))), none⟩]
attribute [go_sem] r66_3
def r66_4 : List PO := [⟨(some 14), (Op.move (Operand.tmp 0)), none⟩,
  ⟨(some 15), (Op.move (Operand.tmp 8)), none⟩,
  ⟨(some 16), (Op.indexAddr 42 (Operand.tmp 14) (Operand.tmp 15)), none⟩,
  ⟨(some 17), (Op.fieldAddr 75 (Operand.tmp 16) 2), none⟩,
  ⟨(some 18), (Op.load 3 (Operand.tmp 17)), none⟩,
  ⟨(some 6), (Op.assign (Operand.tmp 18)), none⟩,
  ⟨(some 7), (Op.assign (Operand.const (Value.bool true))), none⟩]
attribute [go_sem] r66_4
def c66 : PC := (.seq (.reg r66_0) (.seq (.reg r66_1) (.seq (.seq (.reg r66_2) (.cond (Operand.tmp 13) (.seq (.reg r66_3) .ret) .skip)) (.seq (.reg r66_4) .ret))))
def i66 : FnI := ⟨19, [(ResultVar.tmp 6), (ResultVar.tmp 7)], c66, 0, [[3], [0], [0]], [[0], [0]], false, false, 0, false⟩
-- loop.example/g00344/impl.BestTo
def r38_1 : List PO := [⟨(some 16), (Op.load 27 (Operand.tmp 3)), none⟩,
  ⟨(some 17), (Op.move (Operand.tmp 1)), none⟩,
  ⟨(some 18), (Op.call { callee := (Callee.value (Operand.func 63)), args := #[(Operand.tmp 16), (Operand.tmp 17)], argTypes := #[27, 42] }), none⟩,
  ⟨(some 19), (Op.unOp UnOp.not 4 (Operand.tmp 18)), none⟩,
  ⟨(some 20), (Op.move (Operand.tmp 19)), none⟩,
  ⟨(some 21), (Op.move (Operand.tmp 2)), (some (20, false))⟩,
  ⟨(some 22), (Op.call { callee := (Callee.value (Operand.func 64)), args := #[(Operand.tmp 21)], argTypes := #[3] }), (some (20, false))⟩,
  ⟨(some 23), (Op.unOp UnOp.not 4 (Operand.tmp 22)), (some (20, false))⟩,
  ⟨(some 24), (Op.pick (Operand.tmp 20) (Operand.const (Value.bool true)) (Operand.tmp 23)), none⟩]
attribute [go_sem] r38_1
def k38_1 : PC := (.post (.reg r38_1) ⟨[1, 2, 3, 24], [.old 0], []⟩)
def r38_12 : List PO := [⟨(some 42), (Op.move (Operand.tmp 9)), none⟩,
  ⟨(some 43), (Op.move (Operand.tmp 11)), none⟩,
  ⟨(some 44), (Op.indexAddr 84 (Operand.tmp 42) (Operand.tmp 43)), none⟩,
  ⟨(some 45), (Op.load 4 (Operand.tmp 44)), none⟩,
  ⟨(some 46), (Op.unOp UnOp.not 4 (Operand.tmp 45)), none⟩,
  ⟨(some 47), (Op.move (Operand.tmp 46)), none⟩,
  ⟨(some 48), (Op.move (Operand.tmp 10)), (some (47, true))⟩,
  ⟨(some 49), (Op.binOp BinOp.lss 3 (Operand.tmp 48) (Operand.const (Value.int IntKind.i64 0)) 3), (some (47, true))⟩,
  ⟨(some 50), (Op.move (Operand.tmp 49)), (some (47, true))⟩,
  ⟨(some 51), (Op.move (Operand.tmp 12)), (some (50, false))⟩,
  ⟨(some 52), (Op.move (Operand.tmp 8)), (some (50, false))⟩,
  ⟨(some 53), (Op.move (Operand.tmp 10)), (some (50, false))⟩,
  ⟨(some 54), (Op.indexAddr 38 (Operand.tmp 52) (Operand.tmp 53)), (some (50, false))⟩,
  ⟨(some 55), (Op.load 3 (Operand.tmp 54)), (some (50, false))⟩,
  ⟨(some 56), (Op.binOp BinOp.lss 3 (Operand.tmp 51) (Operand.tmp 55) 3), (some (50, false))⟩,
  ⟨(some 57), (Op.pick (Operand.tmp 50) (Operand.const (Value.bool true)) (Operand.tmp 56)), (some (47, true))⟩,
  ⟨(some 58), (Op.pick (Operand.tmp 47) (Operand.tmp 57) (Operand.const (Value.bool false))), none⟩]
attribute [go_sem] r38_12
def k38_16 : PC := (.post (.reg r38_12) ⟨[1, 3, 8, 9, 10, 11, 33, 35, 36, 37, 58], [.old 0, .old 1, .old 2], []⟩)
def r38_13 : List PO := [⟨(some 59), (Op.move (Operand.tmp 11)), none⟩,
  ⟨(some 10), (Op.assign (Operand.tmp 59)), none⟩]
attribute [go_sem] r38_13
def k38_17 : PC := (.cond (Operand.tmp 58) (.post (.reg r38_13) ⟨[1, 3, 8, 9, 10, 33, 35, 36, 37], [.old 0, .old 1, .old 2], []⟩) (.post .skip ⟨[1, 3, 8, 9, 10, 33, 35, 36, 37], [.old 0, .old 1, .old 2], []⟩))
def r38_10 : List PO := [⟨(some 38), (Op.binOp BinOp.lss 3 (Operand.tmp 37) (Operand.tmp 36) 3), none⟩]
attribute [go_sem] r38_10
def r38_11 : List PO := [⟨(some 39), (Op.move (Operand.tmp 37)), none⟩,
  ⟨(some 40), (Op.indexAddr 38 (Operand.tmp 35) (Operand.tmp 37)), none⟩,
  ⟨(some 41), (Op.load 3 (Operand.tmp 40)), none⟩,
  ⟨(some 11), (Op.assign (Operand.tmp 39)), none⟩,
  ⟨(some 12), (Op.assign (Operand.tmp 41)), none⟩]
attribute [go_sem] r38_11
def r38_14 : List PO := [⟨(some 60), (Op.binOp BinOp.add 3 (Operand.tmp 37) (Operand.const (Value.int IntKind.i64 1)) 3), none⟩,
  ⟨(some 37), (Op.move (Operand.tmp 60)), none⟩]
attribute [go_sem] r38_14
def k38_13b : PC := (.seq (.reg r38_10) (.seq (.cond (Operand.tmp 38) .skip (.pre ⟨[1, 3, 8, 9, 10, 33], [.old 0, .old 1, .old 2], []⟩ (.exit 2))) (.seq (.block 3 (.seq (.reg r38_11) (.seq (.pre ⟨[1, 3, 8, 9, 10, 11, 12, 33, 35, 36, 37], [.old 0, .old 1, .old 2], []⟩ k38_16) (.pre ⟨[1, 3, 8, 9, 10, 11, 33, 35, 36, 37, 58], [.old 0, .old 1, .old 2], []⟩ k38_17)))) (.post (.reg r38_14) ⟨[1, 3, 8, 9, 10, 33, 35, 36, 37], [.old 0, .old 1, .old 2], []⟩))))
def r38_20 : List PO := [⟨(some 74), (Op.move (Operand.tmp 15)), none⟩,
  ⟨(some 75), (Op.move (Operand.tmp 74)), none⟩,
  ⟨(some 76), (Op.move (Operand.tmp 9)), (some (75, true))⟩,
  ⟨(some 77), (Op.move (Operand.tmp 13)), (some (75, true))⟩,
  ⟨(some 78), (Op.indexAddr 84 (Operand.tmp 76) (Operand.tmp 77)), (some (75, true))⟩,
  ⟨(some 79), (Op.load 4 (Operand.tmp 78)), (some (75, true))⟩,
  ⟨(some 80), (Op.unOp UnOp.not 4 (Operand.tmp 79)), (some (75, true))⟩,
  ⟨(some 81), (Op.pick (Operand.tmp 75) (Operand.tmp 80) (Operand.const (Value.bool false))), none⟩]
attribute [go_sem] r38_20
def k38_21 : PC := (.post (.reg r38_20) ⟨[1, 3, 8, 9, 10, 13, 14, 33, 64, 81], [.old 0, .old 1, .old 2], []⟩)
def r38_21 : List PO := [⟨(some 82), (Op.move (Operand.tmp 8)), none⟩,
  ⟨(some 83), (Op.move (Operand.tmp 13)), none⟩,
  ⟨(some 84), (Op.move (Operand.tmp 8)), none⟩,
  ⟨(some 85), (Op.move (Operand.tmp 13)), none⟩,
  ⟨(some 86), (Op.indexAddr 38 (Operand.tmp 84) (Operand.tmp 85)), none⟩,
  ⟨(some 87), (Op.load 3 (Operand.tmp 86)), none⟩,
  ⟨(some 88), (Op.fieldAddr 27 (Operand.tmp 3) 1), none⟩,
  ⟨(some 89), (Op.load 22 (Operand.tmp 88)), none⟩,
  ⟨(some 90), (Op.move (Operand.tmp 14)), none⟩,
  ⟨(some 91), (Op.indexAddr 22 (Operand.tmp 89) (Operand.tmp 90)), none⟩,
  ⟨(some 92), (Op.load 38 (Operand.tmp 91)), none⟩,
  ⟨(some 93), (Op.move (Operand.tmp 8)), none⟩,
  ⟨(some 94), (Op.move (Operand.tmp 10)), none⟩,
  ⟨(some 95), (Op.indexAddr 38 (Operand.tmp 93) (Operand.tmp 94)), none⟩,
  ⟨(some 96), (Op.load 3 (Operand.tmp 95)), none⟩,
  ⟨(some 97), (Op.indexAddr 38 (Operand.tmp 92) (Operand.tmp 96)), none⟩,
  ⟨(some 98), (Op.load 3 (Operand.tmp 97)), none⟩,
  ⟨(some 99), (Op.call { callee := (Callee.builtin Builtin.min), args := #[(Operand.tmp 87), (Operand.tmp 98)], argTypes := #[3, 3] }), none⟩,
  ⟨(some 100), (Op.indexAddr 38 (Operand.tmp 82) (Operand.tmp 83)), none⟩,
  ⟨none, (Op.store 3 (Operand.tmp 100) (Operand.tmp 99)), none⟩]
attribute [go_sem] r38_21
def x38_21 : FxI := ⟨[19], [none, none, none, none, none, none, none, none, none, none, none, none, none, none, none, none, none, none, none, none], 0, [[], [19]], [], []⟩
attribute [go_sem] x38_21
def k38_22 : PC := (.cond (Operand.tmp 81) (.post (.fx r38_21 x38_21) ⟨[1, 3, 8, 9, 10, 33, 64], [.old 0, .old 1, .old 2], []⟩) (.post .skip ⟨[1, 3, 8, 9, 10, 33, 64], [.old 0, .old 1, .old 2], []⟩))
def r38_17 : List PO := [⟨(some 65), (Op.binOp BinOp.lss 3 (Operand.tmp 64) (Operand.const (Value.int IntKind.i64 6)) 3), none⟩]
attribute [go_sem] r38_17
def r38_18 : List PO := [⟨(some 66), (Op.move (Operand.tmp 64)), none⟩,
  ⟨(some 13), (Op.assign (Operand.tmp 66)), none⟩]
attribute [go_sem] r38_18
def r38_19 : List PO := [⟨(some 68), (Op.move (Operand.tmp 1)), none⟩,
  ⟨(some 69), (Op.move (Operand.tmp 13)), none⟩,
  ⟨(some 70), (Op.move (Operand.tmp 10)), none⟩,
  ⟨(some 71), (Op.call { callee := (Callee.value (Operand.func 66)), args := #[(Operand.tmp 68), (Operand.tmp 69), (Operand.tmp 70)], argTypes := #[42, 3, 3] }), none⟩,
  ⟨(some 67), (Op.move (Operand.tmp 71)), none⟩,
  ⟨(some 72), (Op.extract (Operand.tmp 67) 0), none⟩,
  ⟨(some 73), (Op.extract (Operand.tmp 67) 1), none⟩,
  ⟨(some 14), (Op.assign (Operand.tmp 72)), none⟩,
  ⟨(some 15), (Op.assign (Operand.tmp 73)), none⟩]
attribute [go_sem] r38_19
def r38_22 : List PO := [⟨(some 101), (Op.binOp BinOp.add 3 (Operand.tmp 64) (Operand.const (Value.int IntKind.i64 1)) 3), none⟩,
  ⟨(some 64), (Op.move (Operand.tmp 101)), none⟩]
attribute [go_sem] r38_22
def k38_18b : PC := (.seq (.reg r38_17) (.seq (.cond (Operand.tmp 65) .skip (.pre ⟨[1, 3, 8, 9, 33], [.old 0, .old 1, .old 2], []⟩ (.exit 4))) (.seq (.block 5 (.seq (.reg r38_18) (.seq (.reg r38_19) (.seq (.pre ⟨[1, 3, 8, 9, 10, 13, 14, 15, 33, 64], [.old 0, .old 1, .old 2], []⟩ k38_21) (.pre ⟨[1, 3, 8, 9, 10, 13, 14, 33, 64, 81], [.old 0, .old 1, .old 2], []⟩ k38_22))))) (.post (.reg r38_22) ⟨[1, 3, 8, 9, 10, 33, 64], [.old 0, .old 1, .old 2], []⟩))))
def r38_7 : List PO := [⟨(some 34), (Op.binOp BinOp.lss 3 (Operand.tmp 33) (Operand.const (Value.int IntKind.i64 6)) 3), none⟩]
attribute [go_sem] r38_7
def r38_8 : List PO := [⟨(some 10), (Op.assign (Operand.const (Value.int IntKind.i64 (-1)))), none⟩]
attribute [go_sem] r38_8
def r38_9 : List PO := [⟨(some 35), (Op.move (Operand.tmp 8)), none⟩,
  ⟨(some 36), (Op.call { callee := (Callee.builtin Builtin.len), args := #[(Operand.tmp 35)], argTypes := #[38] }), none⟩,
  ⟨(some 37), (Op.move (Operand.const (Value.int IntKind.i64 0))), none⟩]
attribute [go_sem] r38_9
def r38_15 : List PO := [⟨(some 61), (Op.move (Operand.tmp 9)), none⟩,
  ⟨(some 62), (Op.move (Operand.tmp 10)), none⟩,
  ⟨(some 63), (Op.indexAddr 84 (Operand.tmp 61) (Operand.tmp 62)), none⟩,
  ⟨none, (Op.store 4 (Operand.tmp 63) (Operand.const (Value.bool true))), none⟩]
attribute [go_sem] r38_15
def r38_16 : List PO := [⟨(some 64), (Op.move (Operand.const (Value.int IntKind.i64 0))), none⟩]
attribute [go_sem] r38_16
def r38_23 : List PO := [⟨(some 102), (Op.binOp BinOp.add 3 (Operand.tmp 33) (Operand.const (Value.int IntKind.i64 1)) 3), none⟩,
  ⟨(some 33), (Op.move (Operand.tmp 102)), none⟩]
attribute [go_sem] r38_23
def k38_2b : PC := (.seq (.reg r38_7) (.seq (.cond (Operand.tmp 34) .skip (.pre ⟨[8], [.old 1], []⟩ (.exit 0))) (.seq (.block 1 (.seq (.reg r38_8) (.seq (.seq (.reg r38_9) (.block 2 (.pre ⟨[1, 3, 8, 9, 10, 33, 35, 36, 37], [.old 0, .old 1, .old 2], []⟩ (.loop k38_13b)))) (.seq (.reg r38_15) (.seq (.reg r38_16) (.block 4 (.pre ⟨[1, 3, 8, 9, 10, 33, 64], [.old 0, .old 1, .old 2], []⟩ (.loop k38_18b)))))))) (.post (.reg r38_23) ⟨[1, 3, 8, 9, 33], [.old 0, .old 1, .old 2], []⟩))))
def r38_0 : List PO := [⟨(some 3), (Op.box 27 (Operand.tmp 0)), none⟩,
  ⟨(some 6), (Op.assign (Operand.const (Value.slice none 0 0))), none⟩,
  ⟨(some 7), (Op.assign (Operand.const (Value.bool false))), none⟩]
attribute [go_sem] r38_0
def r38_2 : List PO := [⟨(some 6), (Op.assign (Operand.const (Value.slice none 0 0))), none⟩,
  ⟨(some 7), (Op.assign (Operand.const (Value.bool false))), none⟩]
attribute [go_sem] r38_2
def r38_3 : List PO := [⟨(some 25), (Op.load 27 (Operand.tmp 3)), none⟩,
  ⟨(some 26), (Op.call { callee := (Callee.value (Operand.func 51)), args := #[(Operand.tmp 25)], argTypes := #[27] }), none⟩,
  ⟨(some 27), (Op.buildSlice 38 1 #[(0, (Operand.tmp 26))]), none⟩,
  ⟨(some 28), (Op.call { callee := (Callee.value (Operand.func 70)), args := #[(Operand.tmp 27), (Operand.const (Value.int IntKind.i64 6))], argTypes := #[38, 3] }), none⟩,
  ⟨(some 8), (Op.assign (Operand.tmp 28)), none⟩]
attribute [go_sem] r38_3
def r38_4 : List PO := [⟨(some 29), (Op.move (Operand.tmp 8)), none⟩,
  ⟨(some 30), (Op.move (Operand.tmp 2)), none⟩,
  ⟨(some 31), (Op.indexAddr 38 (Operand.tmp 29) (Operand.tmp 30)), none⟩,
  ⟨none, (Op.store 3 (Operand.tmp 31) (Operand.const (Value.int IntKind.i64 0))), none⟩]
attribute [go_sem] r38_4
def r38_5 : List PO := [⟨(some 32), (Op.makeSlice 84 (Operand.const (Value.int IntKind.i64 6)) (Operand.const (Value.int IntKind.i64 6))), none⟩,
  ⟨(some 9), (Op.assign (Operand.tmp 32)), none⟩]
attribute [go_sem] r38_5
def r38_6 : List PO := [⟨(some 33), (Op.move (Operand.const (Value.int IntKind.i64 0))), none⟩]
attribute [go_sem] r38_6
def r38_24 : List PO := [⟨(some 103), (Op.move (Operand.tmp 8)), none⟩,
  ⟨(some 6), (Op.assign (Operand.tmp 103)), none⟩,
  ⟨(some 7), (Op.assign (Operand.const (Value.bool true))), none⟩]
attribute [go_sem] r38_24
def c38 : PC := (.seq (.reg r38_0) (.seq (.seq (.pre ⟨[1, 2, 3], [.old 0], []⟩ k38_1) (.cond (Operand.tmp 24) (.seq (.reg r38_2) .ret) .skip)) (.seq (.reg r38_3) (.seq (.reg r38_4) (.seq (.reg r38_5) (.seq (.seq (.reg r38_6) (.block 0 (.pre ⟨[1, 3, 8, 9, 33], [.old 0, .old 2, .old 3], []⟩ (.loop k38_2b)))) (.seq (.reg r38_24) .ret)))))))
def i38 : FnI := ⟨104, [(ResultVar.tmp 6), (ResultVar.tmp 7)], c38, 0, [[0, 1], [3], [0]], [[1], [0]], false, false, 0, false⟩
-- loop.example/g00344/laws.eqIntS
def r31_4 : List PO := [⟨(some 11), (Op.move (Operand.tmp 5)), none⟩,
  ⟨(some 12), (Op.move (Operand.tmp 0)), none⟩,
  ⟨(some 13), (Op.call { callee := (Callee.builtin Builtin.len), args := #[(Operand.tmp 12)], argTypes := #[38] }), none⟩,
  ⟨(some 14), (Op.binOp BinOp.lss 3 (Operand.tmp 11) (Operand.tmp 13) 3), none⟩]
attribute [go_sem] r31_4
def r31_6 : List PO := [⟨(some 17), (Op.move (Operand.tmp 0)), none⟩,
  ⟨(some 18), (Op.move (Operand.tmp 5)), none⟩,
  ⟨(some 19), (Op.indexAddr 38 (Operand.tmp 17) (Operand.tmp 18)), none⟩,
  ⟨(some 20), (Op.load 3 (Operand.tmp 19)), none⟩,
  ⟨(some 21), (Op.move (Operand.tmp 1)), none⟩,
  ⟨(some 22), (Op.move (Operand.tmp 5)), none⟩,
  ⟨(some 23), (Op.indexAddr 38 (Operand.tmp 21) (Operand.tmp 22)), none⟩,
  ⟨(some 24), (Op.load 3 (Operand.tmp 23)), none⟩,
  ⟨(some 25), (Op.binOp BinOp.neq 3 (Operand.tmp 20) (Operand.tmp 24) 3), none⟩]
attribute [go_sem] r31_6
def r31_7 : List PO := [⟨(some 4), (Op.assign (Operand.const (Value.bool false))), none⟩]
attribute [go_sem] r31_7
def r31_5 : List PO := [⟨(some 15), (Op.move (Operand.tmp 5)), none⟩,
  ⟨(some 16), (Op.binOp BinOp.add 3 (Operand.tmp 15) (Operand.const (Value.int IntKind.i64 1)) 3), none⟩,
  ⟨(some 5), (Op.assign (Operand.tmp 16)), none⟩]
attribute [go_sem] r31_5
def k31_1b : PC := (.seq (.seq (.reg r31_4) (.cond (Operand.tmp 14) .skip (.pre ⟨[], [], []⟩ (.exit 0)))) (.seq (.block 1 (.seq (.fz r31_6) (.cond (Operand.tmp 25) (.seq (.reg r31_7) (.pre ⟨[4], [], []⟩ .ret)) .skip))) (.post (.reg r31_5) ⟨[0, 1, 5], [], []⟩)))
def r31_0 : List PO := [⟨(some 4), (Op.assign (Operand.const (Value.bool false))), none⟩]
attribute [go_sem] r31_0
def r31_1 : List PO := [⟨(some 6), (Op.move (Operand.tmp 0)), none⟩,
  ⟨(some 7), (Op.call { callee := (Callee.builtin Builtin.len), args := #[(Operand.tmp 6)], argTypes := #[38] }), none⟩,
  ⟨(some 8), (Op.move (Operand.tmp 1)), none⟩,
  ⟨(some 9), (Op.call { callee := (Callee.builtin Builtin.len), args := #[(Operand.tmp 8)], argTypes := #[38] }), none⟩,
  ⟨(some 10), (Op.binOp BinOp.neq 3 (Operand.tmp 7) (Operand.tmp 9) 3), none⟩]
attribute [go_sem] r31_1
def r31_2 : List PO := [⟨(some 4), (Op.assign (Operand.const (Value.bool false))), none⟩]
attribute [go_sem] r31_2
def r31_3 : List PO := [⟨(some 5), (Op.assign (Operand.const (Value.int IntKind.i64 0))), none⟩]
attribute [go_sem] r31_3
def r31_8 : List PO := [⟨(some 4), (Op.assign (Operand.const (Value.bool true))), none⟩]
attribute [go_sem] r31_8
def c31 : PC := (.seq (.reg r31_0) (.seq (.seq (.reg r31_1) (.cond (Operand.tmp 10) (.seq (.reg r31_2) .ret) .skip)) (.seq (.seq (.reg r31_3) (.block 0 (.pre ⟨[0, 1, 5], [], []⟩ (.loop k31_1b)))) (.seq (.reg r31_8) .ret))))
def i31 : FnI := ⟨26, [(ResultVar.tmp 4)], c31, 0, [[1], [1]], [[0]], false, false, 0, false⟩
-- loop.example/g00344/laws.eqIntSS
def r54_4 : List PO := [⟨(some 11), (Op.move (Operand.tmp 5)), none⟩,
  ⟨(some 12), (Op.move (Operand.tmp 0)), none⟩,
  ⟨(some 13), (Op.call { callee := (Callee.builtin Builtin.len), args := #[(Operand.tmp 12)], argTypes := #[22] }), none⟩,
  ⟨(some 14), (Op.binOp BinOp.lss 3 (Operand.tmp 11) (Operand.tmp 13) 3), none⟩]
attribute [go_sem] r54_4
def r54_6 : List PO := [⟨(some 17), (Op.move (Operand.tmp 0)), none⟩,
  ⟨(some 18), (Op.move (Operand.tmp 5)), none⟩,
  ⟨(some 19), (Op.indexAddr 22 (Operand.tmp 17) (Operand.tmp 18)), none⟩,
  ⟨(some 20), (Op.load 38 (Operand.tmp 19)), none⟩,
  ⟨(some 21), (Op.move (Operand.tmp 1)), none⟩,
  ⟨(some 22), (Op.move (Operand.tmp 5)), none⟩,
  ⟨(some 23), (Op.indexAddr 22 (Operand.tmp 21) (Operand.tmp 22)), none⟩,
  ⟨(some 24), (Op.load 38 (Operand.tmp 23)), none⟩,
  ⟨(some 25), (Op.call { callee := (Callee.value (Operand.func 31)), args := #[(Operand.tmp 20), (Operand.tmp 24)], argTypes := #[38, 38] }), none⟩,
  ⟨(some 26), (Op.unOp UnOp.not 4 (Operand.tmp 25)), none⟩]
attribute [go_sem] r54_6
def r54_7 : List PO := [⟨(some 4), (Op.assign (Operand.const (Value.bool false))), none⟩]
attribute [go_sem] r54_7
def r54_5 : List PO := [⟨(some 15), (Op.move (Operand.tmp 5)), none⟩,
  ⟨(some 16), (Op.binOp BinOp.add 3 (Operand.tmp 15) (Operand.const (Value.int IntKind.i64 1)) 3), none⟩,
  ⟨(some 5), (Op.assign (Operand.tmp 16)), none⟩]
attribute [go_sem] r54_5
def k54_1b : PC := (.seq (.seq (.reg r54_4) (.cond (Operand.tmp 14) .skip (.pre ⟨[], [], []⟩ (.exit 0)))) (.seq (.block 1 (.seq (.fz r54_6) (.cond (Operand.tmp 26) (.seq (.reg r54_7) (.pre ⟨[4], [], []⟩ .ret)) .skip))) (.post (.reg r54_5) ⟨[0, 1, 5], [], []⟩)))
def r54_0 : List PO := [⟨(some 4), (Op.assign (Operand.const (Value.bool false))), none⟩]
attribute [go_sem] r54_0
def r54_1 : List PO := [⟨(some 6), (Op.move (Operand.tmp 0)), none⟩,
  ⟨(some 7), (Op.call { callee := (Callee.builtin Builtin.len), args := #[(Operand.tmp 6)], argTypes := #[22] }), none⟩,
  ⟨(some 8), (Op.move (Operand.tmp 1)), none⟩,
  ⟨(some 9), (Op.call { callee := (Callee.builtin Builtin.len), args := #[(Operand.tmp 8)], argTypes := #[22] }), none⟩,
  ⟨(some 10), (Op.binOp BinOp.neq 3 (Operand.tmp 7) (Operand.tmp 9) 3), none⟩]
attribute [go_sem] r54_1
def r54_2 : List PO := [⟨(some 4), (Op.assign (Operand.const (Value.bool false))), none⟩]
attribute [go_sem] r54_2
def r54_3 : List PO := [⟨(some 5), (Op.assign (Operand.const (Value.int IntKind.i64 0))), none⟩]
attribute [go_sem] r54_3
def r54_8 : List PO := [⟨(some 4), (Op.assign (Operand.const (Value.bool true))), none⟩]
attribute [go_sem] r54_8
def c54 : PC := (.seq (.reg r54_0) (.seq (.seq (.reg r54_1) (.cond (Operand.tmp 10) (.seq (.reg r54_2) .ret) .skip)) (.seq (.seq (.reg r54_3) (.block 0 (.pre ⟨[0, 1, 5], [], []⟩ (.loop k54_1b)))) (.seq (.reg r54_8) .ret))))
def i54 : FnI := ⟨27, [(ResultVar.tmp 4)], c54, 0, [[1], [1]], [[0]], false, false, 0, false⟩
-- loop.example/g00344/laws.eqAlgebra
def r16_0 : List PO := [⟨(some 2), (Op.box 27 (Operand.tmp 0)), none⟩,
  ⟨(some 3), (Op.box 27 (Operand.tmp 1)), none⟩,
  ⟨(some 4), (Op.assign (Operand.const (Value.bool false))), none⟩]
attribute [go_sem] r16_0
def r16_1 : List PO := [⟨(some 5), (Op.fieldAddr 27 (Operand.tmp 2) 0), none⟩,
  ⟨(some 6), (Op.load 3 (Operand.tmp 5)), none⟩,
  ⟨(some 7), (Op.fieldAddr 27 (Operand.tmp 3) 0), none⟩,
  ⟨(some 8), (Op.load 3 (Operand.tmp 7)), none⟩,
  ⟨(some 9), (Op.binOp BinOp.neq 3 (Operand.tmp 6) (Operand.tmp 8) 3), none⟩]
attribute [go_sem] r16_1
def r16_2 : List PO := [⟨(some 4), (Op.assign (Operand.const (Value.bool false))), none⟩]
attribute [go_sem] r16_2
def r16_3 : List PO := [⟨(some 10), (Op.fieldAddr 27 (Operand.tmp 2) 1), none⟩,
  ⟨(some 11), (Op.load 22 (Operand.tmp 10)), none⟩,
  ⟨(some 12), (Op.fieldAddr 27 (Operand.tmp 3) 1), none⟩,
  ⟨(some 13), (Op.load 22 (Operand.tmp 12)), none⟩,
  ⟨(some 14), (Op.call { callee := (Callee.value (Operand.func 54)), args := #[(Operand.tmp 11), (Operand.tmp 13)], argTypes := #[22, 22] }), none⟩,
  ⟨(some 15), (Op.unOp UnOp.not 4 (Operand.tmp 14)), none⟩]
attribute [go_sem] r16_3
def r16_4 : List PO := [⟨(some 4), (Op.assign (Operand.const (Value.bool false))), none⟩]
attribute [go_sem] r16_4
def r16_5 : List PO := [⟨(some 4), (Op.assign (Operand.const (Value.bool true))), none⟩]
attribute [go_sem] r16_5
def c16 : PC := (.seq (.reg r16_0) (.seq (.seq (.reg r16_1) (.cond (Operand.tmp 9) (.seq (.reg r16_2) .ret) .skip)) (.seq (.seq (.reg r16_3) (.cond (Operand.tmp 15) (.seq (.reg r16_4) .ret) .skip)) (.seq (.reg r16_5) .ret))))
def i16 : FnI := ⟨16, [(ResultVar.tmp 4)], c16, 0, [[0, 1], [0, 1]], [[0]], false, false, 0, false⟩
-- loop.example/g00344/laws.eqArc
def r67_0 : List PO := [⟨(some 2), (Op.box 75 (Operand.tmp 0)), none⟩,
  ⟨(some 3), (Op.box 75 (Operand.tmp 1)), none⟩,
  ⟨(some 4), (Op.assign (Operand.const (Value.bool false))), none⟩]
attribute [go_sem] r67_0
def r67_1 : List PO := [⟨(some 5), (Op.fieldAddr 75 (Operand.tmp 2) 0), none⟩,
  ⟨(some 6), (Op.load 3 (Operand.tmp 5)), none⟩,
  ⟨(some 7), (Op.fieldAddr 75 (Operand.tmp 3) 0), none⟩,
  ⟨(some 8), (Op.load 3 (Operand.tmp 7)), none⟩,
  ⟨(some 9), (Op.binOp BinOp.neq 3 (Operand.tmp 6) (Operand.tmp 8) 3), none⟩]
attribute [go_sem] r67_1
def r67_2 : List PO := [⟨(some 4), (Op.assign (Operand.const (Value.bool false))), none⟩]
attribute [go_sem] r67_2
def r67_3 : List PO := [⟨(some 10), (Op.fieldAddr 75 (Operand.tmp 2) 1), none⟩,
  ⟨(some 11), (Op.load 3 (Operand.tmp 10)), none⟩,
  ⟨(some 12), (Op.fieldAddr 75 (Operand.tmp 3) 1), none⟩,
  ⟨(some 13), (Op.load 3 (Operand.tmp 12)), none⟩,
  ⟨(some 14), (Op.binOp BinOp.neq 3 (Operand.tmp 11) (Operand.tmp 13) 3), none⟩]
attribute [go_sem] r67_3
def r67_4 : List PO := [⟨(some 4), (Op.assign (Operand.const (Value.bool false))), none⟩]
attribute [go_sem] r67_4
def r67_5 : List PO := [⟨(some 15), (Op.fieldAddr 75 (Operand.tmp 2) 2), none⟩,
  ⟨(some 16), (Op.load 3 (Operand.tmp 15)), none⟩,
  ⟨(some 17), (Op.fieldAddr 75 (Operand.tmp 3) 2), none⟩,
  ⟨(some 18), (Op.load 3 (Operand.tmp 17)), none⟩,
  ⟨(some 19), (Op.binOp BinOp.neq 3 (Operand.tmp 16) (Operand.tmp 18) 3), none⟩]
attribute [go_sem] r67_5
def r67_6 : List PO := [⟨(some 4), (Op.assign (Operand.const (Value.bool false))), none⟩]
attribute [go_sem] r67_6
def r67_7 : List PO := [⟨(some 4), (Op.assign (Operand.const (Value.bool true))), none⟩]
attribute [go_sem] r67_7
def c67 : PC := (.seq (.reg r67_0) (.seq (.seq (.reg r67_1) (.cond (Operand.tmp 9) (.seq (.reg r67_2) .ret) .skip)) (.seq (.seq (.reg r67_3) (.cond (Operand.tmp 14) (.seq (.reg r67_4) .ret) .skip)) (.seq (.seq (.reg r67_5) (.cond (Operand.tmp 19) (.seq (.reg r67_6) .ret) .skip)) (.seq (.reg r67_7) .ret)))))
def i67 : FnI := ⟨20, [(ResultVar.tmp 4)], c67, 0, [[0, 0, 0], [0, 0, 0]], [[0]], false, false, 0, false⟩
-- loop.example/g00344/laws.eqArcS
def r30_4 : List PO := [⟨(some 11), (Op.move (Operand.tmp 5)), none⟩,
  ⟨(some 12), (Op.move (Operand.tmp 0)), none⟩,
  ⟨(some 13), (Op.call { callee := (Callee.builtin Builtin.len), args := #[(Operand.tmp 12)], argTypes := #[42] }), none⟩,
  ⟨(some 14), (Op.binOp BinOp.lss 3 (Operand.tmp 11) (Operand.tmp 13) 3), none⟩]
attribute [go_sem] r30_4
def r30_6 : List PO := [⟨(some 17), (Op.move (Operand.tmp 0)), none⟩,
  ⟨(some 18), (Op.move (Operand.tmp 5)), none⟩,
  ⟨(some 19), (Op.indexAddr 42 (Operand.tmp 17) (Operand.tmp 18)), none⟩,
  ⟨(some 20), (Op.load 75 (Operand.tmp 19)), none⟩,
  ⟨(some 21), (Op.move (Operand.tmp 1)), none⟩,
  ⟨(some 22), (Op.move (Operand.tmp 5)), none⟩,
  ⟨(some 23), (Op.indexAddr 42 (Operand.tmp 21) (Operand.tmp 22)), none⟩,
  ⟨(some 24), (Op.load 75 (Operand.tmp 23)), none⟩,
  ⟨(some 25), (Op.call { callee := (Callee.value (Operand.func 67)), args := #[(Operand.tmp 20), (Operand.tmp 24)], argTypes := #[75, 75] }), none⟩,
  ⟨(some 26), (Op.unOp UnOp.not 4 (Operand.tmp 25)), none⟩]
attribute [go_sem] r30_6
def r30_7 : List PO := [⟨(some 4), (Op.assign (Operand.const (Value.bool false))), none⟩]
attribute [go_sem] r30_7
def r30_5 : List PO := [⟨(some 15), (Op.move (Operand.tmp 5)), none⟩,
  ⟨(some 16), (Op.binOp BinOp.add 3 (Operand.tmp 15) (Operand.const (Value.int IntKind.i64 1)) 3), none⟩,
  ⟨(some 5), (Op.assign (Operand.tmp 16)), none⟩]
attribute [go_sem] r30_5
def k30_1b : PC := (.seq (.seq (.reg r30_4) (.cond (Operand.tmp 14) .skip (.pre ⟨[], [], []⟩ (.exit 0)))) (.seq (.block 1 (.seq (.fz r30_6) (.cond (Operand.tmp 26) (.seq (.reg r30_7) (.pre ⟨[4], [], []⟩ .ret)) .skip))) (.post (.reg r30_5) ⟨[0, 1, 5], [], []⟩)))
def r30_0 : List PO := [⟨(some 4), (Op.assign (Operand.const (Value.bool false))), none⟩]
attribute [go_sem] r30_0
def r30_1 : List PO := [⟨(some 6), (Op.move (Operand.tmp 0)), none⟩,
  ⟨(some 7), (Op.call { callee := (Callee.builtin Builtin.len), args := #[(Operand.tmp 6)], argTypes := #[42] }), none⟩,
  ⟨(some 8), (Op.move (Operand.tmp 1)), none⟩,
  ⟨(some 9), (Op.call { callee := (Callee.builtin Builtin.len), args := #[(Operand.tmp 8)], argTypes := #[42] }), none⟩,
  ⟨(some 10), (Op.binOp BinOp.neq 3 (Operand.tmp 7) (Operand.tmp 9) 3), none⟩]
attribute [go_sem] r30_1
def r30_2 : List PO := [⟨(some 4), (Op.assign (Operand.const (Value.bool false))), none⟩]
attribute [go_sem] r30_2
def r30_3 : List PO := [⟨(some 5), (Op.assign (Operand.const (Value.int IntKind.i64 0))), none⟩]
attribute [go_sem] r30_3
def r30_8 : List PO := [⟨(some 4), (Op.assign (Operand.const (Value.bool true))), none⟩]
attribute [go_sem] r30_8
def c30 : PC := (.seq (.reg r30_0) (.seq (.seq (.reg r30_1) (.cond (Operand.tmp 10) (.seq (.reg r30_2) .ret) .skip)) (.seq (.seq (.reg r30_3) (.block 0 (.pre ⟨[0, 1, 5], [], []⟩ (.loop k30_1b)))) (.seq (.reg r30_8) .ret))))
def i30 : FnI := ⟨27, [(ResultVar.tmp 4)], c30, 0, [[3], [3]], [[0]], false, false, 0, false⟩
-- loop.example/g00344/laws.markIntS
def r35_2 : List PO := [⟨(some 6), (Op.move (Operand.tmp 5)), none⟩,
  ⟨(some 7), (Op.move (Operand.tmp 0)), none⟩,
  ⟨(some 8), (Op.call { callee := (Callee.builtin Builtin.len), args := #[(Operand.tmp 7)], argTypes := #[38] }), none⟩,
  ⟨(some 9), (Op.binOp BinOp.lss 3 (Operand.tmp 6) (Operand.tmp 8) 3), none⟩]
attribute [go_sem] r35_2
def r35_4 : List PO := [⟨(some 12), (Op.move (Operand.tmp 0)), none⟩,
  ⟨(some 13), (Op.move (Operand.tmp 5)), none⟩,
  ⟨(some 14), (Op.move (Operand.tmp 1)), none⟩,
  ⟨(some 15), (Op.indexAddr 38 (Operand.tmp 12) (Operand.tmp 13)), none⟩,
  ⟨none, (Op.store 3 (Operand.tmp 15) (Operand.tmp 14)), none⟩]
attribute [go_sem] r35_4
def r35_5 : List PO := [⟨(some 16), (Op.move (Operand.tmp 1)), none⟩,
  ⟨(some 17), (Op.binOp BinOp.add 3 (Operand.tmp 16) (Operand.const (Value.int IntKind.i64 1)) 3), none⟩,
  ⟨(some 1), (Op.assign (Operand.tmp 17)), none⟩]
attribute [go_sem] r35_5
def r35_3 : List PO := [⟨(some 10), (Op.move (Operand.tmp 5)), none⟩,
  ⟨(some 11), (Op.binOp BinOp.add 3 (Operand.tmp 10) (Operand.const (Value.int IntKind.i64 1)) 3), none⟩,
  ⟨(some 5), (Op.assign (Operand.tmp 11)), none⟩]
attribute [go_sem] r35_3
def k35_1b : PC := (.seq (.seq (.reg r35_2) (.cond (Operand.tmp 9) .skip (.pre ⟨[1], [], []⟩ (.exit 0)))) (.seq (.block 1 (.seq (.reg r35_4) (.reg r35_5))) (.post (.reg r35_3) ⟨[0, 1, 5], [], []⟩)))
def r35_0 : List PO := [⟨(some 4), (Op.assign (Operand.const (Value.int IntKind.i64 0))), none⟩]
attribute [go_sem] r35_0
def r35_1 : List PO := [⟨(some 5), (Op.assign (Operand.const (Value.int IntKind.i64 0))), none⟩]
attribute [go_sem] r35_1
def r35_6 : List PO := [⟨(some 18), (Op.move (Operand.tmp 1)), none⟩,
  ⟨(some 4), (Op.assign (Operand.tmp 18)), none⟩]
attribute [go_sem] r35_6
def c35 : PC := (.seq (.reg r35_0) (.seq (.seq (.reg r35_1) (.block 0 (.pre ⟨[0, 1, 5], [], []⟩ (.loop k35_1b)))) (.seq (.reg r35_6) (.pre ⟨[4], [], []⟩ .ret))))
def i35 : FnI := ⟨19, [(ResultVar.tmp 4)], c35, 3, [[1], [0]], [[0]], false, true, 1, false⟩
-- loop.example/g00344/laws.markIntSS
def r57_2 : List PO := [⟨(some 6), (Op.move (Operand.tmp 5)), none⟩,
  ⟨(some 7), (Op.move (Operand.tmp 0)), none⟩,
  ⟨(some 8), (Op.call { callee := (Callee.builtin Builtin.len), args := #[(Operand.tmp 7)], argTypes := #[22] }), none⟩,
  ⟨(some 9), (Op.binOp BinOp.lss 3 (Operand.tmp 6) (Operand.tmp 8) 3), none⟩]
attribute [go_sem] r57_2
def r57_4 : List PO := [⟨(some 12), (Op.move (Operand.tmp 0)), none⟩,
  ⟨(some 13), (Op.move (Operand.tmp 5)), none⟩,
  ⟨(some 14), (Op.indexAddr 22 (Operand.tmp 12) (Operand.tmp 13)), none⟩,
  ⟨(some 15), (Op.load 38 (Operand.tmp 14)), none⟩,
  ⟨(some 16), (Op.move (Operand.tmp 1)), none⟩,
  ⟨(some 17), (Op.call { callee := (Callee.value (Operand.func 35)), args := #[(Operand.tmp 15), (Operand.tmp 16)], argTypes := #[38, 3] }), none⟩,
  ⟨(some 1), (Op.assign (Operand.tmp 17)), none⟩]
attribute [go_sem] r57_4
def r57_3 : List PO := [⟨(some 10), (Op.move (Operand.tmp 5)), none⟩,
  ⟨(some 11), (Op.binOp BinOp.add 3 (Operand.tmp 10) (Operand.const (Value.int IntKind.i64 1)) 3), none⟩,
  ⟨(some 5), (Op.assign (Operand.tmp 11)), none⟩]
attribute [go_sem] r57_3
def k57_1b : PC := (.seq (.seq (.reg r57_2) (.cond (Operand.tmp 9) .skip (.pre ⟨[1], [], []⟩ (.exit 0)))) (.seq (.block 1 (.nest r57_4 3 2)) (.post (.reg r57_3) ⟨[0, 1, 5], [], []⟩)))
def r57_0 : List PO := [⟨(some 4), (Op.assign (Operand.const (Value.int IntKind.i64 0))), none⟩]
attribute [go_sem] r57_0
def r57_1 : List PO := [⟨(some 5), (Op.assign (Operand.const (Value.int IntKind.i64 0))), none⟩]
attribute [go_sem] r57_1
def r57_5 : List PO := [⟨(some 18), (Op.move (Operand.tmp 1)), none⟩,
  ⟨(some 4), (Op.assign (Operand.tmp 18)), none⟩]
attribute [go_sem] r57_5
def c57 : PC := (.seq (.reg r57_0) (.seq (.seq (.reg r57_1) (.block 0 (.pre ⟨[0, 1, 5], [], []⟩ (.loop k57_1b)))) (.seq (.reg r57_5) (.pre ⟨[4], [], []⟩ .ret))))
def i57 : FnI := ⟨19, [(ResultVar.tmp 4)], c57, 3, [[1], [0]], [[0]], false, true, 1, true⟩
-- loop.example/g00344/laws.markAlgebra
def r23_0 : List PO := [⟨(some 2), (Op.box 27 (Operand.tmp 0)), none⟩,
  ⟨(some 4), (Op.assign (Operand.const (Value.int IntKind.i64 0))), none⟩]
attribute [go_sem] r23_0
def r23_1 : List PO := [⟨(some 5), (Op.fieldAddr 27 (Operand.tmp 2) 1), none⟩,
  ⟨(some 6), (Op.load 22 (Operand.tmp 5)), none⟩,
  ⟨(some 7), (Op.move (Operand.tmp 1)), none⟩,
  ⟨(some 8), (Op.call { callee := (Callee.value (Operand.func 57)), args := #[(Operand.tmp 6), (Operand.tmp 7)], argTypes := #[22, 3] }), none⟩,
  ⟨(some 1), (Op.assign (Operand.tmp 8)), none⟩]
attribute [go_sem] r23_1
def r23_2 : List PO := [⟨(some 9), (Op.move (Operand.tmp 1)), none⟩,
  ⟨(some 4), (Op.assign (Operand.tmp 9)), none⟩]
attribute [go_sem] r23_2
def c23 : PC := (.seq (.reg r23_0) (.seq (.reg r23_1) (.seq (.reg r23_2) (.pre ⟨[4], [], []⟩ .ret))))
def i23 : FnI := ⟨10, [(ResultVar.tmp 4)], c23, 3, [[0, 1], [0]], [[0]], false, true, 1, true⟩
-- loop.example/g00344/laws.markArcS
def r34_2 : List PO := [⟨(some 6), (Op.move (Operand.tmp 5)), none⟩,
  ⟨(some 7), (Op.move (Operand.tmp 0)), none⟩,
  ⟨(some 8), (Op.call { callee := (Callee.builtin Builtin.len), args := #[(Operand.tmp 7)], argTypes := #[42] }), none⟩,
  ⟨(some 9), (Op.binOp BinOp.lss 3 (Operand.tmp 6) (Operand.tmp 8) 3), none⟩]
attribute [go_sem] r34_2
def r34_4 : List PO := [⟨(some 12), (Op.move (Operand.tmp 0)), none⟩,
  ⟨(some 13), (Op.move (Operand.tmp 5)), none⟩,
  ⟨(some 14), (Op.move (Operand.tmp 1)), none⟩,
  ⟨(some 15), (Op.indexAddr 42 (Operand.tmp 12) (Operand.tmp 13)), none⟩,
  ⟨(some 16), (Op.fieldAddr 75 (Operand.tmp 15) 0), none⟩,
  ⟨none, (Op.store 3 (Operand.tmp 16) (Operand.tmp 14)), none⟩]
attribute [go_sem] r34_4
def r34_5 : List PO := [⟨(some 17), (Op.move (Operand.tmp 1)), none⟩,
  ⟨(some 18), (Op.binOp BinOp.add 3 (Operand.tmp 17) (Operand.const (Value.int IntKind.i64 1)) 3), none⟩,
  ⟨(some 1), (Op.assign (Operand.tmp 18)), none⟩]
attribute [go_sem] r34_5
def r34_6 : List PO := [⟨(some 19), (Op.move (Operand.tmp 0)), none⟩,
  ⟨(some 20), (Op.move (Operand.tmp 5)), none⟩,
  ⟨(some 21), (Op.move (Operand.tmp 1)), none⟩,
  ⟨(some 22), (Op.indexAddr 42 (Operand.tmp 19) (Operand.tmp 20)), none⟩,
  ⟨(some 23), (Op.fieldAddr 75 (Operand.tmp 22) 1), none⟩,
  ⟨none, (Op.store 3 (Operand.tmp 23) (Operand.tmp 21)), none⟩]
attribute [go_sem] r34_6
def r34_7 : List PO := [⟨(some 24), (Op.move (Operand.tmp 1)), none⟩,
  ⟨(some 25), (Op.binOp BinOp.add 3 (Operand.tmp 24) (Operand.const (Value.int IntKind.i64 1)) 3), none⟩,
  ⟨(some 1), (Op.assign (Operand.tmp 25)), none⟩]
attribute [go_sem] r34_7
def r34_8 : List PO := [⟨(some 26), (Op.move (Operand.tmp 0)), none⟩,
  ⟨(some 27), (Op.move (Operand.tmp 5)), none⟩,
  ⟨(some 28), (Op.move (Operand.tmp 1)), none⟩,
  ⟨(some 29), (Op.indexAddr 42 (Operand.tmp 26) (Operand.tmp 27)), none⟩,
  ⟨(some 30), (Op.fieldAddr 75 (Operand.tmp 29) 2), none⟩,
  ⟨none, (Op.store 3 (Operand.tmp 30) (Operand.tmp 28)), none⟩]
attribute [go_sem] r34_8
def r34_9 : List PO := [⟨(some 31), (Op.move (Operand.tmp 1)), none⟩,
  ⟨(some 32), (Op.binOp BinOp.add 3 (Operand.tmp 31) (Operand.const (Value.int IntKind.i64 1)) 3), none⟩,
  ⟨(some 1), (Op.assign (Operand.tmp 32)), none⟩]
attribute [go_sem] r34_9
def r34_3 : List PO := [⟨(some 10), (Op.move (Operand.tmp 5)), none⟩,
  ⟨(some 11), (Op.binOp BinOp.add 3 (Operand.tmp 10) (Operand.const (Value.int IntKind.i64 1)) 3), none⟩,
  ⟨(some 5), (Op.assign (Operand.tmp 11)), none⟩]
attribute [go_sem] r34_3
def k34_1b : PC := (.seq (.seq (.reg r34_2) (.cond (Operand.tmp 9) .skip (.pre ⟨[1], [], []⟩ (.exit 0)))) (.seq (.block 1 (.seq (.reg r34_4) (.seq (.reg r34_5) (.seq (.reg r34_6) (.seq (.reg r34_7) (.seq (.reg r34_8) (.reg r34_9))))))) (.post (.reg r34_3) ⟨[0, 1, 5], [], []⟩)))
def r34_0 : List PO := [⟨(some 4), (Op.assign (Operand.const (Value.int IntKind.i64 0))), none⟩]
attribute [go_sem] r34_0
def r34_1 : List PO := [⟨(some 5), (Op.assign (Operand.const (Value.int IntKind.i64 0))), none⟩]
attribute [go_sem] r34_1
def r34_10 : List PO := [⟨(some 33), (Op.move (Operand.tmp 1)), none⟩,
  ⟨(some 4), (Op.assign (Operand.tmp 33)), none⟩]
attribute [go_sem] r34_10
def c34 : PC := (.seq (.reg r34_0) (.seq (.seq (.reg r34_1) (.block 0 (.pre ⟨[0, 1, 5], [], []⟩ (.loop k34_1b)))) (.seq (.reg r34_10) (.pre ⟨[4], [], []⟩ .ret))))
def i34 : FnI := ⟨34, [(ResultVar.tmp 4)], c34, 3, [[3], [0]], [[0]], false, true, 1, false⟩
-- loop.example/g00344/laws.heldIntS
def r36_2 : List PO := [⟨(some 6), (Op.move (Operand.tmp 5)), none⟩,
  ⟨(some 7), (Op.move (Operand.tmp 0)), none⟩,
  ⟨(some 8), (Op.call { callee := (Callee.builtin Builtin.len), args := #[(Operand.tmp 7)], argTypes := #[38] }), none⟩,
  ⟨(some 9), (Op.binOp BinOp.lss 3 (Operand.tmp 6) (Operand.tmp 8) 3), none⟩]
attribute [go_sem] r36_2
def r36_4 : List PO := [⟨(some 12), (Op.move (Operand.tmp 0)), none⟩,
  ⟨(some 13), (Op.move (Operand.tmp 5)), none⟩,
  ⟨(some 14), (Op.indexAddr 38 (Operand.tmp 12) (Operand.tmp 13)), none⟩,
  ⟨(some 15), (Op.load 3 (Operand.tmp 14)), none⟩,
  ⟨(some 16), (Op.move (Operand.tmp 1)), none⟩,
  ⟨(some 17), (Op.binOp BinOp.neq 3 (Operand.tmp 15) (Operand.tmp 16) 3), none⟩]
attribute [go_sem] r36_4
def r36_5 : List PO := [⟨(some 4), (Op.assign (Operand.const (Value.int IntKind.i64 (-1)))), none⟩]
attribute [go_sem] r36_5
def r36_6 : List PO := [⟨(some 18), (Op.move (Operand.tmp 1)), none⟩,
  ⟨(some 19), (Op.binOp BinOp.add 3 (Operand.tmp 18) (Operand.const (Value.int IntKind.i64 1)) 3), none⟩,
  ⟨(some 1), (Op.assign (Operand.tmp 19)), none⟩]
attribute [go_sem] r36_6
def r36_3 : List PO := [⟨(some 10), (Op.move (Operand.tmp 5)), none⟩,
  ⟨(some 11), (Op.binOp BinOp.add 3 (Operand.tmp 10) (Operand.const (Value.int IntKind.i64 1)) 3), none⟩,
  ⟨(some 5), (Op.assign (Operand.tmp 11)), none⟩]
attribute [go_sem] r36_3
def k36_1b : PC := (.seq (.seq (.reg r36_2) (.cond (Operand.tmp 9) .skip (.pre ⟨[1], [], []⟩ (.exit 0)))) (.seq (.block 1 (.seq (.seq (.reg r36_4) (.cond (Operand.tmp 17) (.seq (.reg r36_5) (.pre ⟨[4], [], []⟩ .ret)) .skip)) (.reg r36_6))) (.post (.reg r36_3) ⟨[0, 1, 5], [], []⟩)))
def r36_0 : List PO := [⟨(some 4), (Op.assign (Operand.const (Value.int IntKind.i64 0))), none⟩]
attribute [go_sem] r36_0
def r36_1 : List PO := [⟨(some 5), (Op.assign (Operand.const (Value.int IntKind.i64 0))), none⟩]
attribute [go_sem] r36_1
def r36_7 : List PO := [⟨(some 20), (Op.move (Operand.tmp 1)), none⟩,
  ⟨(some 4), (Op.assign (Operand.tmp 20)), none⟩]
attribute [go_sem] r36_7
def c36 : PC := (.seq (.reg r36_0) (.seq (.seq (.reg r36_1) (.block 0 (.pre ⟨[0, 1, 5], [], []⟩ (.loop k36_1b)))) (.seq (.reg r36_7) .ret)))
def i36 : FnI := ⟨21, [(ResultVar.tmp 4)], c36, 0, [[1], [0]], [[0]], false, false, 0, false⟩
-- loop.example/g00344/laws.FnExactBestTo
def r9_12 : List PO := [⟨(some 49), (Op.move (Operand.tmp 12)), none⟩,
  ⟨(some 50), (Op.move (Operand.tmp 8)), none⟩,
  ⟨(some 51), (Op.call { callee := (Callee.value (Operand.func 31)), args := #[(Operand.tmp 49), (Operand.tmp 50)], argTypes := #[38, 38] }), none⟩,
  ⟨(some 52), (Op.unOp UnOp.not 4 (Operand.tmp 51)), none⟩,
  ⟨(some 53), (Op.move (Operand.tmp 52)), none⟩,
  ⟨(some 54), (Op.move (Operand.tmp 13)), (some (53, false))⟩,
  ⟨(some 55), (Op.move (Operand.tmp 9)), (some (53, false))⟩,
  ⟨(some 56), (Op.binOp BinOp.neq 4 (Operand.tmp 54) (Operand.tmp 55) 4), (some (53, false))⟩,
  ⟨(some 57), (Op.pick (Operand.tmp 53) (Operand.const (Value.bool true)) (Operand.tmp 56)), none⟩]
attribute [go_sem] r9_12
def k9_1 : PC := (.post (.reg r9_12) ⟨[1, 2, 3, 8, 9, 10, 11, 12, 13, 57], [.old 0, .old 1, .old 2, .old 3, .old 4, .old 5], []⟩)
def r9_21 : List PO := [⟨(some 74), (Op.move (Operand.tmp 14)), none⟩,
  ⟨(some 75), (Op.binOp BinOp.lss 3 (Operand.tmp 74) (Operand.const (Value.int IntKind.i64 0)) 3), none⟩,
  ⟨(some 76), (Op.move (Operand.tmp 75)), none⟩,
  ⟨(some 77), (Op.move (Operand.tmp 12)), (some (76, false))⟩,
  ⟨(some 78), (Op.move (Operand.tmp 8)), (some (76, false))⟩,
  ⟨(some 79), (Op.call { callee := (Callee.value (Operand.func 31)), args := #[(Operand.tmp 77), (Operand.tmp 78)], argTypes := #[38, 38] }), (some (76, false))⟩,
  ⟨(some 80), (Op.unOp UnOp.not 4 (Operand.tmp 79)), (some (76, false))⟩,
  ⟨(some 81), (Op.pick (Operand.tmp 76) (Operand.const (Value.bool true)) (Operand.tmp 80)), none⟩,
  ⟨(some 82), (Op.move (Operand.tmp 81)), none⟩,
  ⟨(some 83), (Op.move (Operand.tmp 13)), (some (82, false))⟩,
  ⟨(some 84), (Op.move (Operand.tmp 9)), (some (82, false))⟩,
  ⟨(some 85), (Op.binOp BinOp.neq 4 (Operand.tmp 83) (Operand.tmp 84) 4), (some (82, false))⟩,
  ⟨(some 86), (Op.pick (Operand.tmp 82) (Operand.const (Value.bool true)) (Operand.tmp 85)), none⟩]
attribute [go_sem] r9_21
def k9_2 : PC := (.post (.reg r9_21) ⟨[1, 2, 3, 8, 9, 12, 86], [.old 0, .old 1, .old 2], []⟩)
def r9_32 : List PO := [⟨(some 107), (Op.move (Operand.tmp 17)), none⟩,
  ⟨(some 108), (Op.move (Operand.tmp 8)), none⟩,
  ⟨(some 109), (Op.call { callee := (Callee.value (Operand.func 31)), args := #[(Operand.tmp 107), (Operand.tmp 108)], argTypes := #[38, 38] }), none⟩,
  ⟨(some 110), (Op.unOp UnOp.not 4 (Operand.tmp 109)), none⟩,
  ⟨(some 111), (Op.move (Operand.tmp 110)), none⟩,
  ⟨(some 112), (Op.move (Operand.tmp 18)), (some (111, false))⟩,
  ⟨(some 113), (Op.move (Operand.tmp 9)), (some (111, false))⟩,
  ⟨(some 114), (Op.binOp BinOp.neq 4 (Operand.tmp 112) (Operand.tmp 113) 4), (some (111, false))⟩,
  ⟨(some 115), (Op.pick (Operand.tmp 111) (Operand.const (Value.bool true)) (Operand.tmp 114)), none⟩]
attribute [go_sem] r9_32
def k9_3 : PC := (.post (.reg r9_32) ⟨[12, 15, 115], [.old 1], []⟩)
def r9_0 : List PO := [⟨(some 3), (Op.box 24 (Operand.tmp 0)), none⟩,
  ⟨(some 6), (Op.assign (Operand.const (Value.bool false))), none⟩]
attribute [go_sem] r9_0
def r9_1 : List PO := [⟨(some 7), (Op.assign (Operand.const (Value.int IntKind.i64 1048576))), none⟩]
attribute [go_sem] r9_1
def r9_2 : List PO := [⟨(some 19), (Op.load 24 (Operand.tmp 3)), none⟩,
  ⟨(some 20), (Op.move (Operand.tmp 7)), none⟩,
  ⟨(some 21), (Op.call { callee := (Callee.value (Operand.func 12)), args := #[(Operand.tmp 19), (Operand.tmp 20)], argTypes := #[24, 3] }), none⟩,
  ⟨(some 7), (Op.assign (Operand.tmp 21)), none⟩]
attribute [go_sem] r9_2
def r9_3 : List PO := [⟨(some 22), (Op.move (Operand.tmp 7)), none⟩,
  ⟨(some 23), (Op.binOp BinOp.lss 3 (Operand.tmp 22) (Operand.const (Value.int IntKind.i64 0)) 3), none⟩]
attribute [go_sem] r9_3
def r9_4 : List PO := [⟨(some 6), (Op.assign (Operand.const (Value.bool true))), none⟩]
attribute [go_sem] r9_4
def r9_5 : List PO := [⟨(some 24), (Op.move (Operand.tmp 1)), none⟩,
  ⟨(some 25), (Op.move (Operand.tmp 7)), none⟩,
  ⟨(some 26), (Op.call { callee := (Callee.value (Operand.func 25)), args := #[(Operand.tmp 24), (Operand.tmp 25)], argTypes := #[37, 3] }), none⟩,
  ⟨(some 7), (Op.assign (Operand.tmp 26)), none⟩]
attribute [go_sem] r9_5
def r9_6 : List PO := [⟨(some 27), (Op.move (Operand.tmp 7)), none⟩,
  ⟨(some 28), (Op.binOp BinOp.lss 3 (Operand.tmp 27) (Operand.const (Value.int IntKind.i64 0)) 3), none⟩]
attribute [go_sem] r9_6
def r9_7 : List PO := [⟨(some 6), (Op.assign (Operand.const (Value.bool true))), none⟩]
attribute [go_sem] r9_7
def r9_8 : List PO := [⟨(some 30), (Op.load 24 (Operand.tmp 3)), none⟩,
  ⟨(some 31), (Op.call { callee := (Callee.value (Operand.func 14)), args := #[(Operand.tmp 30)], argTypes := #[24] }), none⟩,
  ⟨(some 32), (Op.move (Operand.tmp 1)), none⟩,
  ⟨(some 33), (Op.call { callee := (Callee.value (Operand.func 27)), args := #[(Operand.tmp 32)], argTypes := #[37] }), none⟩,
  ⟨(some 34), (Op.move (Operand.tmp 2)), none⟩,
  ⟨(some 35), (Op.call { callee := (Callee.value (Operand.func 37)), args := #[(Operand.tmp 31), (Operand.tmp 33), (Operand.tmp 34)], argTypes := #[27, 42, 3] }), none⟩,
  ⟨(some 29), (Op.move (Operand.tmp 35)), none⟩,
  ⟨(some 36), (Op.extract (Operand.tmp 29) 0), none⟩,
  ⟨(some 37), (Op.extract (Operand.tmp 29) 1), none⟩,
  ⟨(some 8), (Op.assign (Operand.tmp 36)), none⟩,
  ⟨(some 9), (Op.assign (Operand.tmp 37)), none⟩]
attribute [go_sem] r9_8
def r9_9 : List PO := [⟨(some 38), (Op.load 24 (Operand.tmp 3)), none⟩,
  ⟨(some 39), (Op.call { callee := (Callee.value (Operand.func 14)), args := #[(Operand.tmp 38)], argTypes := #[24] }), none⟩,
  ⟨(some 10), (Op.alloc 27), none⟩,
  ⟨none, (Op.store 27 (Operand.tmp 10) (Operand.tmp 39)), none⟩]
attribute [go_sem] r9_9
def r9_10 : List PO := [⟨(some 40), (Op.move (Operand.tmp 1)), none⟩,
  ⟨(some 41), (Op.call { callee := (Callee.value (Operand.func 27)), args := #[(Operand.tmp 40)], argTypes := #[37] }), none⟩,
  ⟨(some 11), (Op.assign (Operand.tmp 41)), none⟩]
attribute [go_sem] r9_10
def r9_11 : List PO := [⟨(some 43), (Op.load 27 (Operand.tmp 10)), none⟩,
  ⟨(some 44), (Op.move (Operand.tmp 11)), none⟩,
  ⟨(some 45), (Op.move (Operand.tmp 2)), none⟩,
  ⟨(some 46), (Op.call { callee := (Callee.value (Operand.func 38)), args := #[(Operand.tmp 43), (Operand.tmp 44), (Operand.tmp 45)], argTypes := #[27, 42, 3] }), none⟩,
  ⟨(some 42), (Op.move (Operand.tmp 46)), none⟩,
  ⟨(some 47), (Op.extract (Operand.tmp 42) 0), none⟩,
  ⟨(some 48), (Op.extract (Operand.tmp 42) 1), none⟩,
  ⟨(some 12), (Op.assign (Operand.tmp 47)), none⟩,
  ⟨(some 13), (Op.assign (Operand.tmp 48)), none⟩]
attribute [go_sem] r9_11
def r9_13 : List PO := [⟨(some 6), (Op.assign (Operand.const (Value.bool false))), none⟩]
attribute [go_sem] r9_13
def r9_14 : List PO := [⟨(some 58), (Op.load 27 (Operand.tmp 10)), none⟩,
  ⟨(some 59), (Op.load 24 (Operand.tmp 3)), none⟩,
  ⟨(some 60), (Op.call { callee := (Callee.value (Operand.func 14)), args := #[(Operand.tmp 59)], argTypes := #[24] }), none⟩,
  ⟨(some 61), (Op.call { callee := (Callee.value (Operand.func 16)), args := #[(Operand.tmp 58), (Operand.tmp 60)], argTypes := #[27, 27] }), none⟩,
  ⟨(some 62), (Op.unOp UnOp.not 4 (Operand.tmp 61)), none⟩]
attribute [go_sem] r9_14
def r9_15 : List PO := [⟨(some 6), (Op.assign (Operand.const (Value.bool false))), none⟩]
attribute [go_sem] r9_15
def r9_16 : List PO := [⟨(some 63), (Op.move (Operand.tmp 11)), none⟩,
  ⟨(some 64), (Op.move (Operand.tmp 1)), none⟩,
  ⟨(some 65), (Op.call { callee := (Callee.value (Operand.func 27)), args := #[(Operand.tmp 64)], argTypes := #[37] }), none⟩,
  ⟨(some 66), (Op.call { callee := (Callee.value (Operand.func 30)), args := #[(Operand.tmp 63), (Operand.tmp 65)], argTypes := #[42, 42] }), none⟩,
  ⟨(some 67), (Op.unOp UnOp.not 4 (Operand.tmp 66)), none⟩]
attribute [go_sem] r9_16
def r9_17 : List PO := [⟨(some 6), (Op.assign (Operand.const (Value.bool false))), none⟩]
attribute [go_sem] r9_17
def r9_18 : List PO := [⟨(some 14), (Op.assign (Operand.const (Value.int IntKind.i64 1))), none⟩]
attribute [go_sem] r9_18
def r9_19 : List PO := [⟨(some 68), (Op.load 27 (Operand.tmp 10)), none⟩,
  ⟨(some 69), (Op.move (Operand.tmp 14)), none⟩,
  ⟨(some 70), (Op.call { callee := (Callee.value (Operand.func 23)), args := #[(Operand.tmp 68), (Operand.tmp 69)], argTypes := #[27, 3] }), none⟩,
  ⟨(some 14), (Op.assign (Operand.tmp 70)), none⟩]
attribute [go_sem] r9_19
def r9_20 : List PO := [⟨(some 71), (Op.move (Operand.tmp 11)), none⟩,
  ⟨(some 72), (Op.move (Operand.tmp 14)), none⟩,
  ⟨(some 73), (Op.call { callee := (Callee.value (Operand.func 34)), args := #[(Operand.tmp 71), (Operand.tmp 72)], argTypes := #[42, 3] }), none⟩,
  ⟨(some 14), (Op.assign (Operand.tmp 73)), none⟩]
attribute [go_sem] r9_20
def r9_22 : List PO := [⟨(some 6), (Op.assign (Operand.const (Value.bool false))), none⟩]
attribute [go_sem] r9_22
def r9_23 : List PO := [⟨(some 15), (Op.assign (Operand.const (Value.int IntKind.i64 1))), none⟩]
attribute [go_sem] r9_23
def r9_24 : List PO := [⟨(some 87), (Op.move (Operand.tmp 12)), none⟩,
  ⟨(some 88), (Op.move (Operand.tmp 15)), none⟩,
  ⟨(some 89), (Op.call { callee := (Callee.value (Operand.func 35)), args := #[(Operand.tmp 87), (Operand.tmp 88)], argTypes := #[38, 3] }), none⟩,
  ⟨(some 15), (Op.assign (Operand.tmp 89)), none⟩]
attribute [go_sem] r9_24
def r9_25 : List PO := [⟨(some 16), (Op.assign (Operand.const (Value.int IntKind.i64 1))), none⟩]
attribute [go_sem] r9_25
def r9_26 : List PO := [⟨(some 90), (Op.move (Operand.tmp 12)), none⟩,
  ⟨(some 91), (Op.move (Operand.tmp 16)), none⟩,
  ⟨(some 92), (Op.call { callee := (Callee.value (Operand.func 36)), args := #[(Operand.tmp 90), (Operand.tmp 91)], argTypes := #[38, 3] }), none⟩,
  ⟨(some 16), (Op.assign (Operand.tmp 92)), none⟩]
attribute [go_sem] r9_26
def r9_27 : List PO := [⟨(some 93), (Op.move (Operand.tmp 16)), none⟩,
  ⟨(some 94), (Op.binOp BinOp.lss 3 (Operand.tmp 93) (Operand.const (Value.int IntKind.i64 0)) 3), none⟩]
attribute [go_sem] r9_27
def r9_28 : List PO := [⟨(some 6), (Op.assign (Operand.const (Value.bool false))), none⟩]
attribute [go_sem] r9_28
def r9_29 : List PO := [⟨(some 95), (Op.move (Operand.tmp 16)), none⟩,
  ⟨(some 96), (Op.move (Operand.tmp 15)), none⟩,
  ⟨(some 97), (Op.binOp BinOp.neq 3 (Operand.tmp 95) (Operand.tmp 96) 3), none⟩]
attribute [go_sem] r9_29
def r9_30 : List PO := [⟨(some 6), (Op.assign (Operand.const (Value.bool false))), none⟩]
attribute [go_sem] r9_30
def r9_31 : List PO := [⟨(some 99), (Op.load 24 (Operand.tmp 3)), none⟩,
  ⟨(some 100), (Op.call { callee := (Callee.value (Operand.func 14)), args := #[(Operand.tmp 99)], argTypes := #[24] }), none⟩,
  ⟨(some 101), (Op.move (Operand.tmp 1)), none⟩,
  ⟨(some 102), (Op.call { callee := (Callee.value (Operand.func 27)), args := #[(Operand.tmp 101)], argTypes := #[37] }), none⟩,
  ⟨(some 103), (Op.move (Operand.tmp 2)), none⟩,
  ⟨(some 104), (Op.call { callee := (Callee.value (Operand.func 38)), args := #[(Operand.tmp 100), (Operand.tmp 102), (Operand.tmp 103)], argTypes := #[27, 42, 3] }), none⟩,
  ⟨(some 98), (Op.move (Operand.tmp 104)), none⟩,
  ⟨(some 105), (Op.extract (Operand.tmp 98) 0), none⟩,
  ⟨(some 106), (Op.extract (Operand.tmp 98) 1), none⟩,
  ⟨(some 17), (Op.assign (Operand.tmp 105)), none⟩,
  ⟨(some 18), (Op.assign (Operand.tmp 106)), none⟩]
attribute [go_sem] r9_31
def r9_33 : List PO := [⟨(some 6), (Op.assign (Operand.const (Value.bool false))), none⟩]
attribute [go_sem] r9_33
def r9_34 : List PO := [⟨(some 16), (Op.assign (Operand.const (Value.int IntKind.i64 1))), none⟩]
attribute [go_sem] r9_34
def r9_35 : List PO := [⟨(some 116), (Op.move (Operand.tmp 12)), none⟩,
  ⟨(some 117), (Op.move (Operand.tmp 16)), none⟩,
  ⟨(some 118), (Op.call { callee := (Callee.value (Operand.func 36)), args := #[(Operand.tmp 116), (Operand.tmp 117)], argTypes := #[38, 3] }), none⟩,
  ⟨(some 16), (Op.assign (Operand.tmp 118)), none⟩]
attribute [go_sem] r9_35
def r9_36 : List PO := [⟨(some 119), (Op.move (Operand.tmp 16)), none⟩,
  ⟨(some 120), (Op.binOp BinOp.lss 3 (Operand.tmp 119) (Operand.const (Value.int IntKind.i64 0)) 3), none⟩]
attribute [go_sem] r9_36
def r9_38 : List PO := [⟨(some 121), (Op.move (Operand.tmp 16)), none⟩,
  ⟨(some 122), (Op.move (Operand.tmp 15)), none⟩,
  ⟨(some 123), (Op.binOp BinOp.neq 3 (Operand.tmp 121) (Operand.tmp 122) 3), none⟩]
attribute [go_sem] r9_38
def r9_40 : List PO := [⟨(some 6), (Op.assign (Operand.const (Value.bool true))), none⟩]
attribute [go_sem] r9_40
def c9 : PC := (.seq (.reg r9_0) (.seq (.reg r9_1) (.seq (.reg r9_2) (.seq (.seq (.reg r9_3) (.cond (Operand.tmp 23) (.seq (.reg r9_4) .ret) .skip)) (.seq (.reg r9_5) (.seq (.seq (.reg r9_6) (.cond (Operand.tmp 28) (.seq (.reg r9_7) .ret) .skip)) (.seq (.reg r9_8) (.seq (.reg r9_9) (.seq (.reg r9_10) (.seq (.reg r9_11) (.seq (.seq (.pre ⟨[1, 2, 3, 8, 9, 10, 11, 12, 13], [.old 0, .old 3, .old 5, .old 4, .old 6, .old 7], []⟩ k9_1) (.cond (Operand.tmp 57) (.seq (.reg r9_13) .ret) .skip)) (.seq (.seq (.fz r9_14) (.cond (Operand.tmp 62) (.seq (.reg r9_15) .ret) .skip)) (.seq (.seq (.reg r9_16) (.cond (Operand.tmp 67) (.seq (.reg r9_17) .ret) .skip)) (.seq (.reg r9_18) (.seq (.reg r9_19) (.seq (.reg r9_20) (.seq (.seq (.pre ⟨[1, 2, 3, 8, 9, 12, 13, 14], [.old 0, .old 1, .old 5], []⟩ k9_2) (.cond (Operand.tmp 86) (.seq (.reg r9_22) .ret) .skip)) (.seq (.reg r9_23) (.seq (.reg r9_24) (.seq (.reg r9_25) (.seq (.reg r9_26) (.seq (.seq (.reg r9_27) (.cond (Operand.tmp 94) (.seq (.reg r9_28) .ret) .skip)) (.seq (.seq (.reg r9_29) (.cond (Operand.tmp 97) (.seq (.reg r9_30) .ret) .skip)) (.seq (.reg r9_31) (.seq (.seq (.pre ⟨[8, 9, 12, 15, 17, 18], [.old 1, .old 2, .old 5], []⟩ k9_3) (.cond (Operand.tmp 115) (.seq (.reg r9_33) .ret) .skip)) (.seq (.reg r9_34) (.seq (.reg r9_35) (.seq (.seq (.reg r9_36) (.cond (Operand.tmp 120) .bad .skip)) (.seq (.seq (.reg r9_38) (.cond (Operand.tmp 123) .bad .skip)) (.seq (.reg r9_40) .ret))))))))))))))))))))))))))))))
def i9 : FnI := ⟨124, [(ResultVar.tmp 6)], c9, 0, [[0, 1], [3], [0]], [[0]], false, false, 0, true⟩
def tys : List (Nat × TyI) := [(3, ⟨1, 8, false, [.int .i64 0], [0], 0, [], .int .i64, false⟩),
  (4, ⟨1, 1, false, [.bool false], [0], 0, [], .bool, false⟩),
  (22, ⟨1, 24, false, [.nil], [1], 38, [], .other, false⟩),
  (24, ⟨2, 32, true, [.int .i64 0, .nil], [0, 1], 0, [(0, 1, false), (1, 1, false)], .other, false⟩),
  (27, ⟨2, 32, true, [.int .i64 0, .nil], [0, 1], 0, [(0, 1, false), (1, 1, false)], .other, false⟩),
  (37, ⟨1, 24, false, [.nil], [3], 77, [], .other, false⟩),
  (38, ⟨1, 24, false, [.nil], [1], 3, [], .other, false⟩),
  (42, ⟨1, 24, false, [.nil], [3], 75, [], .other, false⟩),
  (75, ⟨3, 24, true, [.int .i64 0, .int .i64 0, .int .i64 0], [0, 0, 0], 0, [(0, 1, false), (1, 1, false), (2, 1, false)], .other, true⟩),
  (77, ⟨3, 24, true, [.int .i64 0, .int .i64 0, .int .i64 0], [0, 0, 0], 0, [(0, 1, false), (1, 1, false), (2, 1, false)], .other, true⟩),
  (84, ⟨1, 24, false, [.nil], [1], 4, [], .other, false⟩),
  (86, ⟨1, 8, false, [.int .u64 0], [0], 0, [], .int .u64, false⟩),
  (98, ⟨1, 8, false, [.int .u64 0], [0], 0, [], .int .u64, false⟩),
  (102, ⟨1, 4, false, [.int .u32 0], [0], 0, [], .int .u32, false⟩)]
def fns : List (Nat × FnI) := [(9, i9), (12, i12), (13, i13), (14, i14), (15, i15), (16, i16), (23, i23), (25, i25), (27, i27), (28, i28), (30, i30), (31, i31), (34, i34), (35, i35), (36, i36), (37, i37), (38, i38), (44, i44), (45, i45), (46, i46), (47, i47), (48, i48), (49, i49), (50, i50), (51, i51), (52, i52), (53, i53), (54, i54), (57, i57), (59, i59), (61, i61), (62, i62), (63, i63), (64, i64), (66, i66), (67, i67), (68, i68), (70, i70), (76, i76), (77, i77), (78, i78), (80, i80), (81, i81), (83, i83), (84, i84), (85, i85), (90, i90)]
def T : Tab := mkTab tys fns
theorem soft0 : T.soft = false := rfl
theorem ty3 : T.ty 3 = some ⟨1, 8, false, [.int .i64 0], [0], 0, [], .int .i64, false⟩ := rfl
theorem base3 : T.baseOf 3 = Bs.int .i64 := rfl
theorem ty4 : T.ty 4 = some ⟨1, 1, false, [.bool false], [0], 0, [], .bool, false⟩ := rfl
theorem base4 : T.baseOf 4 = Bs.bool := rfl
theorem ty22 : T.ty 22 = some ⟨1, 24, false, [.nil], [1], 38, [], .other, false⟩ := rfl
theorem base22 : T.baseOf 22 = Bs.other := rfl
theorem elem22 : T.elemOf 22 = some ⟨1, 24, false, [.nil], [1], 3, [], .other, false⟩ := rfl
theorem ty24 : T.ty 24 = some ⟨2, 32, true, [.int .i64 0, .nil], [0, 1], 0, [(0, 1, false), (1, 1, false)], .other, false⟩ := rfl
theorem base24 : T.baseOf 24 = Bs.other := rfl
theorem ty27 : T.ty 27 = some ⟨2, 32, true, [.int .i64 0, .nil], [0, 1], 0, [(0, 1, false), (1, 1, false)], .other, false⟩ := rfl
theorem base27 : T.baseOf 27 = Bs.other := rfl
theorem ty37 : T.ty 37 = some ⟨1, 24, false, [.nil], [3], 77, [], .other, false⟩ := rfl
theorem base37 : T.baseOf 37 = Bs.other := rfl
theorem elem37 : T.elemOf 37 = some ⟨3, 24, true, [.int .i64 0, .int .i64 0, .int .i64 0], [0, 0, 0], 0, [(0, 1, false), (1, 1, false), (2, 1, false)], .other, true⟩ := rfl
theorem ty38 : T.ty 38 = some ⟨1, 24, false, [.nil], [1], 3, [], .other, false⟩ := rfl
theorem base38 : T.baseOf 38 = Bs.other := rfl
theorem elem38 : T.elemOf 38 = some ⟨1, 8, false, [.int .i64 0], [0], 0, [], .int .i64, false⟩ := rfl
theorem ty42 : T.ty 42 = some ⟨1, 24, false, [.nil], [3], 75, [], .other, false⟩ := rfl
theorem base42 : T.baseOf 42 = Bs.other := rfl
theorem elem42 : T.elemOf 42 = some ⟨3, 24, true, [.int .i64 0, .int .i64 0, .int .i64 0], [0, 0, 0], 0, [(0, 1, false), (1, 1, false), (2, 1, false)], .other, true⟩ := rfl
theorem ty75 : T.ty 75 = some ⟨3, 24, true, [.int .i64 0, .int .i64 0, .int .i64 0], [0, 0, 0], 0, [(0, 1, false), (1, 1, false), (2, 1, false)], .other, true⟩ := rfl
theorem base75 : T.baseOf 75 = Bs.other := rfl
theorem ty77 : T.ty 77 = some ⟨3, 24, true, [.int .i64 0, .int .i64 0, .int .i64 0], [0, 0, 0], 0, [(0, 1, false), (1, 1, false), (2, 1, false)], .other, true⟩ := rfl
theorem base77 : T.baseOf 77 = Bs.other := rfl
theorem ty84 : T.ty 84 = some ⟨1, 24, false, [.nil], [1], 4, [], .other, false⟩ := rfl
theorem base84 : T.baseOf 84 = Bs.other := rfl
theorem elem84 : T.elemOf 84 = some ⟨1, 1, false, [.bool false], [0], 0, [], .bool, false⟩ := rfl
theorem ty86 : T.ty 86 = some ⟨1, 8, false, [.int .u64 0], [0], 0, [], .int .u64, false⟩ := rfl
theorem base86 : T.baseOf 86 = Bs.int .u64 := rfl
theorem ty98 : T.ty 98 = some ⟨1, 8, false, [.int .u64 0], [0], 0, [], .int .u64, false⟩ := rfl
theorem base98 : T.baseOf 98 = Bs.int .u64 := rfl
theorem ty102 : T.ty 102 = some ⟨1, 4, false, [.int .u32 0], [0], 0, [], .int .u32, false⟩ := rfl
theorem base102 : T.baseOf 102 = Bs.int .u32 := rfl
attribute [go_sem] soft0 ty3 base3 ty4 base4 ty22 base22 elem22 ty24 base24 ty27 base27 ty37 base37 elem37 ty38 base38 elem38 ty42 base42 elem42 ty75 base75 ty77 base77 ty84 base84 elem84 ty86 base86 ty98 base98 ty102 base102
theorem ok9 : FnOk Try.prog (9, i9) := ⟨Try.f9, _, Try.func9, rfl, by kernel_rfl, rfl, rfl, by kernel_rfl⟩
theorem ok12 : FnOk Try.prog (12, i12) := ⟨Try.f12, _, Try.func12, rfl, by kernel_rfl, rfl, rfl, by kernel_rfl⟩
theorem ok13 : FnOk Try.prog (13, i13) := ⟨Try.f13, _, Try.func13, rfl, by kernel_rfl, rfl, rfl, by kernel_rfl⟩
theorem ok14 : FnOk Try.prog (14, i14) := ⟨Try.f14, _, Try.func14, rfl, by kernel_rfl, rfl, rfl, by kernel_rfl⟩
theorem ok15 : FnOk Try.prog (15, i15) := ⟨Try.f15, _, Try.func15, rfl, by kernel_rfl, rfl, rfl, by kernel_rfl⟩
theorem ok16 : FnOk Try.prog (16, i16) := ⟨Try.f16, _, Try.func16, rfl, by kernel_rfl, rfl, rfl, by kernel_rfl⟩
theorem ok23 : FnOk Try.prog (23, i23) := ⟨Try.f23, _, Try.func23, rfl, by kernel_rfl, rfl, rfl, by kernel_rfl⟩
theorem ok25 : FnOk Try.prog (25, i25) := ⟨Try.f25, _, Try.func25, rfl, by kernel_rfl, rfl, rfl, by kernel_rfl⟩
theorem ok27 : FnOk Try.prog (27, i27) := ⟨Try.f27, _, Try.func27, rfl, by kernel_rfl, rfl, rfl, by kernel_rfl⟩
theorem ok28 : FnOk Try.prog (28, i28) := ⟨Try.f28, _, Try.func28, rfl, by kernel_rfl, rfl, rfl, by kernel_rfl⟩
theorem ok30 : FnOk Try.prog (30, i30) := ⟨Try.f30, _, Try.func30, rfl, by kernel_rfl, rfl, rfl, by kernel_rfl⟩
theorem ok31 : FnOk Try.prog (31, i31) := ⟨Try.f31, _, Try.func31, rfl, by kernel_rfl, rfl, rfl, by kernel_rfl⟩
theorem ok34 : FnOk Try.prog (34, i34) := ⟨Try.f34, _, Try.func34, rfl, by kernel_rfl, rfl, rfl, by kernel_rfl⟩
theorem ok35 : FnOk Try.prog (35, i35) := ⟨Try.f35, _, Try.func35, rfl, by kernel_rfl, rfl, rfl, by kernel_rfl⟩
theorem ok36 : FnOk Try.prog (36, i36) := ⟨Try.f36, _, Try.func36, rfl, by kernel_rfl, rfl, rfl, by kernel_rfl⟩
theorem ok37 : FnOk Try.prog (37, i37) := ⟨Try.f37, _, Try.func37, rfl, by kernel_rfl, rfl, rfl, by kernel_rfl⟩
theorem ok38 : FnOk Try.prog (38, i38) := ⟨Try.f38, _, Try.func38, rfl, by kernel_rfl, rfl, rfl, by kernel_rfl⟩
theorem ok44 : FnOk Try.prog (44, i44) := ⟨Try.f44, _, Try.func44, rfl, by kernel_rfl, rfl, rfl, by kernel_rfl⟩
theorem ok45 : FnOk Try.prog (45, i45) := ⟨Try.f45, _, Try.func45, rfl, by kernel_rfl, rfl, rfl, by kernel_rfl⟩
theorem ok46 : FnOk Try.prog (46, i46) := ⟨Try.f46, _, Try.func46, rfl, by kernel_rfl, rfl, rfl, by kernel_rfl⟩
theorem ok47 : FnOk Try.prog (47, i47) := ⟨Try.f47, _, Try.func47, rfl, by kernel_rfl, rfl, rfl, by kernel_rfl⟩
theorem ok48 : FnOk Try.prog (48, i48) := ⟨Try.f48, _, Try.func48, rfl, by kernel_rfl, rfl, rfl, by kernel_rfl⟩
theorem ok49 : FnOk Try.prog (49, i49) := ⟨Try.f49, _, Try.func49, rfl, by kernel_rfl, rfl, rfl, by kernel_rfl⟩
theorem ok50 : FnOk Try.prog (50, i50) := ⟨Try.f50, _, Try.func50, rfl, by kernel_rfl, rfl, rfl, by kernel_rfl⟩
theorem ok51 : FnOk Try.prog (51, i51) := ⟨Try.f51, _, Try.func51, rfl, by kernel_rfl, rfl, rfl, by kernel_rfl⟩
theorem ok52 : FnOk Try.prog (52, i52) := ⟨Try.f52, _, Try.func52, rfl, by kernel_rfl, rfl, rfl, by kernel_rfl⟩
theorem ok53 : FnOk Try.prog (53, i53) := ⟨Try.f53, _, Try.func53, rfl, by kernel_rfl, rfl, rfl, by kernel_rfl⟩
theorem ok54 : FnOk Try.prog (54, i54) := ⟨Try.f54, _, Try.func54, rfl, by kernel_rfl, rfl, rfl, by kernel_rfl⟩
theorem ok57 : FnOk Try.prog (57, i57) := ⟨Try.f57, _, Try.func57, rfl, by kernel_rfl, rfl, rfl, by kernel_rfl⟩
theorem ok59 : FnOk Try.prog (59, i59) := ⟨Try.f59, _, Try.func59, rfl, by kernel_rfl, rfl, rfl, by kernel_rfl⟩
theorem ok61 : FnOk Try.prog (61, i61) := ⟨Try.f61, _, Try.func61, rfl, by kernel_rfl, rfl, rfl, by kernel_rfl⟩
theorem ok62 : FnOk Try.prog (62, i62) := ⟨Try.f62, _, Try.func62, rfl, by kernel_rfl, rfl, rfl, by kernel_rfl⟩
theorem ok63 : FnOk Try.prog (63, i63) := ⟨Try.f63, _, Try.func63, rfl, by kernel_rfl, rfl, rfl, by kernel_rfl⟩
theorem ok64 : FnOk Try.prog (64, i64) := ⟨Try.f64, _, Try.func64, rfl, by kernel_rfl, rfl, rfl, by kernel_rfl⟩
theorem ok66 : FnOk Try.prog (66, i66) := ⟨Try.f66, _, Try.func66, rfl, by kernel_rfl, rfl, rfl, by kernel_rfl⟩
theorem ok67 : FnOk Try.prog (67, i67) := ⟨Try.f67, _, Try.func67, rfl, by kernel_rfl, rfl, rfl, by kernel_rfl⟩
theorem ok68 : FnOk Try.prog (68, i68) := ⟨Try.f68, _, Try.func68, rfl, by kernel_rfl, rfl, rfl, by kernel_rfl⟩
theorem ok70 : FnOk Try.prog (70, i70) := ⟨Try.f70, _, Try.func70, rfl, by kernel_rfl, rfl, rfl, by kernel_rfl⟩
theorem ok76 : FnOk Try.prog (76, i76) := ⟨Try.f76, _, Try.func76, rfl, by kernel_rfl, rfl, rfl, by kernel_rfl⟩
theorem ok77 : FnOk Try.prog (77, i77) := ⟨Try.f77, _, Try.func77, rfl, by kernel_rfl, rfl, rfl, by kernel_rfl⟩
theorem ok78 : FnOk Try.prog (78, i78) := ⟨Try.f78, _, Try.func78, rfl, by kernel_rfl, rfl, rfl, by kernel_rfl⟩
theorem ok80 : FnOk Try.prog (80, i80) := ⟨Try.f80, _, Try.func80, rfl, by kernel_rfl, rfl, rfl, by kernel_rfl⟩
theorem ok81 : FnOk Try.prog (81, i81) := ⟨Try.f81, _, Try.func81, rfl, by kernel_rfl, rfl, rfl, by kernel_rfl⟩
theorem ok83 : FnOk Try.prog (83, i83) := ⟨Try.f83, _, Try.func83, rfl, by kernel_rfl, rfl, rfl, by kernel_rfl⟩
theorem ok84 : FnOk Try.prog (84, i84) := ⟨Try.f84, _, Try.func84, rfl, by kernel_rfl, rfl, rfl, by kernel_rfl⟩
theorem ok85 : FnOk Try.prog (85, i85) := ⟨Try.f85, _, Try.func85, rfl, by kernel_rfl, rfl, rfl, by kernel_rfl⟩
theorem ok90 : FnOk Try.prog (90, i90) := ⟨Try.f90, _, Try.func90, rfl, by kernel_rfl, rfl, rfl, by kernel_rfl⟩
theorem tab : TabOk Try.prog T := tabOk_of (by kernel_rfl) (.cons ok9 (.cons ok12 (.cons ok13 (.cons ok14 (.cons ok15 (.cons ok16 (.cons ok23 (.cons ok25 (.cons ok27 (.cons ok28 (.cons ok30 (.cons ok31 (.cons ok34 (.cons ok35 (.cons ok36 (.cons ok37 (.cons ok38 (.cons ok44 (.cons ok45 (.cons ok46 (.cons ok47 (.cons ok48 (.cons ok49 (.cons ok50 (.cons ok51 (.cons ok52 (.cons ok53 (.cons ok54 (.cons ok57 (.cons ok59 (.cons ok61 (.cons ok62 (.cons ok63 (.cons ok64 (.cons ok66 (.cons ok67 (.cons ok68 (.cons ok70 (.cons ok76 (.cons ok77 (.cons ok78 (.cons ok80 (.cons ok81 (.cons ok83 (.cons ok84 (.cons ok85 (.cons ok90 (.nil))))))))))))))))))))))))))))))))))))))))))))))))
theorem fn9 : T.fn 9 = some i9 := rfl
theorem fn12 : T.fn 12 = some i12 := rfl
theorem fn13 : T.fn 13 = some i13 := rfl
theorem fn14 : T.fn 14 = some i14 := rfl
theorem fn15 : T.fn 15 = some i15 := rfl
theorem fn16 : T.fn 16 = some i16 := rfl
theorem fn23 : T.fn 23 = some i23 := rfl
theorem fn25 : T.fn 25 = some i25 := rfl
theorem fn27 : T.fn 27 = some i27 := rfl
theorem fn28 : T.fn 28 = some i28 := rfl
theorem fn30 : T.fn 30 = some i30 := rfl
theorem fn31 : T.fn 31 = some i31 := rfl
theorem fn34 : T.fn 34 = some i34 := rfl
theorem fn35 : T.fn 35 = some i35 := rfl
theorem fn36 : T.fn 36 = some i36 := rfl
theorem fn37 : T.fn 37 = some i37 := rfl
theorem fn38 : T.fn 38 = some i38 := rfl
theorem fn44 : T.fn 44 = some i44 := rfl
theorem fn45 : T.fn 45 = some i45 := rfl
theorem fn46 : T.fn 46 = some i46 := rfl
theorem fn47 : T.fn 47 = some i47 := rfl
theorem fn48 : T.fn 48 = some i48 := rfl
theorem fn49 : T.fn 49 = some i49 := rfl
theorem fn50 : T.fn 50 = some i50 := rfl
theorem fn51 : T.fn 51 = some i51 := rfl
theorem fn52 : T.fn 52 = some i52 := rfl
theorem fn53 : T.fn 53 = some i53 := rfl
theorem fn54 : T.fn 54 = some i54 := rfl
theorem fn57 : T.fn 57 = some i57 := rfl
theorem fn59 : T.fn 59 = some i59 := rfl
theorem fn61 : T.fn 61 = some i61 := rfl
theorem fn62 : T.fn 62 = some i62 := rfl
theorem fn63 : T.fn 63 = some i63 := rfl
theorem fn64 : T.fn 64 = some i64 := rfl
theorem fn66 : T.fn 66 = some i66 := rfl
theorem fn67 : T.fn 67 = some i67 := rfl
theorem fn68 : T.fn 68 = some i68 := rfl
theorem fn70 : T.fn 70 = some i70 := rfl
theorem fn76 : T.fn 76 = some i76 := rfl
theorem fn77 : T.fn 77 = some i77 := rfl
theorem fn78 : T.fn 78 = some i78 := rfl
theorem fn80 : T.fn 80 = some i80 := rfl
theorem fn81 : T.fn 81 = some i81 := rfl
theorem fn83 : T.fn 83 = some i83 := rfl
theorem fn84 : T.fn 84 = some i84 := rfl
theorem fn85 : T.fn 85 = some i85 := rfl
theorem fn90 : T.fn 90 = some i90 := rfl
theorem fns9 : (T.at true).fn 9 = some i9 := rfl
theorem fns12 : (T.at true).fn 12 = some i12 := rfl
theorem fns13 : (T.at true).fn 13 = some i13 := rfl
theorem fns14 : (T.at true).fn 14 = some i14 := rfl
theorem fns15 : (T.at true).fn 15 = some i15 := rfl
theorem fns16 : (T.at true).fn 16 = some i16 := rfl
theorem fns23 : (T.at true).fn 23 = some i23 := rfl
theorem fns25 : (T.at true).fn 25 = some i25 := rfl
theorem fns27 : (T.at true).fn 27 = some i27 := rfl
theorem fns28 : (T.at true).fn 28 = some i28 := rfl
theorem fns30 : (T.at true).fn 30 = some i30 := rfl
theorem fns31 : (T.at true).fn 31 = some i31 := rfl
theorem fns34 : (T.at true).fn 34 = some i34 := rfl
theorem fns35 : (T.at true).fn 35 = some i35 := rfl
theorem fns36 : (T.at true).fn 36 = some i36 := rfl
theorem fns37 : (T.at true).fn 37 = some i37 := rfl
theorem fns38 : (T.at true).fn 38 = some i38 := rfl
theorem fns44 : (T.at true).fn 44 = some i44 := rfl
theorem fns45 : (T.at true).fn 45 = some i45 := rfl
theorem fns46 : (T.at true).fn 46 = some i46 := rfl
theorem fns47 : (T.at true).fn 47 = some i47 := rfl
theorem fns48 : (T.at true).fn 48 = some i48 := rfl
theorem fns49 : (T.at true).fn 49 = some i49 := rfl
theorem fns50 : (T.at true).fn 50 = some i50 := rfl
theorem fns51 : (T.at true).fn 51 = some i51 := rfl
theorem fns52 : (T.at true).fn 52 = some i52 := rfl
theorem fns53 : (T.at true).fn 53 = some i53 := rfl
theorem fns54 : (T.at true).fn 54 = some i54 := rfl
theorem fns57 : (T.at true).fn 57 = some i57 := rfl
theorem fns59 : (T.at true).fn 59 = some i59 := rfl
theorem fns61 : (T.at true).fn 61 = some i61 := rfl
theorem fns62 : (T.at true).fn 62 = some i62 := rfl
theorem fns63 : (T.at true).fn 63 = some i63 := rfl
theorem fns64 : (T.at true).fn 64 = some i64 := rfl
theorem fns66 : (T.at true).fn 66 = some i66 := rfl
theorem fns67 : (T.at true).fn 67 = some i67 := rfl
theorem fns68 : (T.at true).fn 68 = some i68 := rfl
theorem fns70 : (T.at true).fn 70 = some i70 := rfl
theorem fns76 : (T.at true).fn 76 = some i76 := rfl
theorem fns77 : (T.at true).fn 77 = some i77 := rfl
theorem fns78 : (T.at true).fn 78 = some i78 := rfl
theorem fns80 : (T.at true).fn 80 = some i80 := rfl
theorem fns81 : (T.at true).fn 81 = some i81 := rfl
theorem fns83 : (T.at true).fn 83 = some i83 := rfl
theorem fns84 : (T.at true).fn 84 = some i84 := rfl
theorem fns85 : (T.at true).fn 85 = some i85 := rfl
theorem fns90 : (T.at true).fn 90 = some i90 := rfl
end Go.Pi.Ytbohlpligkfkiaa.BestTo
