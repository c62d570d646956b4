/- What functions of the program answer, and that the law answers true at every input; no condition -/
import Derived.Test.YtpfoleebeamgpaaProg
import Derived.Test.YtpfoleebeamgpaaPiD
import Derived.Test.YtpfoleebeamgpaaPiC
set_option linter.all false
/- The program's tables for Pi: types and functions, as they stand in the loaded program, with hints. -/
namespace Go.Pi.Ytpfoleebeamgpaa.HasWheel
open Go Go.Proofs Go.Pi
set_option maxRecDepth 100000

-- loop.example/g00344/laws.szIntS
def r100_0 : List PO := [⟨(some 4), (Op.assign (Operand.const (Value.int IntKind.i64 0))), none⟩]
attribute [go_sem] r100_0
def r100_1 : List PO := [⟨(some 5), (Op.move (Operand.tmp 1)), none⟩,
  ⟨(some 6), (Op.move (Operand.tmp 0)), none⟩,
  ⟨(some 7), (Op.call { callee := (Callee.builtin Builtin.len), args := #[(Operand.tmp 6)], argTypes := #[31] }), none⟩,
  ⟨(some 8), (Op.binOp BinOp.sub 3 (Operand.tmp 5) (Operand.tmp 7) 3), none⟩,
  ⟨(some 1), (Op.assign (Operand.tmp 8)), none⟩]
attribute [go_sem] r100_1
def r100_2 : List PO := [⟨(some 9), (Op.move (Operand.tmp 1)), none⟩,
  ⟨(some 10), (Op.binOp BinOp.lss 3 (Operand.tmp 9) (Operand.const (Value.int IntKind.i64 0)) 3), none⟩]
attribute [go_sem] r100_2
def r100_3 : List PO := [⟨(some 4), (Op.assign (Operand.const (Value.int IntKind.i64 (-1)))), none⟩]
attribute [go_sem] r100_3
def r100_4 : List PO := [⟨(some 11), (Op.move (Operand.tmp 1)), none⟩,
  ⟨(some 4), (Op.assign (Operand.tmp 11)), none⟩]
attribute [go_sem] r100_4
def c100 : PC := (.seq (.reg r100_0) (.seq (.reg r100_1) (.seq (.seq (.reg r100_2) (.cond (Operand.tmp 10) (.seq (.reg r100_3) .ret) .skip)) (.seq (.reg r100_4) .ret))))
def i100 : FnI := ⟨12, [(ResultVar.tmp 4)], c100, 0, [[1], [0]], [[0]], false, false, 0⟩
-- loop.example/g00344/laws.szIntSS
def r86_5 : List PO := [⟨(some 12), (Op.move (Operand.tmp 5)), none⟩,
  ⟨(some 13), (Op.move (Operand.tmp 0)), none⟩,
  ⟨(some 14), (Op.call { callee := (Callee.builtin Builtin.len), args := #[(Operand.tmp 13)], argTypes := #[45] }), none⟩,
  ⟨(some 15), (Op.binOp BinOp.lss 3 (Operand.tmp 12) (Operand.tmp 14) 3), none⟩]
attribute [go_sem] r86_5
def r86_7 : List PO := [⟨(some 18), (Op.move (Operand.tmp 0)), none⟩,
  ⟨(some 19), (Op.move (Operand.tmp 5)), none⟩,
  ⟨(some 20), (Op.indexAddr 45 (Operand.tmp 18) (Operand.tmp 19)), none⟩,
  ⟨(some 21), (Op.load 31 (Operand.tmp 20)), none⟩,
  ⟨(some 22), (Op.move (Operand.tmp 1)), none⟩,
  ⟨(some 23), (Op.call { callee := (Callee.value (Operand.func 100)), args := #[(Operand.tmp 21), (Operand.tmp 22)], argTypes := #[31, 3] }), none⟩,
  ⟨(some 1), (Op.assign (Operand.tmp 23)), none⟩]
attribute [go_sem] r86_7
def r86_8 : List PO := [⟨(some 24), (Op.move (Operand.tmp 1)), none⟩,
  ⟨(some 25), (Op.binOp BinOp.lss 3 (Operand.tmp 24) (Operand.const (Value.int IntKind.i64 0)) 3), none⟩]
attribute [go_sem] r86_8
def r86_9 : List PO := [⟨(some 4), (Op.assign (Operand.const (Value.int IntKind.i64 (-1)))), none⟩]
attribute [go_sem] r86_9
def r86_6 : List PO := [⟨(some 16), (Op.move (Operand.tmp 5)), none⟩,
  ⟨(some 17), (Op.binOp BinOp.add 3 (Operand.tmp 16) (Operand.const (Value.int IntKind.i64 1)) 3), none⟩,
  ⟨(some 5), (Op.assign (Operand.tmp 17)), none⟩]
attribute [go_sem] r86_6
def k86_1b : PC := (.seq (.seq (.reg r86_5) (.cond (Operand.tmp 15) .skip (.pre ⟨[1], [], []⟩ (.exit 0)))) (.seq (.block 1 (.seq (.reg r86_7) (.seq (.reg r86_8) (.cond (Operand.tmp 25) (.seq (.reg r86_9) (.pre ⟨[4], [], []⟩ .ret)) .skip)))) (.post (.reg r86_6) ⟨[0, 1, 5], [], []⟩)))
def r86_0 : List PO := [⟨(some 4), (Op.assign (Operand.const (Value.int IntKind.i64 0))), none⟩]
attribute [go_sem] r86_0
def r86_1 : List PO := [⟨(some 6), (Op.move (Operand.tmp 1)), none⟩,
  ⟨(some 7), (Op.move (Operand.tmp 0)), none⟩,
  ⟨(some 8), (Op.call { callee := (Callee.builtin Builtin.len), args := #[(Operand.tmp 7)], argTypes := #[45] }), none⟩,
  ⟨(some 9), (Op.binOp BinOp.sub 3 (Operand.tmp 6) (Operand.tmp 8) 3), none⟩,
  ⟨(some 1), (Op.assign (Operand.tmp 9)), none⟩]
attribute [go_sem] r86_1
def r86_2 : List PO := [⟨(some 10), (Op.move (Operand.tmp 1)), none⟩,
  ⟨(some 11), (Op.binOp BinOp.lss 3 (Operand.tmp 10) (Operand.const (Value.int IntKind.i64 0)) 3), none⟩]
attribute [go_sem] r86_2
def r86_3 : List PO := [⟨(some 4), (Op.assign (Operand.const (Value.int IntKind.i64 (-1)))), none⟩]
attribute [go_sem] r86_3
def r86_4 : List PO := [⟨(some 5), (Op.assign (Operand.const (Value.int IntKind.i64 0))), none⟩]
attribute [go_sem] r86_4
def r86_10 : List PO := [⟨(some 26), (Op.move (Operand.tmp 1)), none⟩,
  ⟨(some 4), (Op.assign (Operand.tmp 26)), none⟩]
attribute [go_sem] r86_10
def c86 : PC := (.seq (.reg r86_0) (.seq (.reg r86_1) (.seq (.seq (.reg r86_2) (.cond (Operand.tmp 11) (.seq (.reg r86_3) .ret) .skip)) (.seq (.seq (.reg r86_4) (.block 0 (.pre ⟨[0, 1, 5], [], []⟩ (.loop k86_1b)))) (.seq (.reg r86_10) .ret)))))
def i86 : FnI := ⟨27, [(ResultVar.tmp 4)], c86, 0, [[1], [0]], [[0]], false, false, 0⟩
-- loop.example/g00344/laws.szIntSSS
def r46_5 : List PO := [⟨(some 12), (Op.move (Operand.tmp 5)), none⟩,
  ⟨(some 13), (Op.move (Operand.tmp 0)), none⟩,
  ⟨(some 14), (Op.call { callee := (Callee.builtin Builtin.len), args := #[(Operand.tmp 13)], argTypes := #[22] }), none⟩,
  ⟨(some 15), (Op.binOp BinOp.lss 3 (Operand.tmp 12) (Operand.tmp 14) 3), none⟩]
attribute [go_sem] r46_5
def r46_7 : List PO := [⟨(some 18), (Op.move (Operand.tmp 0)), none⟩,
  ⟨(some 19), (Op.move (Operand.tmp 5)), none⟩,
  ⟨(some 20), (Op.indexAddr 22 (Operand.tmp 18) (Operand.tmp 19)), none⟩,
  ⟨(some 21), (Op.load 45 (Operand.tmp 20)), none⟩,
  ⟨(some 22), (Op.move (Operand.tmp 1)), none⟩,
  ⟨(some 23), (Op.call { callee := (Callee.value (Operand.func 86)), args := #[(Operand.tmp 21), (Operand.tmp 22)], argTypes := #[45, 3] }), none⟩,
  ⟨(some 1), (Op.assign (Operand.tmp 23)), none⟩]
attribute [go_sem] r46_7
def r46_8 : List PO := [⟨(some 24), (Op.move (Operand.tmp 1)), none⟩,
  ⟨(some 25), (Op.binOp BinOp.lss 3 (Operand.tmp 24) (Operand.const (Value.int IntKind.i64 0)) 3), none⟩]
attribute [go_sem] r46_8
def r46_9 : List PO := [⟨(some 4), (Op.assign (Operand.const (Value.int IntKind.i64 (-1)))), none⟩]
attribute [go_sem] r46_9
def r46_6 : List PO := [⟨(some 16), (Op.move (Operand.tmp 5)), none⟩,
  ⟨(some 17), (Op.binOp BinOp.add 3 (Operand.tmp 16) (Operand.const (Value.int IntKind.i64 1)) 3), none⟩,
  ⟨(some 5), (Op.assign (Operand.tmp 17)), none⟩]
attribute [go_sem] r46_6
def k46_1b : PC := (.seq (.seq (.reg r46_5) (.cond (Operand.tmp 15) .skip (.pre ⟨[1], [], []⟩ (.exit 0)))) (.seq (.block 1 (.seq (.reg r46_7) (.seq (.reg r46_8) (.cond (Operand.tmp 25) (.seq (.reg r46_9) (.pre ⟨[4], [], []⟩ .ret)) .skip)))) (.post (.reg r46_6) ⟨[0, 1, 5], [], []⟩)))
def r46_0 : List PO := [⟨(some 4), (Op.assign (Operand.const (Value.int IntKind.i64 0))), none⟩]
attribute [go_sem] r46_0
def r46_1 : List PO := [⟨(some 6), (Op.move (Operand.tmp 1)), none⟩,
  ⟨(some 7), (Op.move (Operand.tmp 0)), none⟩,
  ⟨(some 8), (Op.call { callee := (Callee.builtin Builtin.len), args := #[(Operand.tmp 7)], argTypes := #[22] }), none⟩,
  ⟨(some 9), (Op.binOp BinOp.sub 3 (Operand.tmp 6) (Operand.tmp 8) 3), none⟩,
  ⟨(some 1), (Op.assign (Operand.tmp 9)), none⟩]
attribute [go_sem] r46_1
def r46_2 : List PO := [⟨(some 10), (Op.move (Operand.tmp 1)), none⟩,
  ⟨(some 11), (Op.binOp BinOp.lss 3 (Operand.tmp 10) (Operand.const (Value.int IntKind.i64 0)) 3), none⟩]
attribute [go_sem] r46_2
def r46_3 : List PO := [⟨(some 4), (Op.assign (Operand.const (Value.int IntKind.i64 (-1)))), none⟩]
attribute [go_sem] r46_3
def r46_4 : List PO := [⟨(some 5), (Op.assign (Operand.const (Value.int IntKind.i64 0))), none⟩]
attribute [go_sem] r46_4
def r46_10 : List PO := [⟨(some 26), (Op.move (Operand.tmp 1)), none⟩,
  ⟨(some 4), (Op.assign (Operand.tmp 26)), none⟩]
attribute [go_sem] r46_10
def c46 : PC := (.seq (.reg r46_0) (.seq (.reg r46_1) (.seq (.seq (.reg r46_2) (.cond (Operand.tmp 11) (.seq (.reg r46_3) .ret) .skip)) (.seq (.seq (.reg r46_4) (.block 0 (.pre ⟨[0, 1, 5], [], []⟩ (.loop k46_1b)))) (.seq (.reg r46_10) .ret)))))
def i46 : FnI := ⟨27, [(ResultVar.tmp 4)], c46, 0, [[1], [0]], [[0]], false, false, 0⟩
-- loop.example/g00344/laws.szSpp
def r13_0 : List PO := [⟨(some 2), (Op.box 24 (Operand.tmp 0)), none⟩,
  ⟨(some 4), (Op.assign (Operand.const (Value.int IntKind.i64 0))), none⟩]
attribute [go_sem] r13_0
def r13_1 : List PO := [⟨(some 5), (Op.fieldAddr 24 (Operand.tmp 2) 0), none⟩,
  ⟨(some 6), (Op.load 22 (Operand.tmp 5)), none⟩,
  ⟨(some 7), (Op.move (Operand.tmp 1)), none⟩,
  ⟨(some 8), (Op.call { callee := (Callee.value (Operand.func 46)), args := #[(Operand.tmp 6), (Operand.tmp 7)], argTypes := #[22, 3] }), none⟩,
  ⟨(some 1), (Op.assign (Operand.tmp 8)), none⟩]
attribute [go_sem] r13_1
def r13_2 : List PO := [⟨(some 9), (Op.move (Operand.tmp 1)), none⟩,
  ⟨(some 10), (Op.binOp BinOp.lss 3 (Operand.tmp 9) (Operand.const (Value.int IntKind.i64 0)) 3), none⟩]
attribute [go_sem] r13_2
def r13_3 : List PO := [⟨(some 4), (Op.assign (Operand.const (Value.int IntKind.i64 (-1)))), none⟩]
attribute [go_sem] r13_3
def r13_4 : List PO := [⟨(some 11), (Op.move (Operand.tmp 1)), none⟩,
  ⟨(some 4), (Op.assign (Operand.tmp 11)), none⟩]
attribute [go_sem] r13_4
def c13 : PC := (.seq (.reg r13_0) (.seq (.reg r13_1) (.seq (.seq (.reg r13_2) (.cond (Operand.tmp 10) (.seq (.reg r13_3) .ret) .skip)) (.seq (.reg r13_4) .ret))))
def i13 : FnI := ⟨12, [(ResultVar.tmp 4)], c13, 0, [[1], [0]], [[0]], false, false, 0⟩
-- loop.example/g00344/laws.toIntS
def r19_3 : List PO := [⟨(some 8), (Op.move (Operand.tmp 4)), none⟩,
  ⟨(some 9), (Op.move (Operand.tmp 0)), none⟩,
  ⟨(some 10), (Op.call { callee := (Callee.builtin Builtin.len), args := #[(Operand.tmp 9)], argTypes := #[31] }), none⟩,
  ⟨(some 11), (Op.binOp BinOp.lss 3 (Operand.tmp 8) (Operand.tmp 10) 3), none⟩]
attribute [go_sem] r19_3
def r19_5 : List PO := [⟨(some 14), (Op.move (Operand.tmp 3)), none⟩,
  ⟨(some 15), (Op.move (Operand.tmp 4)), none⟩,
  ⟨(some 16), (Op.move (Operand.tmp 0)), none⟩,
  ⟨(some 17), (Op.move (Operand.tmp 4)), none⟩,
  ⟨(some 18), (Op.indexAddr 31 (Operand.tmp 16) (Operand.tmp 17)), none⟩,
  ⟨(some 19), (Op.load 3 (Operand.tmp 18)), none⟩,
  ⟨(some 20), (Op.indexAddr 31 (Operand.tmp 14) (Operand.tmp 15)), none⟩,
  ⟨none, (Op.store 3 (Operand.tmp 20) (Operand.tmp 19)), none⟩]
attribute [go_sem] r19_5
def r19_4 : List PO := [⟨(some 12), (Op.move (Operand.tmp 4)), none⟩,
  ⟨(some 13), (Op.binOp BinOp.add 3 (Operand.tmp 12) (Operand.const (Value.int IntKind.i64 1)) 3), none⟩,
  ⟨(some 4), (Op.assign (Operand.tmp 13)), none⟩]
attribute [go_sem] r19_4
def k19_1b : PC := (.seq (.seq (.reg r19_3) (.cond (Operand.tmp 11) .skip (.pre ⟨[3], [.old 0], []⟩ (.exit 0)))) (.seq (.block 1 (.reg r19_5)) (.post (.reg r19_4) ⟨[0, 3, 4], [.old 0], []⟩)))
def r19_0 : List PO := [⟨(some 2), (Op.assign (Operand.const (Value.slice none 0 0))), none⟩]
attribute [go_sem] r19_0
def r19_1 : List PO := [⟨(some 5), (Op.move (Operand.tmp 0)), none⟩,
  ⟨(some 6), (Op.call { callee := (Callee.builtin Builtin.len), args := #[(Operand.tmp 5)], argTypes := #[31] }), none⟩,
  ⟨(some 7), (Op.makeSlice 31 (Operand.tmp 6) (Operand.tmp 6)), none⟩,
  ⟨(some 3), (Op.assign (Operand.tmp 7)), none⟩]
attribute [go_sem] r19_1
def r19_2 : List PO := [⟨(some 4), (Op.assign (Operand.const (Value.int IntKind.i64 0))), none⟩]
attribute [go_sem] r19_2
def r19_6 : List PO := [⟨(some 21), (Op.move (Operand.tmp 3)), none⟩,
  ⟨(some 2), (Op.assign (Operand.tmp 21)), none⟩]
attribute [go_sem] r19_6
def c19 : PC := (.seq (.reg r19_0) (.seq (.reg r19_1) (.seq (.seq (.reg r19_2) (.block 0 (.pre ⟨[0, 3, 4], [.old 0], []⟩ (.loop k19_1b)))) (.seq (.reg r19_6) .ret))))
def i19 : FnI := ⟨22, [(ResultVar.tmp 2)], c19, 0, [[1]], [[1]], false, false, 0⟩
-- loop.example/g00344/laws.toIntSS
def r88_3 : List PO := [⟨(some 8), (Op.move (Operand.tmp 4)), none⟩,
  ⟨(some 9), (Op.move (Operand.tmp 0)), none⟩,
  ⟨(some 10), (Op.call { callee := (Callee.builtin Builtin.len), args := #[(Operand.tmp 9)], argTypes := #[45] }), none⟩,
  ⟨(some 11), (Op.binOp BinOp.lss 3 (Operand.tmp 8) (Operand.tmp 10) 3), none⟩]
attribute [go_sem] r88_3
def r88_5 : List PO := [⟨(some 14), (Op.move (Operand.tmp 3)), none⟩,
  ⟨(some 15), (Op.move (Operand.tmp 4)), none⟩,
  ⟨(some 16), (Op.move (Operand.tmp 0)), none⟩,
  ⟨(some 17), (Op.move (Operand.tmp 4)), none⟩,
  ⟨(some 18), (Op.indexAddr 45 (Operand.tmp 16) (Operand.tmp 17)), none⟩,
  ⟨(some 19), (Op.load 31 (Operand.tmp 18)), none⟩,
  ⟨(some 20), (Op.call { callee := (Callee.value (Operand.func 19)), args := #[(Operand.tmp 19)], argTypes := #[31] }), none⟩,
  ⟨(some 21), (Op.indexAddr 45 (Operand.tmp 14) (Operand.tmp 15)), none⟩,
  ⟨none, (Op.store 31 (Operand.tmp 21) (Operand.tmp 20)), none⟩]
attribute [go_sem] r88_5
def r88_4 : List PO := [⟨(some 12), (Op.move (Operand.tmp 4)), none⟩,
  ⟨(some 13), (Op.binOp BinOp.add 3 (Operand.tmp 12) (Operand.const (Value.int IntKind.i64 1)) 3), none⟩,
  ⟨(some 4), (Op.assign (Operand.tmp 13)), none⟩]
attribute [go_sem] r88_4
def k88_1b : PC := (.seq (.seq (.reg r88_3) (.cond (Operand.tmp 11) .skip (.pre ⟨[3], [.old 0], []⟩ (.exit 0)))) (.seq (.block 1 (.reg r88_5)) (.post (.reg r88_4) ⟨[0, 3, 4], [.old 0], []⟩)))
def r88_0 : List PO := [⟨(some 2), (Op.assign (Operand.const (Value.slice none 0 0))), none⟩]
attribute [go_sem] r88_0
def r88_1 : List PO := [⟨(some 5), (Op.move (Operand.tmp 0)), none⟩,
  ⟨(some 6), (Op.call { callee := (Callee.builtin Builtin.len), args := #[(Operand.tmp 5)], argTypes := #[45] }), none⟩,
  ⟨(some 7), (Op.makeSlice 45 (Operand.tmp 6) (Operand.tmp 6)), none⟩,
  ⟨(some 3), (Op.assign (Operand.tmp 7)), none⟩]
attribute [go_sem] r88_1
def r88_2 : List PO := [⟨(some 4), (Op.assign (Operand.const (Value.int IntKind.i64 0))), none⟩]
attribute [go_sem] r88_2
def r88_6 : List PO := [⟨(some 22), (Op.move (Operand.tmp 3)), none⟩,
  ⟨(some 2), (Op.assign (Operand.tmp 22)), none⟩]
attribute [go_sem] r88_6
def c88 : PC := (.seq (.reg r88_0) (.seq (.reg r88_1) (.seq (.seq (.reg r88_2) (.block 0 (.pre ⟨[0, 3, 4], [.old 0], []⟩ (.loop k88_1b)))) (.seq (.reg r88_6) .ret))))
def i88 : FnI := ⟨23, [(ResultVar.tmp 2)], c88, 0, [[1]], [[1]], false, false, 0⟩
-- loop.example/g00344/laws.toIntSSS
def r50_3 : List PO := [⟨(some 8), (Op.move (Operand.tmp 4)), none⟩,
  ⟨(some 9), (Op.move (Operand.tmp 0)), none⟩,
  ⟨(some 10), (Op.call { callee := (Callee.builtin Builtin.len), args := #[(Operand.tmp 9)], argTypes := #[22] }), none⟩,
  ⟨(some 11), (Op.binOp BinOp.lss 3 (Operand.tmp 8) (Operand.tmp 10) 3), none⟩]
attribute [go_sem] r50_3
def r50_5 : List PO := [⟨(some 14), (Op.move (Operand.tmp 3)), none⟩,
  ⟨(some 15), (Op.move (Operand.tmp 4)), none⟩,
  ⟨(some 16), (Op.move (Operand.tmp 0)), none⟩,
  ⟨(some 17), (Op.move (Operand.tmp 4)), none⟩,
  ⟨(some 18), (Op.indexAddr 22 (Operand.tmp 16) (Operand.tmp 17)), none⟩,
  ⟨(some 19), (Op.load 45 (Operand.tmp 18)), none⟩,
  ⟨(some 20), (Op.call { callee := (Callee.value (Operand.func 88)), args := #[(Operand.tmp 19)], argTypes := #[45] }), none⟩,
  ⟨(some 21), (Op.indexAddr 22 (Operand.tmp 14) (Operand.tmp 15)), none⟩,
  ⟨none, (Op.store 45 (Operand.tmp 21) (Operand.tmp 20)), none⟩]
attribute [go_sem] r50_5
def r50_4 : List PO := [⟨(some 12), (Op.move (Operand.tmp 4)), none⟩,
  ⟨(some 13), (Op.binOp BinOp.add 3 (Operand.tmp 12) (Operand.const (Value.int IntKind.i64 1)) 3), none⟩,
  ⟨(some 4), (Op.assign (Operand.tmp 13)), none⟩]
attribute [go_sem] r50_4
def k50_1b : PC := (.seq (.seq (.reg r50_3) (.cond (Operand.tmp 11) .skip (.pre ⟨[3], [.old 0], []⟩ (.exit 0)))) (.seq (.block 1 (.reg r50_5)) (.post (.reg r50_4) ⟨[0, 3, 4], [.old 0], []⟩)))
def r50_0 : List PO := [⟨(some 2), (Op.assign (Operand.const (Value.slice none 0 0))), none⟩]
attribute [go_sem] r50_0
def r50_1 : List PO := [⟨(some 5), (Op.move (Operand.tmp 0)), none⟩,
  ⟨(some 6), (Op.call { callee := (Callee.builtin Builtin.len), args := #[(Operand.tmp 5)], argTypes := #[22] }), none⟩,
  ⟨(some 7), (Op.makeSlice 22 (Operand.tmp 6) (Operand.tmp 6)), none⟩,
  ⟨(some 3), (Op.assign (Operand.tmp 7)), none⟩]
attribute [go_sem] r50_1
def r50_2 : List PO := [⟨(some 4), (Op.assign (Operand.const (Value.int IntKind.i64 0))), none⟩]
attribute [go_sem] r50_2
def r50_6 : List PO := [⟨(some 22), (Op.move (Operand.tmp 3)), none⟩,
  ⟨(some 2), (Op.assign (Operand.tmp 22)), none⟩]
attribute [go_sem] r50_6
def c50 : PC := (.seq (.reg r50_0) (.seq (.reg r50_1) (.seq (.seq (.reg r50_2) (.block 0 (.pre ⟨[0, 3, 4], [.old 0], []⟩ (.loop k50_1b)))) (.seq (.reg r50_6) .ret))))
def i50 : FnI := ⟨23, [(ResultVar.tmp 2)], c50, 0, [[1]], [[1]], false, false, 0⟩
-- loop.example/g00344/laws.toSpp
def r15_0 : List PO := [⟨(some 1), (Op.box 24 (Operand.tmp 0)), none⟩,
  ⟨(some 2), (Op.alloc 27), none⟩]
attribute [go_sem] r15_0
def r15_1 : List PO := [⟨(some 3), (Op.alloc 27), none⟩]
attribute [go_sem] r15_1
def r15_2 : List PO := [⟨(some 4), (Op.fieldAddr 24 (Operand.tmp 1) 0), none⟩,
  ⟨(some 5), (Op.load 22 (Operand.tmp 4)), none⟩,
  ⟨(some 6), (Op.call { callee := (Callee.value (Operand.func 50)), args := #[(Operand.tmp 5)], argTypes := #[22] }), none⟩,
  ⟨(some 7), (Op.fieldAddr 27 (Operand.tmp 3) 0), none⟩,
  ⟨none, (Op.store 22 (Operand.tmp 7) (Operand.tmp 6)), none⟩]
attribute [go_sem] r15_2
def r15_3 : List PO := [⟨(some 8), (Op.load 27 (Operand.tmp 3)), none⟩,
  ⟨none, (Op.store 27 (Operand.tmp 2) (Operand.tmp 8)), none⟩]
attribute [go_sem] r15_3
def c15 : PC := (.seq (.reg r15_0) (.seq (.reg r15_1) (.seq (.reg r15_2) (.seq (.reg r15_3) .ret))))
def i15 : FnI := ⟨9, [(ResultVar.cell 2 27)], c15, 0, [[1]], [[1]], false, false, 0⟩
-- loop.example/g00344/spec.l1In
def r47_1 : List PO := [⟨(some 7), (Op.move (Operand.tmp 0)), none⟩,
  ⟨(some 8), (Op.move (Operand.tmp 1)), none⟩,
  ⟨(some 9), (Op.binOp BinOp.geq 3 (Operand.tmp 7) (Operand.tmp 8) 3), none⟩,
  ⟨(some 10), (Op.move (Operand.tmp 9)), none⟩,
  ⟨(some 11), (Op.move (Operand.tmp 0)), (some (10, true))⟩,
  ⟨(some 12), (Op.move (Operand.tmp 2)), (some (10, true))⟩,
  ⟨(some 13), (Op.binOp BinOp.leq 3 (Operand.tmp 11) (Operand.tmp 12) 3), (some (10, true))⟩,
  ⟨(some 14), (Op.pick (Operand.tmp 10) (Operand.tmp 13) (Operand.const (Value.bool false))), none⟩,
  ⟨(some 6), (Op.assign (Operand.tmp 14)), none⟩]
attribute [go_sem] r47_1
def k47_1 : PC := (.post (.reg r47_1) ⟨[6], [], []⟩)
def r47_0 : List PO := [⟨(some 6), (Op.assign (Operand.const (Value.bool false))), none⟩]
attribute [go_sem] r47_0
def c47 : PC := (.seq (.reg r47_0) (.seq (.pre ⟨[0, 1, 2], [], []⟩ k47_1) .ret))
def i47 : FnI := ⟨15, [(ResultVar.tmp 6)], c47, 0, [[0], [0], [0]], [[0]], false, false, 0⟩
-- loop.example/g00344/spec.l1Has
def r87_2 : List PO := [⟨(some 10), (Op.binOp BinOp.lss 3 (Operand.tmp 9) (Operand.tmp 8) 3), none⟩]
attribute [go_sem] r87_2
def r87_3 : List PO := [⟨(some 11), (Op.indexAddr 31 (Operand.tmp 7) (Operand.tmp 9)), none⟩,
  ⟨(some 12), (Op.load 3 (Operand.tmp 11)), none⟩,
  ⟨(some 6), (Op.assign (Operand.tmp 12)), none⟩]
attribute [go_sem] r87_3
def r87_4 : List PO := [⟨(some 13), (Op.move (Operand.tmp 6)), none⟩,
  ⟨(some 14), (Op.move (Operand.tmp 1)), none⟩,
  ⟨(some 15), (Op.binOp BinOp.eql 3 (Operand.tmp 13) (Operand.tmp 14) 3), none⟩]
attribute [go_sem] r87_4
def r87_5 : List PO := [⟨(some 4), (Op.assign (Operand.const (Value.bool true))), none⟩]
attribute [go_sem] r87_5
def r87_6 : List PO := [⟨(some 16), (Op.binOp BinOp.add 3 (Operand.tmp 9) (Operand.const (Value.int IntKind.i64 1)) 3), none⟩,
  ⟨(some 9), (Op.move (Operand.tmp 16)), none⟩]
attribute [go_sem] r87_6
def k87_1b : PC := (.seq (.reg r87_2) (.seq (.cond (Operand.tmp 10) .skip (.pre ⟨[], [], []⟩ (.exit 0))) (.seq (.block 1 (.seq (.reg r87_3) (.seq (.reg r87_4) (.cond (Operand.tmp 15) (.seq (.reg r87_5) (.pre ⟨[4], [], []⟩ .ret)) .skip)))) (.post (.reg r87_6) ⟨[1, 7, 8, 9], [], []⟩))))
def r87_0 : List PO := [⟨(some 4), (Op.assign (Operand.const (Value.bool false))), none⟩]
attribute [go_sem] r87_0
def r87_1 : List PO := [⟨(some 7), (Op.move (Operand.tmp 0)), none⟩,
  ⟨(some 8), (Op.call { callee := (Callee.builtin Builtin.len), args := #[(Operand.tmp 7)], argTypes := #[31] }), none⟩,
  ⟨(some 9), (Op.move (Operand.const (Value.int IntKind.i64 0))), none⟩]
attribute [go_sem] r87_1
def r87_7 : List PO := [⟨(some 4), (Op.assign (Operand.const (Value.bool false))), none⟩]
attribute [go_sem] r87_7
def c87 : PC := (.seq (.reg r87_0) (.seq (.seq (.reg r87_1) (.block 0 (.pre ⟨[1, 7, 8, 9], [], []⟩ (.loop k87_1b)))) (.seq (.reg r87_7) .ret)))
def i87 : FnI := ⟨17, [(ResultVar.tmp 4)], c87, 0, [[1], [0]], [[0]], false, false, 0⟩
-- loop.example/g00344/spec.l10Same
def r79_4 : List PO := [⟨(some 14), (Op.binOp BinOp.lss 3 (Operand.tmp 13) (Operand.tmp 12) 3), none⟩]
attribute [go_sem] r79_4
def r79_5 : List PO := [⟨(some 15), (Op.move (Operand.tmp 13)), none⟩,
  ⟨(some 5), (Op.assign (Operand.tmp 15)), none⟩]
attribute [go_sem] r79_5
def r79_6 : List PO := [⟨(some 16), (Op.move (Operand.tmp 0)), none⟩,
  ⟨(some 17), (Op.move (Operand.tmp 5)), none⟩,
  ⟨(some 18), (Op.indexAddr 31 (Operand.tmp 16) (Operand.tmp 17)), none⟩,
  ⟨(some 19), (Op.load 3 (Operand.tmp 18)), none⟩,
  ⟨(some 20), (Op.move (Operand.tmp 1)), none⟩,
  ⟨(some 21), (Op.move (Operand.tmp 5)), none⟩,
  ⟨(some 22), (Op.indexAddr 31 (Operand.tmp 20) (Operand.tmp 21)), none⟩,
  ⟨(some 23), (Op.load 3 (Operand.tmp 22)), none⟩,
  ⟨(some 24), (Op.binOp BinOp.neq 3 (Operand.tmp 19) (Operand.tmp 23) 3), none⟩]
attribute [go_sem] r79_6
def r79_7 : List PO := [⟨(some 4), (Op.assign (Operand.const (Value.bool false))), none⟩]
attribute [go_sem] r79_7
def r79_8 : List PO := [⟨(some 25), (Op.binOp BinOp.add 3 (Operand.tmp 13) (Operand.const (Value.int IntKind.i64 1)) 3), none⟩,
  ⟨(some 13), (Op.move (Operand.tmp 25)), none⟩]
attribute [go_sem] r79_8
def k79_1b : PC := (.seq (.reg r79_4) (.seq (.cond (Operand.tmp 14) .skip (.pre ⟨[], [], []⟩ (.exit 0))) (.seq (.block 1 (.seq (.reg r79_5) (.seq (.fz r79_6) (.cond (Operand.tmp 24) (.seq (.reg r79_7) (.pre ⟨[4], [], []⟩ .ret)) .skip)))) (.post (.reg r79_8) ⟨[0, 1, 12, 13], [], []⟩))))
def r79_0 : List PO := [⟨(some 4), (Op.assign (Operand.const (Value.bool false))), none⟩]
attribute [go_sem] r79_0
def r79_1 : List PO := [⟨(some 6), (Op.move (Operand.tmp 0)), none⟩,
  ⟨(some 7), (Op.call { callee := (Callee.builtin Builtin.len), args := #[(Operand.tmp 6)], argTypes := #[31] }), none⟩,
  ⟨(some 8), (Op.move (Operand.tmp 1)), none⟩,
  ⟨(some 9), (Op.call { callee := (Callee.builtin Builtin.len), args := #[(Operand.tmp 8)], argTypes := #[31] }), none⟩,
  ⟨(some 10), (Op.binOp BinOp.neq 3 (Operand.tmp 7) (Operand.tmp 9) 3), none⟩]
attribute [go_sem] r79_1
def r79_2 : List PO := [⟨(some 4), (Op.assign (Operand.const (Value.bool false))), none⟩]
attribute [go_sem] r79_2
def r79_3 : List PO := [⟨(some 11), (Op.move (Operand.tmp 0)), none⟩,
  ⟨(some 12), (Op.call { callee := (Callee.builtin Builtin.len), args := #[(Operand.tmp 11)], argTypes := #[31] }), none⟩,
  ⟨(some 13), (Op.move (Operand.const (Value.int IntKind.i64 0))), none⟩]
attribute [go_sem] r79_3
def r79_9 : List PO := [⟨(some 4), (Op.assign (Operand.const (Value.bool true))), none⟩]
attribute [go_sem] r79_9
def c79 : PC := (.seq (.reg r79_0) (.seq (.seq (.reg r79_1) (.cond (Operand.tmp 10) (.seq (.reg r79_2) .ret) .skip)) (.seq (.seq (.reg r79_3) (.block 0 (.pre ⟨[0, 1, 12, 13], [], []⟩ (.loop k79_1b)))) (.seq (.reg r79_9) .ret))))
def i79 : FnI := ⟨26, [(ResultVar.tmp 4)], c79, 0, [[1], [1]], [[0]], false, false, 0⟩
-- loop.example/g00344/spec.l10At
def r49_2 : List PO := [⟨(some 17), (Op.binOp BinOp.lss 3 (Operand.tmp 16) (Operand.tmp 15) 3), none⟩]
attribute [go_sem] r49_2
def r49_3 : List PO := [⟨(some 18), (Op.move (Operand.tmp 16)), none⟩,
  ⟨(some 19), (Op.indexAddr 45 (Operand.tmp 14) (Operand.tmp 16)), none⟩,
  ⟨(some 20), (Op.load 31 (Operand.tmp 19)), none⟩,
  ⟨(some 7), (Op.assign (Operand.tmp 18)), none⟩,
  ⟨(some 8), (Op.assign (Operand.tmp 20)), none⟩]
attribute [go_sem] r49_3
def r49_4 : List PO := [⟨(some 21), (Op.move (Operand.tmp 8)), none⟩,
  ⟨(some 22), (Op.move (Operand.tmp 2)), none⟩,
  ⟨(some 23), (Op.call { callee := (Callee.value (Operand.func 79)), args := #[(Operand.tmp 21), (Operand.tmp 22)], argTypes := #[31, 31] }), none⟩]
attribute [go_sem] r49_4
def r49_5 : List PO := [⟨(some 24), (Op.move (Operand.tmp 7)), none⟩,
  ⟨(some 6), (Op.assign (Operand.tmp 24)), none⟩]
attribute [go_sem] r49_5
def r49_6 : List PO := [⟨(some 25), (Op.binOp BinOp.add 3 (Operand.tmp 16) (Operand.const (Value.int IntKind.i64 1)) 3), none⟩,
  ⟨(some 16), (Op.move (Operand.tmp 25)), none⟩]
attribute [go_sem] r49_6
def k49_1b : PC := (.seq (.reg r49_2) (.seq (.cond (Operand.tmp 17) .skip (.pre ⟨[], [], []⟩ (.exit 0))) (.seq (.block 1 (.seq (.reg r49_3) (.seq (.reg r49_4) (.cond (Operand.tmp 23) (.seq (.reg r49_5) (.pre ⟨[6], [], []⟩ .ret)) .skip)))) (.post (.reg r49_6) ⟨[2, 14, 15, 16], [], []⟩))))
def r49_0 : List PO := [⟨(some 3), (Op.box 27 (Operand.tmp 0)), none⟩,
  ⟨(some 6), (Op.assign (Operand.const (Value.int IntKind.i64 0))), none⟩]
attribute [go_sem] r49_0
def r49_1 : List PO := [⟨(some 9), (Op.fieldAddr 27 (Operand.tmp 3) 0), none⟩,
  ⟨(some 10), (Op.load 22 (Operand.tmp 9)), none⟩,
  ⟨(some 11), (Op.move (Operand.tmp 1)), none⟩,
  ⟨(some 12), (Op.binOp BinOp.sub 3 (Operand.tmp 11) (Operand.const (Value.int IntKind.i64 1)) 3), none⟩,
  ⟨(some 13), (Op.indexAddr 22 (Operand.tmp 10) (Operand.tmp 12)), none⟩,
  ⟨(some 14), (Op.load 45 (Operand.tmp 13)), none⟩,
  ⟨(some 15), (Op.call { callee := (Callee.builtin Builtin.len), args := #[(Operand.tmp 14)], argTypes := #[45] }), none⟩,
  ⟨(some 16), (Op.move (Operand.const (Value.int IntKind.i64 0))), none⟩]
attribute [go_sem] r49_1
def r49_7 : List PO := [⟨(some 6), (Op.assign (Operand.const (Value.int IntKind.i64 (-1)))), none⟩]
attribute [go_sem] r49_7
def c49 : PC := (.seq (.reg r49_0) (.seq (.seq (.reg r49_1) (.block 0 (.pre ⟨[2, 14, 15, 16], [], []⟩ (.loop k49_1b)))) (.seq (.reg r49_7) .ret)))
def i49 : FnI := ⟨26, [(ResultVar.tmp 6)], c49, 0, [[1], [0], [1]], [[0]], false, false, 0⟩
-- loop.example/g00344/spec.l10Path
def r48_2 : List PO := [⟨(some 13), (Op.move (Operand.tmp 2)), none⟩,
  ⟨(some 14), (Op.call { callee := (Callee.builtin Builtin.len), args := #[(Operand.tmp 13)], argTypes := #[31] }), none⟩,
  ⟨(some 15), (Op.binOp BinOp.lss 3 (Operand.tmp 14) (Operand.const (Value.int IntKind.i64 2)) 3), none⟩,
  ⟨(some 16), (Op.move (Operand.tmp 15)), none⟩,
  ⟨(some 17), (Op.move (Operand.tmp 2)), (some (16, false))⟩,
  ⟨(some 18), (Op.indexAddr 31 (Operand.tmp 17) (Operand.const (Value.int IntKind.i64 0))), (some (16, false))⟩,
  ⟨(some 19), (Op.load 3 (Operand.tmp 18)), (some (16, false))⟩,
  ⟨(some 20), (Op.move (Operand.tmp 1)), (some (16, false))⟩,
  ⟨(some 21), (Op.binOp BinOp.neq 3 (Operand.tmp 19) (Operand.tmp 20) 3), (some (16, false))⟩,
  ⟨(some 22), (Op.pick (Operand.tmp 16) (Operand.const (Value.bool true)) (Operand.tmp 21)), none⟩,
  ⟨(some 23), (Op.move (Operand.tmp 22)), none⟩,
  ⟨(some 24), (Op.move (Operand.tmp 2)), (some (23, false))⟩,
  ⟨(some 25), (Op.move (Operand.tmp 2)), (some (23, false))⟩,
  ⟨(some 26), (Op.call { callee := (Callee.builtin Builtin.len), args := #[(Operand.tmp 25)], argTypes := #[31] }), (some (23, false))⟩,
  ⟨(some 27), (Op.binOp BinOp.sub 3 (Operand.tmp 26) (Operand.const (Value.int IntKind.i64 1)) 3), (some (23, false))⟩,
  ⟨(some 28), (Op.indexAddr 31 (Operand.tmp 24) (Operand.tmp 27)), (some (23, false))⟩,
  ⟨(some 29), (Op.load 3 (Operand.tmp 28)), (some (23, false))⟩,
  ⟨(some 30), (Op.binOp BinOp.neq 3 (Operand.tmp 29) (Operand.const (Value.int IntKind.i64 0)) 3), (some (23, false))⟩,
  ⟨(some 31), (Op.pick (Operand.tmp 23) (Operand.const (Value.bool true)) (Operand.tmp 30)), none⟩]
attribute [go_sem] r48_2
def k48_1 : PC := (.post (.reg r48_2) ⟨[2, 3, 7, 31], [.old 0], []⟩)
def r48_7 : List PO := [⟨(some 39), (Op.move (Operand.tmp 9)), none⟩,
  ⟨(some 40), (Op.binOp BinOp.lss 3 (Operand.tmp 39) (Operand.const (Value.int IntKind.i64 0)) 3), none⟩,
  ⟨(some 41), (Op.move (Operand.tmp 40)), none⟩,
  ⟨(some 42), (Op.move (Operand.tmp 9)), (some (41, false))⟩,
  ⟨(some 43), (Op.move (Operand.tmp 7)), (some (41, false))⟩,
  ⟨(some 44), (Op.binOp BinOp.gtr 3 (Operand.tmp 42) (Operand.tmp 43) 3), (some (41, false))⟩,
  ⟨(some 45), (Op.pick (Operand.tmp 41) (Operand.const (Value.bool true)) (Operand.tmp 44)), none⟩,
  ⟨(some 46), (Op.move (Operand.tmp 45)), none⟩,
  ⟨(some 47), (Op.move (Operand.tmp 2)), (some (46, false))⟩,
  ⟨(some 48), (Op.move (Operand.tmp 8)), (some (46, false))⟩,
  ⟨(some 49), (Op.slice 31 (Operand.tmp 47) none (some (Operand.tmp 48)) none), (some (46, false))⟩,
  ⟨(some 50), (Op.move (Operand.tmp 9)), (some (46, false))⟩,
  ⟨(some 51), (Op.call { callee := (Callee.value (Operand.func 87)), args := #[(Operand.tmp 49), (Operand.tmp 50)], argTypes := #[31, 3] }), (some (46, false))⟩,
  ⟨(some 52), (Op.pick (Operand.tmp 46) (Operand.const (Value.bool true)) (Operand.tmp 51)), none⟩,
  ⟨(some 53), (Op.move (Operand.tmp 52)), none⟩,
  ⟨(some 54), (Op.move (Operand.tmp 9)), (some (53, false))⟩,
  ⟨(some 55), (Op.binOp BinOp.eql 3 (Operand.tmp 54) (Operand.const (Value.int IntKind.i64 0)) 3), (some (53, false))⟩,
  ⟨(some 56), (Op.move (Operand.tmp 55)), (some (53, false))⟩,
  ⟨(some 57), (Op.move (Operand.tmp 8)), (some (56, true))⟩,
  ⟨(some 58), (Op.move (Operand.tmp 2)), (some (56, true))⟩,
  ⟨(some 59), (Op.call { callee := (Callee.builtin Builtin.len), args := #[(Operand.tmp 58)], argTypes := #[31] }), (some (56, true))⟩,
  ⟨(some 60), (Op.binOp BinOp.sub 3 (Operand.tmp 59) (Operand.const (Value.int IntKind.i64 1)) 3), (some (56, true))⟩,
  ⟨(some 61), (Op.binOp BinOp.lss 3 (Operand.tmp 57) (Operand.tmp 60) 3), (some (56, true))⟩,
  ⟨(some 62), (Op.pick (Operand.tmp 56) (Operand.tmp 61) (Operand.const (Value.bool false))), (some (53, false))⟩,
  ⟨(some 63), (Op.pick (Operand.tmp 53) (Operand.const (Value.bool true)) (Operand.tmp 62)), none⟩]
attribute [go_sem] r48_7
def k48_4 : PC := (.post (.reg r48_7) ⟨[2, 3, 7, 32, 33, 34, 63], [.old 0], []⟩)
def r48_5 : List PO := [⟨(some 35), (Op.binOp BinOp.lss 3 (Operand.tmp 34) (Operand.tmp 33) 3), none⟩]
attribute [go_sem] r48_5
def r48_6 : List PO := [⟨(some 36), (Op.move (Operand.tmp 34)), none⟩,
  ⟨(some 37), (Op.indexAddr 31 (Operand.tmp 32) (Operand.tmp 34)), none⟩,
  ⟨(some 38), (Op.load 3 (Operand.tmp 37)), none⟩,
  ⟨(some 8), (Op.assign (Operand.tmp 36)), none⟩,
  ⟨(some 9), (Op.assign (Operand.tmp 38)), none⟩]
attribute [go_sem] r48_6
def r48_8 : List PO := [⟨(some 6), (Op.assign (Operand.const (Value.bool false))), none⟩]
attribute [go_sem] r48_8
def r48_9 : List PO := [⟨(some 64), (Op.binOp BinOp.add 3 (Operand.tmp 34) (Operand.const (Value.int IntKind.i64 1)) 3), none⟩,
  ⟨(some 34), (Op.move (Operand.tmp 64)), none⟩]
attribute [go_sem] r48_9
def k48_2b : PC := (.seq (.reg r48_5) (.seq (.cond (Operand.tmp 35) .skip (.pre ⟨[2, 3], [.old 0], []⟩ (.exit 0))) (.seq (.block 1 (.seq (.reg r48_6) (.seq (.pre ⟨[2, 3, 7, 8, 9, 32, 33, 34], [.old 0], []⟩ k48_4) (.cond (Operand.tmp 63) (.seq (.reg r48_8) (.pre ⟨[6], [], []⟩ .ret)) .skip)))) (.post (.reg r48_9) ⟨[2, 3, 7, 32, 33, 34], [.old 0], []⟩))))
def r48_10 : List PO := [⟨(some 65), (Op.move (Operand.tmp 2)), none⟩,
  ⟨(some 66), (Op.call { callee := (Callee.builtin Builtin.len), args := #[(Operand.tmp 65)], argTypes := #[31] }), none⟩,
  ⟨(some 67), (Op.binOp BinOp.eql 3 (Operand.tmp 66) (Operand.const (Value.int IntKind.i64 2)) 3), none⟩,
  ⟨(some 68), (Op.move (Operand.tmp 67)), none⟩,
  ⟨(some 69), (Op.load 27 (Operand.tmp 3)), (some (68, false))⟩,
  ⟨(some 70), (Op.move (Operand.tmp 2)), (some (68, false))⟩,
  ⟨(some 71), (Op.indexAddr 31 (Operand.tmp 70) (Operand.const (Value.int IntKind.i64 1))), (some (68, false))⟩,
  ⟨(some 72), (Op.load 3 (Operand.tmp 71)), (some (68, false))⟩,
  ⟨(some 73), (Op.move (Operand.tmp 2)), (some (68, false))⟩,
  ⟨(some 74), (Op.slice 31 (Operand.tmp 73) (some (Operand.const (Value.int IntKind.i64 1))) none none), (some (68, false))⟩,
  ⟨(some 75), (Op.call { callee := (Callee.value (Operand.func 49)), args := #[(Operand.tmp 69), (Operand.tmp 72), (Operand.tmp 74)], argTypes := #[27, 3, 31] }), (some (68, false))⟩,
  ⟨(some 76), (Op.binOp BinOp.geq 3 (Operand.tmp 75) (Operand.const (Value.int IntKind.i64 0)) 3), (some (68, false))⟩,
  ⟨(some 77), (Op.pick (Operand.tmp 68) (Operand.const (Value.bool true)) (Operand.tmp 76)), none⟩,
  ⟨(some 6), (Op.assign (Operand.tmp 77)), none⟩]
attribute [go_sem] r48_10
def k48_5 : PC := (.post (.fz r48_10) ⟨[6], [], []⟩)
def r48_0 : List PO := [⟨(some 3), (Op.box 27 (Operand.tmp 0)), none⟩,
  ⟨(some 6), (Op.assign (Operand.const (Value.bool false))), none⟩]
attribute [go_sem] r48_0
def r48_1 : List PO := [⟨(some 10), (Op.fieldAddr 27 (Operand.tmp 3) 0), none⟩,
  ⟨(some 11), (Op.load 22 (Operand.tmp 10)), none⟩,
  ⟨(some 12), (Op.call { callee := (Callee.builtin Builtin.len), args := #[(Operand.tmp 11)], argTypes := #[22] }), none⟩,
  ⟨(some 7), (Op.assign (Operand.tmp 12)), none⟩]
attribute [go_sem] r48_1
def r48_3 : List PO := [⟨(some 6), (Op.assign (Operand.const (Value.bool false))), none⟩]
attribute [go_sem] r48_3
def r48_4 : List PO := [⟨(some 32), (Op.move (Operand.tmp 2)), none⟩,
  ⟨(some 33), (Op.call { callee := (Callee.builtin Builtin.len), args := #[(Operand.tmp 32)], argTypes := #[31] }), none⟩,
  ⟨(some 34), (Op.move (Operand.const (Value.int IntKind.i64 0))), none⟩]
attribute [go_sem] r48_4
def c48 : PC := (.seq (.reg r48_0) (.seq (.reg r48_1) (.seq (.seq (.pre ⟨[1, 2, 3, 7], [.old 0], []⟩ k48_1) (.cond (Operand.tmp 31) (.seq (.reg r48_3) .ret) .skip)) (.seq (.seq (.reg r48_4) (.block 0 (.pre ⟨[2, 3, 7, 32, 33, 34], [.old 0], []⟩ (.loop k48_2b)))) (.seq (.pre ⟨[2, 3], [.old 0], []⟩ k48_5) .ret)))))
def i48 : FnI := ⟨78, [(ResultVar.tmp 6)], c48, 0, [[1], [0], [1]], [[0]], false, false, 0⟩
-- loop.example/g00344/spec.GoodSpp
def r14_11 : List PO := [⟨(some 30), (Op.load 27 (Operand.tmp 1)), none⟩,
  ⟨(some 31), (Op.move (Operand.tmp 3)), none⟩,
  ⟨(some 32), (Op.binOp BinOp.add 3 (Operand.tmp 31) (Operand.const (Value.int IntKind.i64 1)) 3), none⟩,
  ⟨(some 33), (Op.move (Operand.tmp 6)), none⟩,
  ⟨(some 34), (Op.call { callee := (Callee.value (Operand.func 48)), args := #[(Operand.tmp 30), (Operand.tmp 32), (Operand.tmp 33)], argTypes := #[27, 3, 31] }), none⟩,
  ⟨(some 35), (Op.unOp UnOp.not 4 (Operand.tmp 34)), none⟩,
  ⟨(some 36), (Op.move (Operand.tmp 35)), none⟩,
  ⟨(some 37), (Op.load 27 (Operand.tmp 1)), (some (36, false))⟩,
  ⟨(some 38), (Op.move (Operand.tmp 3)), (some (36, false))⟩,
  ⟨(some 39), (Op.binOp BinOp.add 3 (Operand.tmp 38) (Operand.const (Value.int IntKind.i64 1)) 3), (some (36, false))⟩,
  ⟨(some 40), (Op.move (Operand.tmp 6)), (some (36, false))⟩,
  ⟨(some 41), (Op.call { callee := (Callee.value (Operand.func 49)), args := #[(Operand.tmp 37), (Operand.tmp 39), (Operand.tmp 40)], argTypes := #[27, 3, 31] }), (some (36, false))⟩,
  ⟨(some 42), (Op.move (Operand.tmp 5)), (some (36, false))⟩,
  ⟨(some 43), (Op.binOp BinOp.neq 3 (Operand.tmp 41) (Operand.tmp 42) 3), (some (36, false))⟩,
  ⟨(some 44), (Op.pick (Operand.tmp 36) (Operand.const (Value.bool true)) (Operand.tmp 43)), none⟩]
attribute [go_sem] r14_11
def k14_7 : PC := (.post (.reg r14_11) ⟨[1, 3, 13, 14, 15, 23, 24, 25, 44], [.old 0], []⟩)
def r14_9 : List PO := [⟨(some 26), (Op.binOp BinOp.lss 3 (Operand.tmp 25) (Operand.tmp 24) 3), none⟩]
attribute [go_sem] r14_9
def r14_10 : List PO := [⟨(some 27), (Op.move (Operand.tmp 25)), none⟩,
  ⟨(some 28), (Op.indexAddr 45 (Operand.tmp 23) (Operand.tmp 25)), none⟩,
  ⟨(some 29), (Op.load 31 (Operand.tmp 28)), none⟩,
  ⟨(some 5), (Op.assign (Operand.tmp 27)), none⟩,
  ⟨(some 6), (Op.assign (Operand.tmp 29)), none⟩]
attribute [go_sem] r14_10
def r14_12 : List PO := [⟨(some 2), (Op.assign (Operand.const (Value.bool false))), none⟩]
attribute [go_sem] r14_12
def r14_13 : List PO := [⟨(some 45), (Op.binOp BinOp.add 3 (Operand.tmp 25) (Operand.const (Value.int IntKind.i64 1)) 3), none⟩,
  ⟨(some 25), (Op.move (Operand.tmp 45)), none⟩]
attribute [go_sem] r14_13
def k14_5b : PC := (.seq (.reg r14_9) (.seq (.cond (Operand.tmp 26) .skip (.pre ⟨[1, 13, 14, 15], [.old 0], []⟩ (.exit 2))) (.seq (.block 3 (.seq (.reg r14_10) (.seq (.pre ⟨[1, 3, 5, 6, 13, 14, 15, 23, 24, 25], [.old 0], []⟩ k14_7) (.cond (Operand.tmp 44) (.seq (.reg r14_12) (.pre ⟨[2], [], []⟩ .ret)) .skip)))) (.post (.reg r14_13) ⟨[1, 3, 13, 14, 15, 23, 24, 25], [.old 0], []⟩))))
def r14_4 : List PO := [⟨(some 16), (Op.binOp BinOp.lss 3 (Operand.tmp 15) (Operand.tmp 14) 3), none⟩]
attribute [go_sem] r14_4
def r14_5 : List PO := [⟨(some 17), (Op.move (Operand.tmp 15)), none⟩,
  ⟨(some 18), (Op.indexAddr 22 (Operand.tmp 13) (Operand.tmp 15)), none⟩,
  ⟨(some 19), (Op.load 45 (Operand.tmp 18)), none⟩,
  ⟨(some 3), (Op.assign (Operand.tmp 17)), none⟩,
  ⟨(some 4), (Op.assign (Operand.tmp 19)), none⟩]
attribute [go_sem] r14_5
def r14_6 : List PO := [⟨(some 20), (Op.move (Operand.tmp 4)), none⟩,
  ⟨(some 21), (Op.call { callee := (Callee.builtin Builtin.len), args := #[(Operand.tmp 20)], argTypes := #[45] }), none⟩,
  ⟨(some 22), (Op.binOp BinOp.gtr 3 (Operand.tmp 21) (Operand.const (Value.int IntKind.i64 6)) 3), none⟩]
attribute [go_sem] r14_6
def r14_7 : List PO := [⟨(some 2), (Op.assign (Operand.const (Value.bool false))), none⟩]
attribute [go_sem] r14_7
def r14_8 : List PO := [⟨(some 23), (Op.move (Operand.tmp 4)), none⟩,
  ⟨(some 24), (Op.call { callee := (Callee.builtin Builtin.len), args := #[(Operand.tmp 23)], argTypes := #[45] }), none⟩,
  ⟨(some 25), (Op.move (Operand.const (Value.int IntKind.i64 0))), none⟩]
attribute [go_sem] r14_8
def r14_14 : List PO := [⟨(some 46), (Op.binOp BinOp.add 3 (Operand.tmp 15) (Operand.const (Value.int IntKind.i64 1)) 3), none⟩,
  ⟨(some 15), (Op.move (Operand.tmp 46)), none⟩]
attribute [go_sem] r14_14
def k14_1b : PC := (.seq (.reg r14_4) (.seq (.cond (Operand.tmp 16) .skip (.pre ⟨[], [], []⟩ (.exit 0))) (.seq (.block 1 (.seq (.reg r14_5) (.seq (.seq (.reg r14_6) (.cond (Operand.tmp 22) (.seq (.reg r14_7) (.pre ⟨[2], [], []⟩ .ret)) .skip)) (.seq (.reg r14_8) (.block 2 (.pre ⟨[1, 3, 13, 14, 15, 23, 24, 25], [.old 0], []⟩ (.loop k14_5b))))))) (.post (.reg r14_14) ⟨[1, 13, 14, 15], [.old 0], []⟩))))
def r14_0 : List PO := [⟨(some 1), (Op.box 27 (Operand.tmp 0)), none⟩,
  ⟨(some 2), (Op.assign (Operand.const (Value.bool false))), none⟩]
attribute [go_sem] r14_0
def r14_1 : List PO := [⟨(some 7), (Op.fieldAddr 27 (Operand.tmp 1) 0), none⟩,
  ⟨(some 8), (Op.load 22 (Operand.tmp 7)), none⟩,
  ⟨(some 9), (Op.call { callee := (Callee.builtin Builtin.len), args := #[(Operand.tmp 8)], argTypes := #[22] }), none⟩,
  ⟨(some 10), (Op.call { callee := (Callee.value (Operand.func 47)), args := #[(Operand.tmp 9), (Operand.const (Value.int IntKind.i64 1)), (Operand.const (Value.int IntKind.i64 5))], argTypes := #[3, 3, 3] }), none⟩,
  ⟨(some 11), (Op.unOp UnOp.not 4 (Operand.tmp 10)), none⟩]
attribute [go_sem] r14_1
def r14_2 : List PO := [⟨(some 2), (Op.assign (Operand.const (Value.bool false))), none⟩]
attribute [go_sem] r14_2
def r14_3 : List PO := [⟨(some 12), (Op.fieldAddr 27 (Operand.tmp 1) 0), none⟩,
  ⟨(some 13), (Op.load 22 (Operand.tmp 12)), none⟩,
  ⟨(some 14), (Op.call { callee := (Callee.builtin Builtin.len), args := #[(Operand.tmp 13)], argTypes := #[22] }), none⟩,
  ⟨(some 15), (Op.move (Operand.const (Value.int IntKind.i64 0))), none⟩]
attribute [go_sem] r14_3
def r14_15 : List PO := [⟨(some 2), (Op.assign (Operand.const (Value.bool true))), none⟩]
attribute [go_sem] r14_15
def c14 : PC := (.seq (.reg r14_0) (.seq (.seq (.reg r14_1) (.cond (Operand.tmp 11) (.seq (.reg r14_2) .ret) .skip)) (.seq (.seq (.reg r14_3) (.block 0 (.pre ⟨[1, 13, 14, 15], [.old 0], []⟩ (.loop k14_1b)))) (.seq (.reg r14_15) .ret))))
def i14 : FnI := ⟨47, [(ResultVar.tmp 2)], c14, 0, [[1]], [[0]], false, false, 0⟩
-- loop.example/g00344/spec.l10Next
def r93_6 : List PO := [⟨(some 25), (Op.move (Operand.tmp 8)), none⟩,
  ⟨(some 26), (Op.move (Operand.tmp 7)), none⟩,
  ⟨(some 27), (Op.call { callee := (Callee.builtin Builtin.len), args := #[(Operand.tmp 26)], argTypes := #[31] }), none⟩,
  ⟨(some 28), (Op.binOp BinOp.sub 3 (Operand.tmp 27) (Operand.const (Value.int IntKind.i64 1)) 3), none⟩,
  ⟨(some 29), (Op.binOp BinOp.lss 3 (Operand.tmp 25) (Operand.tmp 28) 3), none⟩]
attribute [go_sem] r93_6
def r93_8 : List PO := [⟨(some 32), (Op.move (Operand.tmp 5)), none⟩,
  ⟨(some 33), (Op.move (Operand.tmp 7)), none⟩,
  ⟨(some 34), (Op.move (Operand.tmp 8)), none⟩,
  ⟨(some 35), (Op.indexAddr 31 (Operand.tmp 33) (Operand.tmp 34)), none⟩,
  ⟨(some 36), (Op.load 3 (Operand.tmp 35)), none⟩,
  ⟨(some 37), (Op.load 27 (Operand.tmp 2)), none⟩,
  ⟨(some 38), (Op.move (Operand.tmp 7)), none⟩,
  ⟨(some 39), (Op.move (Operand.tmp 8)), none⟩,
  ⟨(some 40), (Op.indexAddr 31 (Operand.tmp 38) (Operand.tmp 39)), none⟩,
  ⟨(some 41), (Op.load 3 (Operand.tmp 40)), none⟩,
  ⟨(some 42), (Op.move (Operand.tmp 7)), none⟩,
  ⟨(some 43), (Op.move (Operand.tmp 8)), none⟩,
  ⟨(some 44), (Op.slice 31 (Operand.tmp 42) (some (Operand.tmp 43)) none none), none⟩,
  ⟨(some 45), (Op.call { callee := (Callee.value (Operand.func 49)), args := #[(Operand.tmp 37), (Operand.tmp 41), (Operand.tmp 44)], argTypes := #[27, 3, 31] }), none⟩,
  ⟨(some 46), (Op.build 70 #[(0, (Operand.tmp 36)), (1, (Operand.tmp 45))]), none⟩,
  ⟨(some 47), (Op.buildSlice 94 1 #[(0, (Operand.tmp 46))]), none⟩,
  ⟨(some 48), (Op.call { callee := (Callee.builtin Builtin.append), args := #[(Operand.tmp 32), (Operand.tmp 47)], argTypes := #[94, 94] }), none⟩,
  ⟨(some 5), (Op.assign (Operand.tmp 48)), none⟩]
attribute [go_sem] r93_8
def x93_8 : FxI := ⟨[13, 15, 16], [none, none, none, none, none, none, none, none, none, none, none, none, none, none, none, none, none, none], 0, [[], [13], [13, 15], [13, 15, 16]], [], [(3, 1, 1), (4, 1, 1)]⟩
attribute [go_sem] x93_8
def r93_7 : List PO := [⟨(some 30), (Op.move (Operand.tmp 8)), none⟩,
  ⟨(some 31), (Op.binOp BinOp.add 3 (Operand.tmp 30) (Operand.const (Value.int IntKind.i64 1)) 3), none⟩,
  ⟨(some 8), (Op.assign (Operand.tmp 31)), none⟩]
attribute [go_sem] r93_7
def k93_3b : PC := (.seq (.seq (.reg r93_6) (.cond (Operand.tmp 29) .skip (.pre ⟨[2, 5, 19, 20, 21], [.old 0, .old 1], []⟩ (.exit 2)))) (.seq (.block 3 (.fx r93_8 x93_8)) (.post (.reg r93_7) ⟨[2, 5, 7, 8, 19, 20, 21], [.old 0, .old 3], []⟩)))
def r93_3 : List PO := [⟨(some 22), (Op.binOp BinOp.lss 3 (Operand.tmp 21) (Operand.tmp 20) 3), none⟩]
attribute [go_sem] r93_3
def r93_4 : List PO := [⟨(some 23), (Op.indexAddr 45 (Operand.tmp 19) (Operand.tmp 21)), none⟩,
  ⟨(some 24), (Op.load 31 (Operand.tmp 23)), none⟩,
  ⟨(some 7), (Op.assign (Operand.tmp 24)), none⟩]
attribute [go_sem] r93_4
def r93_5 : List PO := [⟨(some 8), (Op.assign (Operand.const (Value.int IntKind.i64 1))), none⟩]
attribute [go_sem] r93_5
def r93_9 : List PO := [⟨(some 49), (Op.binOp BinOp.add 3 (Operand.tmp 21) (Operand.const (Value.int IntKind.i64 1)) 3), none⟩,
  ⟨(some 21), (Op.move (Operand.tmp 49)), none⟩]
attribute [go_sem] r93_9
def k93_1b : PC := (.seq (.reg r93_3) (.seq (.cond (Operand.tmp 22) .skip (.pre ⟨[5], [.old 1], []⟩ (.exit 0))) (.seq (.block 1 (.seq (.reg r93_4) (.seq (.reg r93_5) (.block 2 (.pre ⟨[2, 5, 7, 8, 19, 20, 21], [.old 0, .old 1], []⟩ (.loop k93_3b)))))) (.post (.reg r93_9) ⟨[2, 5, 19, 20, 21], [.old 0, .old 1], []⟩))))
def r93_0 : List PO := [⟨(some 2), (Op.box 27 (Operand.tmp 0)), none⟩,
  ⟨(some 3), (Op.box 70 (Operand.tmp 1)), none⟩,
  ⟨(some 4), (Op.assign (Operand.const (Value.slice none 0 0))), none⟩]
attribute [go_sem] r93_0
def r93_1 : List PO := [⟨(some 5), (Op.assign (Operand.const (Value.slice none 0 0))), none⟩]
attribute [go_sem] r93_1
def r93_2 : List PO := [⟨(some 9), (Op.fieldAddr 27 (Operand.tmp 2) 0), none⟩,
  ⟨(some 10), (Op.load 22 (Operand.tmp 9)), none⟩,
  ⟨(some 11), (Op.fieldAddr 70 (Operand.tmp 3) 0), none⟩,
  ⟨(some 12), (Op.load 3 (Operand.tmp 11)), none⟩,
  ⟨(some 13), (Op.binOp BinOp.sub 3 (Operand.tmp 12) (Operand.const (Value.int IntKind.i64 1)) 3), none⟩,
  ⟨(some 14), (Op.indexAddr 22 (Operand.tmp 10) (Operand.tmp 13)), none⟩,
  ⟨(some 15), (Op.load 45 (Operand.tmp 14)), none⟩,
  ⟨(some 16), (Op.fieldAddr 70 (Operand.tmp 3) 1), none⟩,
  ⟨(some 17), (Op.load 3 (Operand.tmp 16)), none⟩,
  ⟨(some 18), (Op.binOp BinOp.add 3 (Operand.tmp 17) (Operand.const (Value.int IntKind.i64 1)) 3), none⟩,
  ⟨(some 19), (Op.slice 45 (Operand.tmp 15) none (some (Operand.tmp 18)) none), none⟩,
  ⟨(some 20), (Op.call { callee := (Callee.builtin Builtin.len), args := #[(Operand.tmp 19)], argTypes := #[45] }), none⟩,
  ⟨(some 21), (Op.move (Operand.const (Value.int IntKind.i64 0))), none⟩]
attribute [go_sem] r93_2
def r93_10 : List PO := [⟨(some 50), (Op.move (Operand.tmp 5)), none⟩,
  ⟨(some 4), (Op.assign (Operand.tmp 50)), none⟩]
attribute [go_sem] r93_10
def c93 : PC := (.seq (.reg r93_0) (.seq (.reg r93_1) (.seq (.seq (.fz r93_2) (.block 0 (.pre ⟨[2, 5, 19, 20, 21], [.old 0, .nilT 5 0 2], []⟩ (.loop k93_1b)))) (.seq (.reg r93_10) .ret))))
def i93 : FnI := ⟨51, [(ResultVar.tmp 4)], c93, 0, [[1], [0, 0]], [[2]], false, false, 0⟩
-- loop.example/g00344/spec.l10Round
def r63_14 : List PO := [⟨(some 42), (Op.move (Operand.tmp 11)), none⟩,
  ⟨(some 43), (Op.move (Operand.tmp 42)), none⟩,
  ⟨(some 44), (Op.load 70 (Operand.tmp 13)), (some (43, false))⟩,
  ⟨(some 45), (Op.load 70 (Operand.tmp 10)), (some (43, false))⟩,
  ⟨(some 46), (Op.binOp BinOp.eql 70 (Operand.tmp 44) (Operand.tmp 45) 70), (some (43, false))⟩,
  ⟨(some 47), (Op.pick (Operand.tmp 43) (Operand.const (Value.bool true)) (Operand.tmp 46)), none⟩,
  ⟨(some 11), (Op.assign (Operand.tmp 47)), none⟩]
attribute [go_sem] r63_14
def k63_18 : PC := (.post (.reg r63_14) ⟨[3, 5, 7, 8, 10, 11, 27, 28, 29, 36, 37, 38], [.old 0, .old 1, .old 2, .old 3], []⟩)
def r63_12 : List PO := [⟨(some 39), (Op.binOp BinOp.lss 3 (Operand.tmp 38) (Operand.tmp 37) 3), none⟩]
attribute [go_sem] r63_12
def r63_13 : List PO := [⟨(some 40), (Op.indexAddr 94 (Operand.tmp 36) (Operand.tmp 38)), none⟩,
  ⟨(some 41), (Op.load 70 (Operand.tmp 40)), none⟩,
  ⟨(some 13), (Op.alloc 70), none⟩,
  ⟨none, (Op.store 70 (Operand.tmp 13) (Operand.tmp 41)), none⟩]
attribute [go_sem] r63_13
def r63_15 : List PO := [⟨(some 48), (Op.binOp BinOp.add 3 (Operand.tmp 38) (Operand.const (Value.int IntKind.i64 1)) 3), none⟩,
  ⟨(some 38), (Op.move (Operand.tmp 48)), none⟩]
attribute [go_sem] r63_15
def k63_16b : PC := (.seq (.reg r63_12) (.seq (.cond (Operand.tmp 39) .skip (.pre ⟨[3, 5, 7, 8, 10, 11, 27, 28, 29], [.old 0, .old 1, .old 2, .old 3], []⟩ (.exit 4))) (.seq (.block 5 (.seq (.reg r63_13) (.pre ⟨[3, 5, 7, 8, 10, 11, 13, 27, 28, 29, 36, 37, 38], [.old 0, .old 1, .old 2, .old 3, .old 4], []⟩ k63_18))) (.post (.reg r63_15) ⟨[3, 5, 7, 8, 10, 11, 27, 28, 29, 36, 37, 38], [.old 0, .old 1, .old 2, .old 3], []⟩))))
def r63_17 : List PO := [⟨(some 51), (Op.move (Operand.tmp 7)), none⟩,
  ⟨(some 52), (Op.load 70 (Operand.tmp 10)), none⟩,
  ⟨(some 53), (Op.buildSlice 94 1 #[(0, (Operand.tmp 52))]), none⟩,
  ⟨(some 54), (Op.call { callee := (Callee.builtin Builtin.append), args := #[(Operand.tmp 51), (Operand.tmp 53)], argTypes := #[94, 94] }), none⟩,
  ⟨(some 7), (Op.assign (Operand.tmp 54)), none⟩]
attribute [go_sem] r63_17
def k63_19 : PC := (.cond (Operand.tmp 50) (.post (.reg r63_17) ⟨[3, 5, 7, 8, 27, 28, 29], [.old 0, .old 1, .old 5], []⟩) (.post .skip ⟨[3, 5, 7, 8, 27, 28, 29], [.old 0, .old 1, .old 2], []⟩))
def r63_6 : List PO := [⟨(some 30), (Op.binOp BinOp.lss 3 (Operand.tmp 29) (Operand.tmp 28) 3), none⟩]
attribute [go_sem] r63_6
def r63_7 : List PO := [⟨(some 31), (Op.indexAddr 94 (Operand.tmp 27) (Operand.tmp 29)), none⟩,
  ⟨(some 32), (Op.load 70 (Operand.tmp 31)), none⟩,
  ⟨(some 10), (Op.alloc 70), none⟩,
  ⟨none, (Op.store 70 (Operand.tmp 10) (Operand.tmp 32)), none⟩]
attribute [go_sem] r63_7
def r63_8 : List PO := [⟨(some 33), (Op.load 70 (Operand.tmp 10)), none⟩,
  ⟨(some 34), (Op.load 70 (Operand.tmp 5)), none⟩,
  ⟨(some 35), (Op.binOp BinOp.eql 70 (Operand.tmp 33) (Operand.tmp 34) 70), none⟩]
attribute [go_sem] r63_8
def r63_9 : List PO := [⟨(some 6), (Op.assign (Operand.const (Value.bool true))), none⟩]
attribute [go_sem] r63_9
def r63_10 : List PO := [⟨(some 11), (Op.assign (Operand.const (Value.bool false))), none⟩]
attribute [go_sem] r63_10
def r63_11 : List PO := [⟨(some 36), (Op.move (Operand.tmp 7)), none⟩,
  ⟨(some 37), (Op.call { callee := (Callee.builtin Builtin.len), args := #[(Operand.tmp 36)], argTypes := #[94] }), none⟩,
  ⟨(some 38), (Op.move (Operand.const (Value.int IntKind.i64 0))), none⟩]
attribute [go_sem] r63_11
def r63_16 : List PO := [⟨(some 49), (Op.move (Operand.tmp 11)), none⟩,
  ⟨(some 50), (Op.unOp UnOp.not 4 (Operand.tmp 49)), none⟩]
attribute [go_sem] r63_16
def r63_18 : List PO := [⟨(some 55), (Op.binOp BinOp.add 3 (Operand.tmp 29) (Operand.const (Value.int IntKind.i64 1)) 3), none⟩,
  ⟨(some 29), (Op.move (Operand.tmp 55)), none⟩]
attribute [go_sem] r63_18
def k63_11b : PC := (.seq (.reg r63_6) (.seq (.cond (Operand.tmp 30) .skip (.pre ⟨[3, 5, 7, 8], [.old 0, .old 1, .old 2], []⟩ (.exit 2))) (.seq (.block 3 (.seq (.reg r63_7) (.seq (.seq (.reg r63_8) (.cond (Operand.tmp 35) (.seq (.reg r63_9) (.pre ⟨[6], [], []⟩ .ret)) .skip)) (.seq (.reg r63_10) (.seq (.seq (.reg r63_11) (.block 4 (.pre ⟨[3, 5, 7, 8, 10, 11, 27, 28, 29, 36, 37, 38], [.old 0, .old 1, .old 2, .old 3], []⟩ (.loop k63_16b)))) (.seq (.reg r63_16) (.pre ⟨[3, 5, 7, 8, 10, 27, 28, 29, 50], [.old 0, .old 1, .old 2, .old 3], []⟩ k63_19))))))) (.post (.reg r63_18) ⟨[3, 5, 7, 8, 27, 28, 29], [.old 0, .old 1, .old 2], []⟩))))
def r63_3 : List PO := [⟨(some 16), (Op.move (Operand.tmp 8)), none⟩,
  ⟨(some 17), (Op.move (Operand.tmp 7)), none⟩,
  ⟨(some 18), (Op.call { callee := (Callee.builtin Builtin.len), args := #[(Operand.tmp 17)], argTypes := #[94] }), none⟩,
  ⟨(some 19), (Op.binOp BinOp.lss 3 (Operand.tmp 16) (Operand.tmp 18) 3), none⟩]
attribute [go_sem] r63_3
def r63_5 : List PO := [⟨(some 22), (Op.load 27 (Operand.tmp 3)), none⟩,
  ⟨(some 23), (Op.move (Operand.tmp 7)), none⟩,
  ⟨(some 24), (Op.move (Operand.tmp 8)), none⟩,
  ⟨(some 25), (Op.indexAddr 94 (Operand.tmp 23) (Operand.tmp 24)), none⟩,
  ⟨(some 26), (Op.load 70 (Operand.tmp 25)), none⟩,
  ⟨(some 27), (Op.call { callee := (Callee.value (Operand.func 93)), args := #[(Operand.tmp 22), (Operand.tmp 26)], argTypes := #[27, 70] }), none⟩,
  ⟨(some 28), (Op.call { callee := (Callee.builtin Builtin.len), args := #[(Operand.tmp 27)], argTypes := #[94] }), none⟩,
  ⟨(some 29), (Op.move (Operand.const (Value.int IntKind.i64 0))), none⟩]
attribute [go_sem] r63_5
def r63_4 : List PO := [⟨(some 20), (Op.move (Operand.tmp 8)), none⟩,
  ⟨(some 21), (Op.binOp BinOp.add 3 (Operand.tmp 20) (Operand.const (Value.int IntKind.i64 1)) 3), none⟩,
  ⟨(some 8), (Op.assign (Operand.tmp 21)), none⟩]
attribute [go_sem] r63_4
def k63_1b : PC := (.seq (.seq (.reg r63_3) (.cond (Operand.tmp 19) .skip (.pre ⟨[], [], []⟩ (.exit 0)))) (.seq (.block 1 (.seq (.fz r63_5) (.block 2 (.pre ⟨[3, 5, 7, 8, 27, 28, 29], [.old 0, .old 1, .old 2], []⟩ (.loop k63_11b))))) (.post (.reg r63_4) ⟨[3, 5, 7, 8], [.old 0, .old 1, .old 2], []⟩)))
def r63_0 : List PO := [⟨(some 3), (Op.box 27 (Operand.tmp 0)), none⟩,
  ⟨(some 4), (Op.box 70 (Operand.tmp 1)), none⟩,
  ⟨(some 5), (Op.box 70 (Operand.tmp 2)), none⟩,
  ⟨(some 6), (Op.assign (Operand.const (Value.bool false))), none⟩]
attribute [go_sem] r63_0
def r63_1 : List PO := [⟨(some 14), (Op.load 70 (Operand.tmp 4)), none⟩,
  ⟨(some 15), (Op.buildSlice 94 1 #[(0, (Operand.tmp 14))]), none⟩,
  ⟨(some 7), (Op.assign (Operand.tmp 15)), none⟩]
attribute [go_sem] r63_1
def r63_2 : List PO := [⟨(some 8), (Op.assign (Operand.const (Value.int IntKind.i64 0))), none⟩]
attribute [go_sem] r63_2
def r63_19 : List PO := [⟨(some 6), (Op.assign (Operand.const (Value.bool false))), none⟩]
attribute [go_sem] r63_19
def c63 : PC := (.seq (.reg r63_0) (.seq (.reg r63_1) (.seq (.seq (.reg r63_2) (.block 0 (.pre ⟨[3, 5, 7, 8], [.old 0, .old 2, .old 3], []⟩ (.loop k63_1b)))) (.seq (.reg r63_19) .ret))))
def i63 : FnI := ⟨56, [(ResultVar.tmp 6)], c63, 0, [[1], [0, 0], [0, 0]], [[0]], false, false, 0⟩
-- loop.example/g00344/spec.HasWheel
def r24_7 : List PO := [⟨(some 22), (Op.binOp BinOp.lss 3 (Operand.tmp 21) (Operand.tmp 20) 3), none⟩]
attribute [go_sem] r24_7
def r24_8 : List PO := [⟨(some 23), (Op.move (Operand.tmp 21)), none⟩,
  ⟨(some 6), (Op.assign (Operand.tmp 23)), none⟩]
attribute [go_sem] r24_8
def r24_9 : List PO := [⟨(some 24), (Op.move (Operand.tmp 4)), none⟩,
  ⟨(some 25), (Op.binOp BinOp.add 3 (Operand.tmp 24) (Operand.const (Value.int IntKind.i64 1)) 3), none⟩,
  ⟨(some 26), (Op.move (Operand.tmp 6)), none⟩,
  ⟨(some 27), (Op.build 70 #[(0, (Operand.tmp 25)), (1, (Operand.tmp 26))]), none⟩,
  ⟨(some 7), (Op.alloc 70), none⟩,
  ⟨none, (Op.store 70 (Operand.tmp 7) (Operand.tmp 27)), none⟩]
attribute [go_sem] r24_9
def r24_10 : List PO := [⟨(some 28), (Op.load 27 (Operand.tmp 1)), none⟩,
  ⟨(some 29), (Op.load 70 (Operand.tmp 7)), none⟩,
  ⟨(some 30), (Op.load 70 (Operand.tmp 7)), none⟩,
  ⟨(some 31), (Op.call { callee := (Callee.value (Operand.func 63)), args := #[(Operand.tmp 28), (Operand.tmp 29), (Operand.tmp 30)], argTypes := #[27, 70, 70] }), none⟩]
attribute [go_sem] r24_10
def r24_11 : List PO := [⟨(some 2), (Op.assign (Operand.const (Value.bool true))), none⟩,
  ⟨(some 3), (Op.assign (Operand.const (Value.bool true))), none⟩]
attribute [go_sem] r24_11
def r24_12 : List PO := [⟨(some 32), (Op.binOp BinOp.add 3 (Operand.tmp 21) (Operand.const (Value.int IntKind.i64 1)) 3), none⟩,
  ⟨(some 21), (Op.move (Operand.tmp 32)), none⟩]
attribute [go_sem] r24_12
def k24_3b : PC := (.seq (.reg r24_7) (.seq (.cond (Operand.tmp 22) .skip (.pre ⟨[1, 12, 13, 14], [.old 0], []⟩ (.exit 2))) (.seq (.block 3 (.seq (.reg r24_8) (.seq (.reg r24_9) (.seq (.reg r24_10) (.cond (Operand.tmp 31) (.seq (.reg r24_11) (.pre ⟨[2, 3], [], []⟩ .ret)) .skip))))) (.post (.reg r24_12) ⟨[1, 4, 12, 13, 14, 20, 21], [.old 0], []⟩))))
def r24_4 : List PO := [⟨(some 15), (Op.binOp BinOp.lss 3 (Operand.tmp 14) (Operand.tmp 13) 3), none⟩]
attribute [go_sem] r24_4
def r24_5 : List PO := [⟨(some 16), (Op.move (Operand.tmp 14)), none⟩,
  ⟨(some 17), (Op.indexAddr 22 (Operand.tmp 12) (Operand.tmp 14)), none⟩,
  ⟨(some 18), (Op.load 45 (Operand.tmp 17)), none⟩,
  ⟨(some 4), (Op.assign (Operand.tmp 16)), none⟩,
  ⟨(some 5), (Op.assign (Operand.tmp 18)), none⟩]
attribute [go_sem] r24_5
def r24_6 : List PO := [⟨(some 19), (Op.move (Operand.tmp 5)), none⟩,
  ⟨(some 20), (Op.call { callee := (Callee.builtin Builtin.len), args := #[(Operand.tmp 19)], argTypes := #[45] }), none⟩,
  ⟨(some 21), (Op.move (Operand.const (Value.int IntKind.i64 0))), none⟩]
attribute [go_sem] r24_6
def r24_13 : List PO := [⟨(some 33), (Op.binOp BinOp.add 3 (Operand.tmp 14) (Operand.const (Value.int IntKind.i64 1)) 3), none⟩,
  ⟨(some 14), (Op.move (Operand.tmp 33)), none⟩]
attribute [go_sem] r24_13
def k24_1b : PC := (.seq (.reg r24_4) (.seq (.cond (Operand.tmp 15) .skip (.pre ⟨[], [], []⟩ (.exit 0))) (.seq (.block 1 (.seq (.reg r24_5) (.seq (.reg r24_6) (.block 2 (.pre ⟨[1, 4, 12, 13, 14, 20, 21], [.old 0], []⟩ (.loop k24_3b)))))) (.post (.reg r24_13) ⟨[1, 12, 13, 14], [.old 0], []⟩))))
def r24_0 : List PO := [⟨(some 1), (Op.box 27 (Operand.tmp 0)), none⟩,
  ⟨(some 2), (Op.assign (Operand.const (Value.bool false))), none⟩,
  ⟨(some 3), (Op.assign (Operand.const (Value.bool false))), none⟩]
attribute [go_sem] r24_0
def r24_1 : List PO := [⟨(some 8), (Op.load 27 (Operand.tmp 1)), none⟩,
  ⟨(some 9), (Op.call { callee := (Callee.value (Operand.func 14)), args := #[(Operand.tmp 8)], argTypes := #[27] }), none⟩,
  ⟨(some 10), (Op.unOp UnOp.not 4 (Operand.tmp 9)), none⟩]
attribute [go_sem] r24_1
def r24_2 : List PO := [⟨(some 2), (Op.assign (Operand.const (Value.bool false))), none⟩,
  ⟨(some 3), (Op.assign (Operand.const (Value.bool false))), none⟩]
attribute [go_sem] r24_2
def r24_3 : List PO := [⟨(some 11), (Op.fieldAddr 27 (Operand.tmp 1) 0), none⟩,
  ⟨(some 12), (Op.load 22 (Operand.tmp 11)), none⟩,
  ⟨(some 13), (Op.call { callee := (Callee.builtin Builtin.len), args := #[(Operand.tmp 12)], argTypes := #[22] }), none⟩,
  ⟨(some 14), (Op.move (Operand.const (Value.int IntKind.i64 0))), none⟩]
attribute [go_sem] r24_3
def r24_14 : List PO := [⟨(some 2), (Op.assign (Operand.const (Value.bool false))), none⟩,
  ⟨(some 3), (Op.assign (Operand.const (Value.bool true))), none⟩]
attribute [go_sem] r24_14
def c24 : PC := (.seq (.reg r24_0) (.seq (.seq (.reg r24_1) (.cond (Operand.tmp 10) (.seq (.reg r24_2) .ret) .skip)) (.seq (.seq (.reg r24_3) (.block 0 (.pre ⟨[1, 12, 13, 14], [.old 0], []⟩ (.loop k24_1b)))) (.seq (.reg r24_14) .ret))))
def i24 : FnI := ⟨34, [(ResultVar.tmp 2), (ResultVar.tmp 3)], c24, 0, [[1]], [[0], [0]], false, false, 0⟩
-- loop.example/g00344/impl.within
def r51_1 : List PO := [⟨(some 7), (Op.move (Operand.tmp 0)), none⟩,
  ⟨(some 8), (Op.move (Operand.tmp 1)), none⟩,
  ⟨(some 9), (Op.binOp BinOp.geq 3 (Operand.tmp 7) (Operand.tmp 8) 3), none⟩,
  ⟨(some 10), (Op.move (Operand.tmp 9)), none⟩,
  ⟨(some 11), (Op.move (Operand.tmp 0)), (some (10, true))⟩,
  ⟨(some 12), (Op.move (Operand.tmp 2)), (some (10, true))⟩,
  ⟨(some 13), (Op.binOp BinOp.leq 3 (Operand.tmp 11) (Operand.tmp 12) 3), (some (10, true))⟩,
  ⟨(some 14), (Op.pick (Operand.tmp 10) (Operand.tmp 13) (Operand.const (Value.bool false))), none⟩,
  ⟨(some 6), (Op.assign (Operand.tmp 14)), none⟩]
attribute [go_sem] r51_1
def k51_1 : PC := (.post (.reg r51_1) ⟨[6], [], []⟩)
def r51_0 : List PO := [⟨(some 6), (Op.assign (Operand.const (Value.bool false))), none⟩]
attribute [go_sem] r51_0
def c51 : PC := (.seq (.reg r51_0) (.seq (.pre ⟨[0, 1, 2], [], []⟩ k51_1) .ret))
def i51 : FnI := ⟨15, [(ResultVar.tmp 6)], c51, 0, [[0], [0], [0]], [[0]], false, false, 0⟩
-- slices.Index[[]int,int]
def r101_2 : List PO := [⟨(some 9), (Op.binOp BinOp.lss 3 (Operand.tmp 8) (Operand.tmp 7) 3), none⟩]
attribute [go_sem] r101_2
def r101_3 : List PO := [⟨(some 10), (Op.move (Operand.tmp 8)), none⟩,
  ⟨(some 5), (Op.assign (Operand.tmp 10)), none⟩]
attribute [go_sem] r101_3
def r101_4 : List PO := [⟨(some 11), (Op.move (Operand.tmp 1)), none⟩,
  ⟨(some 12), (Op.move (Operand.tmp 0)), none⟩,
  ⟨(some 13), (Op.move (Operand.tmp 5)), none⟩,
  ⟨(some 14), (Op.indexAddr 31 (Operand.tmp 12) (Operand.tmp 13)), none⟩,
  ⟨(some 15), (Op.load 3 (Operand.tmp 14)), none⟩,
  ⟨(some 16), (Op.binOp BinOp.eql 3 (Operand.tmp 11) (Operand.tmp 15) 3), none⟩]
attribute [go_sem] r101_4
def r101_5 : List PO := [⟨(some 17), (Op.move (Operand.tmp 5)), none⟩,
  ⟨(some 4), (Op.assign (Operand.tmp 17)), none⟩]
attribute [go_sem] r101_5
def r101_6 : List PO := [⟨(some 18), (Op.binOp BinOp.add 3 (Operand.tmp 8) (Operand.const (Value.int IntKind.i64 1)) 3), none⟩,
  ⟨(some 8), (Op.move (Operand.tmp 18)), none⟩]
attribute [go_sem] r101_6
def k101_1b : PC := (.seq (.reg r101_2) (.seq (.cond (Operand.tmp 9) .skip (.pre ⟨[], [], []⟩ (.exit 0))) (.seq (.block 1 (.seq (.reg r101_3) (.seq (.reg r101_4) (.cond (Operand.tmp 16) (.seq (.reg r101_5) (.pre ⟨[4], [], []⟩ .ret)) .skip)))) (.post (.reg r101_6) ⟨[0, 1, 7, 8], [], []⟩))))
def r101_0 : List PO := [⟨(some 4), (Op.assign (Operand.const (Value.int IntKind.i64 0))), none⟩]
attribute [go_sem] r101_0
def r101_1 : List PO := [⟨(some 6), (Op.move (Operand.tmp 0)), none⟩,
  ⟨(some 7), (Op.call { callee := (Callee.builtin Builtin.len), args := #[(Operand.tmp 6)], argTypes := #[31] }), none⟩,
  ⟨(some 8), (Op.move (Operand.const (Value.int IntKind.i64 0))), none⟩]
attribute [go_sem] r101_1
def r101_7 : List PO := [⟨(some 4), (Op.assign (Operand.const (Value.int IntKind.i64 (-1)))), none⟩]
attribute [go_sem] r101_7
def c101 : PC := (.seq (.reg r101_0) (.seq (.seq (.reg r101_1) (.block 0 (.pre ⟨[0, 1, 7, 8], [], []⟩ (.loop k101_1b)))) (.seq (.reg r101_7) .ret)))
def i101 : FnI := ⟨19, [(ResultVar.tmp 4)], c101, 0, [[1], [0]], [[0]], false, false, 0⟩
-- slices.Contains[[]int,int]
def r89_0 : List PO := [⟨(some 4), (Op.assign (Operand.const (Value.bool false))), none⟩]
attribute [go_sem] r89_0
def r89_1 : List PO := [⟨(some 5), (Op.move (Operand.tmp 0)), none⟩,
  ⟨(some 6), (Op.move (Operand.tmp 1)), none⟩,
  ⟨(some 7), (Op.call { callee := (Callee.value (Operand.func 101)), args := #[(Operand.tmp 5), (Operand.tmp 6)], argTypes := #[31, 3] }), none⟩,
  ⟨(some 8), (Op.binOp BinOp.geq 3 (Operand.tmp 7) (Operand.const (Value.int IntKind.i64 0)) 3), none⟩,
  ⟨(some 4), (Op.assign (Operand.tmp 8)), none⟩]
attribute [go_sem] r89_1
def c89 : PC := (.seq (.reg r89_0) (.seq (.reg r89_1) .ret))
def i89 : FnI := ⟨9, [(ResultVar.tmp 4)], c89, 0, [[1], [0]], [[0]], false, false, 0⟩
-- slices.IndexFunc[[][]int,[]int]
def r91_2 : List PO := [⟨(some 9), (Op.binOp BinOp.lss 3 (Operand.tmp 8) (Operand.tmp 7) 3), none⟩]
attribute [go_sem] r91_2
def r91_3 : List PO := [⟨(some 10), (Op.move (Operand.tmp 8)), none⟩,
  ⟨(some 5), (Op.assign (Operand.tmp 10)), none⟩]
attribute [go_sem] r91_3
def r91_4 : List PO := [⟨(some 11), (Op.move (Operand.tmp 1)), none⟩,
  ⟨(some 12), (Op.move (Operand.tmp 0)), none⟩,
  ⟨(some 13), (Op.move (Operand.tmp 5)), none⟩,
  ⟨(some 14), (Op.indexAddr 45 (Operand.tmp 12) (Operand.tmp 13)), none⟩,
  ⟨(some 15), (Op.load 31 (Operand.tmp 14)), none⟩,
  ⟨(some 16), (Op.call { callee := (Callee.value (Operand.tmp 11)), args := #[(Operand.tmp 15)], argTypes := #[31] }), none⟩]
attribute [go_sem] r91_4
def r91_5 : List PO := [⟨(some 17), (Op.move (Operand.tmp 5)), none⟩,
  ⟨(some 4), (Op.assign (Operand.tmp 17)), none⟩]
attribute [go_sem] r91_5
def r91_6 : List PO := [⟨(some 18), (Op.binOp BinOp.add 3 (Operand.tmp 8) (Operand.const (Value.int IntKind.i64 1)) 3), none⟩,
  ⟨(some 8), (Op.move (Operand.tmp 18)), none⟩]
attribute [go_sem] r91_6
def k91_1b : PC := (.seq (.reg r91_2) (.seq (.cond (Operand.tmp 9) .skip (.pre ⟨[], [], []⟩ (.exit 0))) (.seq (.block 1 (.seq (.reg r91_3) (.seq (.reg r91_4) (.cond (Operand.tmp 16) (.seq (.reg r91_5) (.pre ⟨[4], [], []⟩ .ret)) .skip)))) (.post (.reg r91_6) ⟨[0, 1, 7, 8], [], []⟩))))
def r91_0 : List PO := [⟨(some 4), (Op.assign (Operand.const (Value.int IntKind.i64 0))), none⟩]
attribute [go_sem] r91_0
def r91_1 : List PO := [⟨(some 6), (Op.move (Operand.tmp 0)), none⟩,
  ⟨(some 7), (Op.call { callee := (Callee.builtin Builtin.len), args := #[(Operand.tmp 6)], argTypes := #[45] }), none⟩,
  ⟨(some 8), (Op.move (Operand.const (Value.int IntKind.i64 0))), none⟩]
attribute [go_sem] r91_1
def r91_7 : List PO := [⟨(some 4), (Op.assign (Operand.const (Value.int IntKind.i64 (-1)))), none⟩]
attribute [go_sem] r91_7
def c91 : PC := (.seq (.reg r91_0) (.seq (.seq (.reg r91_1) (.block 0 (.pre ⟨[0, 1, 7, 8], [], []⟩ (.loop k91_1b)))) (.seq (.reg r91_7) .ret)))
def i91 : FnI := ⟨19, [(ResultVar.tmp 4)], c91, 0, [[1], [0]], [[0]], false, false, 0⟩
-- slices.ContainsFunc[[][]int,[]int]
def r53_0 : List PO := [⟨(some 4), (Op.assign (Operand.const (Value.bool false))), none⟩]
attribute [go_sem] r53_0
def r53_1 : List PO := [⟨(some 5), (Op.move (Operand.tmp 0)), none⟩,
  ⟨(some 6), (Op.move (Operand.tmp 1)), none⟩,
  ⟨(some 7), (Op.call { callee := (Callee.value (Operand.func 91)), args := #[(Operand.tmp 5), (Operand.tmp 6)], argTypes := #[45, 65] }), none⟩,
  ⟨(some 8), (Op.binOp BinOp.geq 3 (Operand.tmp 7) (Operand.const (Value.int IntKind.i64 0)) 3), none⟩,
  ⟨(some 4), (Op.assign (Operand.tmp 8)), none⟩]
attribute [go_sem] r53_1
def c53 : PC := (.seq (.reg r53_0) (.seq (.reg r53_1) .ret))
def i53 : FnI := ⟨9, [(ResultVar.tmp 4)], c53, 0, [[1], [0]], [[0]], false, false, 0⟩
-- slices.Equal[[]int,int]
def r55_4 : List PO := [⟨(some 14), (Op.binOp BinOp.lss 3 (Operand.tmp 13) (Operand.tmp 12) 3), none⟩]
attribute [go_sem] r55_4
def r55_5 : List PO := [⟨(some 15), (Op.move (Operand.tmp 13)), none⟩,
  ⟨(some 5), (Op.assign (Operand.tmp 15)), none⟩]
attribute [go_sem] r55_5
def r55_6 : List PO := [⟨(some 16), (Op.move (Operand.tmp 0)), none⟩,
  ⟨(some 17), (Op.move (Operand.tmp 5)), none⟩,
  ⟨(some 18), (Op.indexAddr 31 (Operand.tmp 16) (Operand.tmp 17)), none⟩,
  ⟨(some 19), (Op.load 3 (Operand.tmp 18)), none⟩,
  ⟨(some 20), (Op.move (Operand.tmp 1)), none⟩,
  ⟨(some 21), (Op.move (Operand.tmp 5)), none⟩,
  ⟨(some 22), (Op.indexAddr 31 (Operand.tmp 20) (Operand.tmp 21)), none⟩,
  ⟨(some 23), (Op.load 3 (Operand.tmp 22)), none⟩,
  ⟨(some 24), (Op.binOp BinOp.neq 3 (Operand.tmp 19) (Operand.tmp 23) 3), none⟩]
attribute [go_sem] r55_6
def r55_7 : List PO := [⟨(some 4), (Op.assign (Operand.const (Value.bool false))), none⟩]
attribute [go_sem] r55_7
def r55_8 : List PO := [⟨(some 25), (Op.binOp BinOp.add 3 (Operand.tmp 13) (Operand.const (Value.int IntKind.i64 1)) 3), none⟩,
  ⟨(some 13), (Op.move (Operand.tmp 25)), none⟩]
attribute [go_sem] r55_8
def k55_1b : PC := (.seq (.reg r55_4) (.seq (.cond (Operand.tmp 14) .skip (.pre ⟨[], [], []⟩ (.exit 0))) (.seq (.block 1 (.seq (.reg r55_5) (.seq (.fz r55_6) (.cond (Operand.tmp 24) (.seq (.reg r55_7) (.pre ⟨[4], [], []⟩ .ret)) .skip)))) (.post (.reg r55_8) ⟨[0, 1, 12, 13], [], []⟩))))
def r55_0 : List PO := [⟨(some 4), (Op.assign (Operand.const (Value.bool false))), none⟩]
attribute [go_sem] r55_0
def r55_1 : List PO := [⟨(some 6), (Op.move (Operand.tmp 0)), none⟩,
  ⟨(some 7), (Op.call { callee := (Callee.builtin Builtin.len), args := #[(Operand.tmp 6)], argTypes := #[31] }), none⟩,
  ⟨(some 8), (Op.move (Operand.tmp 1)), none⟩,
  ⟨(some 9), (Op.call { callee := (Callee.builtin Builtin.len), args := #[(Operand.tmp 8)], argTypes := #[31] }), none⟩,
  ⟨(some 10), (Op.binOp BinOp.neq 3 (Operand.tmp 7) (Operand.tmp 9) 3), none⟩]
attribute [go_sem] r55_1
def r55_2 : List PO := [⟨(some 4), (Op.assign (Operand.const (Value.bool false))), none⟩]
attribute [go_sem] r55_2
def r55_3 : List PO := [⟨(some 11), (Op.move (Operand.tmp 0)), none⟩,
  ⟨(some 12), (Op.call { callee := (Callee.builtin Builtin.len), args := #[(Operand.tmp 11)], argTypes := #[31] }), none⟩,
  ⟨(some 13), (Op.move (Operand.const (Value.int IntKind.i64 0))), none⟩]
attribute [go_sem] r55_3
def r55_9 : List PO := [⟨(some 4), (Op.assign (Operand.const (Value.bool true))), none⟩]
attribute [go_sem] r55_9
def c55 : PC := (.seq (.reg r55_0) (.seq (.seq (.reg r55_1) (.cond (Operand.tmp 10) (.seq (.reg r55_2) .ret) .skip)) (.seq (.seq (.reg r55_3) (.block 0 (.pre ⟨[0, 1, 12, 13], [], []⟩ (.loop k55_1b)))) (.seq (.reg r55_9) .ret))))
def i55 : FnI := ⟨26, [(ResultVar.tmp 4)], c55, 0, [[1], [1]], [[0]], false, false, 0⟩
-- loop.example/g00344/impl.isWay$1
def r90_0 : List PO := [⟨(some 3), (Op.assign (Operand.const (Value.bool false))), none⟩]
attribute [go_sem] r90_0
def r90_1 : List PO := [⟨(some 4), (Op.move (Operand.tmp 0)), none⟩,
  ⟨(some 5), (Op.load 31 (Operand.tmp 1)), none⟩,
  ⟨(some 6), (Op.slice 31 (Operand.tmp 5) (some (Operand.const (Value.int IntKind.i64 1))) none none), none⟩,
  ⟨(some 7), (Op.call { callee := (Callee.value (Operand.func 55)), args := #[(Operand.tmp 4), (Operand.tmp 6)], argTypes := #[31, 31] }), none⟩,
  ⟨(some 3), (Op.assign (Operand.tmp 7)), none⟩]
attribute [go_sem] r90_1
def c90 : PC := (.seq (.reg r90_0) (.seq (.reg r90_1) .ret))
def i90 : FnI := ⟨8, [(ResultVar.tmp 3)], c90, 0, [[1], [0]], [[0]], false, false, 0⟩
-- loop.example/g00344/impl.isWay
def r52_2 : List PO := [⟨(some 13), (Op.move (Operand.tmp 7)), none⟩,
  ⟨(some 14), (Op.binOp BinOp.lss 3 (Operand.tmp 13) (Operand.const (Value.int IntKind.i64 1)) 3), none⟩,
  ⟨(some 15), (Op.move (Operand.tmp 14)), none⟩,
  ⟨(some 16), (Op.load 31 (Operand.tmp 5)), (some (15, false))⟩,
  ⟨(some 17), (Op.indexAddr 31 (Operand.tmp 16) (Operand.const (Value.int IntKind.i64 0))), (some (15, false))⟩,
  ⟨(some 18), (Op.load 3 (Operand.tmp 17)), (some (15, false))⟩,
  ⟨(some 19), (Op.move (Operand.tmp 1)), (some (15, false))⟩,
  ⟨(some 20), (Op.binOp BinOp.neq 3 (Operand.tmp 18) (Operand.tmp 19) 3), (some (15, false))⟩,
  ⟨(some 21), (Op.pick (Operand.tmp 15) (Operand.const (Value.bool true)) (Operand.tmp 20)), none⟩,
  ⟨(some 22), (Op.move (Operand.tmp 21)), none⟩,
  ⟨(some 23), (Op.load 31 (Operand.tmp 5)), (some (22, false))⟩,
  ⟨(some 24), (Op.move (Operand.tmp 7)), (some (22, false))⟩,
  ⟨(some 25), (Op.indexAddr 31 (Operand.tmp 23) (Operand.tmp 24)), (some (22, false))⟩,
  ⟨(some 26), (Op.load 3 (Operand.tmp 25)), (some (22, false))⟩,
  ⟨(some 27), (Op.binOp BinOp.neq 3 (Operand.tmp 26) (Operand.const (Value.int IntKind.i64 0)) 3), (some (22, false))⟩,
  ⟨(some 28), (Op.pick (Operand.tmp 22) (Operand.const (Value.bool true)) (Operand.tmp 27)), none⟩]
attribute [go_sem] r52_2
def k52_1 : PC := (.post (.reg r52_2) ⟨[3, 5, 7, 28], [.old 0, .old 1], []⟩)
def r52_7 : List PO := [⟨(some 36), (Op.move (Operand.tmp 8)), none⟩,
  ⟨(some 37), (Op.move (Operand.tmp 7)), none⟩,
  ⟨(some 38), (Op.binOp BinOp.lss 3 (Operand.tmp 36) (Operand.tmp 37) 3), none⟩,
  ⟨(some 39), (Op.move (Operand.tmp 38)), none⟩,
  ⟨(some 40), (Op.move (Operand.tmp 9)), (some (39, true))⟩,
  ⟨(some 41), (Op.fieldAddr 27 (Operand.tmp 3) 0), (some (39, true))⟩,
  ⟨(some 42), (Op.load 22 (Operand.tmp 41)), (some (39, true))⟩,
  ⟨(some 43), (Op.call { callee := (Callee.builtin Builtin.len), args := #[(Operand.tmp 42)], argTypes := #[22] }), (some (39, true))⟩,
  ⟨(some 44), (Op.call { callee := (Callee.value (Operand.func 51)), args := #[(Operand.tmp 40), (Operand.const (Value.int IntKind.i64 1)), (Operand.tmp 43)], argTypes := #[3, 3, 3] }), (some (39, true))⟩,
  ⟨(some 45), (Op.unOp UnOp.not 4 (Operand.tmp 44)), (some (39, true))⟩,
  ⟨(some 46), (Op.pick (Operand.tmp 39) (Operand.tmp 45) (Operand.const (Value.bool false))), none⟩,
  ⟨(some 47), (Op.move (Operand.tmp 46)), none⟩,
  ⟨(some 48), (Op.load 31 (Operand.tmp 5)), (some (47, false))⟩,
  ⟨(some 49), (Op.move (Operand.tmp 8)), (some (47, false))⟩,
  ⟨(some 50), (Op.slice 31 (Operand.tmp 48) none (some (Operand.tmp 49)) none), (some (47, false))⟩,
  ⟨(some 51), (Op.move (Operand.tmp 9)), (some (47, false))⟩,
  ⟨(some 52), (Op.call { callee := (Callee.value (Operand.func 89)), args := #[(Operand.tmp 50), (Operand.tmp 51)], argTypes := #[31, 3] }), (some (47, false))⟩,
  ⟨(some 53), (Op.pick (Operand.tmp 47) (Operand.const (Value.bool true)) (Operand.tmp 52)), none⟩]
attribute [go_sem] r52_7
def k52_4 : PC := (.post (.reg r52_7) ⟨[3, 5, 7, 29, 30, 31, 53], [.old 0, .old 1], []⟩)
def r52_5 : List PO := [⟨(some 32), (Op.binOp BinOp.lss 3 (Operand.tmp 31) (Operand.tmp 30) 3), none⟩]
attribute [go_sem] r52_5
def r52_6 : List PO := [⟨(some 33), (Op.move (Operand.tmp 31)), none⟩,
  ⟨(some 34), (Op.indexAddr 31 (Operand.tmp 29) (Operand.tmp 31)), none⟩,
  ⟨(some 35), (Op.load 3 (Operand.tmp 34)), none⟩,
  ⟨(some 8), (Op.assign (Operand.tmp 33)), none⟩,
  ⟨(some 9), (Op.assign (Operand.tmp 35)), none⟩]
attribute [go_sem] r52_6
def r52_8 : List PO := [⟨(some 6), (Op.assign (Operand.const (Value.bool false))), none⟩]
attribute [go_sem] r52_8
def r52_9 : List PO := [⟨(some 54), (Op.binOp BinOp.add 3 (Operand.tmp 31) (Operand.const (Value.int IntKind.i64 1)) 3), none⟩,
  ⟨(some 31), (Op.move (Operand.tmp 54)), none⟩]
attribute [go_sem] r52_9
def k52_2b : PC := (.seq (.reg r52_5) (.seq (.cond (Operand.tmp 32) .skip (.pre ⟨[3, 5, 7], [.old 0, .old 1], []⟩ (.exit 0))) (.seq (.block 1 (.seq (.reg r52_6) (.seq (.pre ⟨[3, 5, 7, 8, 9, 29, 30, 31], [.old 0, .old 1], []⟩ k52_4) (.cond (Operand.tmp 53) (.seq (.reg r52_8) (.pre ⟨[6], [], []⟩ .ret)) .skip)))) (.post (.reg r52_9) ⟨[3, 5, 7, 29, 30, 31], [.old 0, .old 1], []⟩))))
def r52_10 : List PO := [⟨(some 55), (Op.move (Operand.tmp 7)), none⟩,
  ⟨(some 56), (Op.binOp BinOp.eql 3 (Operand.tmp 55) (Operand.const (Value.int IntKind.i64 1)) 3), none⟩,
  ⟨(some 57), (Op.move (Operand.tmp 56)), none⟩,
  ⟨(some 58), (Op.fieldAddr 27 (Operand.tmp 3) 0), (some (57, false))⟩,
  ⟨(some 59), (Op.load 22 (Operand.tmp 58)), (some (57, false))⟩,
  ⟨(some 60), (Op.load 31 (Operand.tmp 5)), (some (57, false))⟩,
  ⟨(some 61), (Op.indexAddr 31 (Operand.tmp 60) (Operand.const (Value.int IntKind.i64 1))), (some (57, false))⟩,
  ⟨(some 62), (Op.load 3 (Operand.tmp 61)), (some (57, false))⟩,
  ⟨(some 63), (Op.binOp BinOp.sub 3 (Operand.tmp 62) (Operand.const (Value.int IntKind.i64 1)) 3), (some (57, false))⟩,
  ⟨(some 64), (Op.indexAddr 22 (Operand.tmp 59) (Operand.tmp 63)), (some (57, false))⟩,
  ⟨(some 65), (Op.load 45 (Operand.tmp 64)), (some (57, false))⟩,
  ⟨(some 66), (Op.makeFunc (Fn.func 90) #[] #[(Operand.tmp 5)]), (some (57, false))⟩,
  ⟨(some 67), (Op.call { callee := (Callee.value (Operand.func 53)), args := #[(Operand.tmp 65), (Operand.tmp 66)], argTypes := #[45, 65] }), (some (57, false))⟩,
  ⟨(some 68), (Op.pick (Operand.tmp 57) (Operand.const (Value.bool true)) (Operand.tmp 67)), none⟩,
  ⟨(some 6), (Op.assign (Operand.tmp 68)), none⟩]
attribute [go_sem] r52_10
def k52_5 : PC := (.post (.fz r52_10) ⟨[6], [], []⟩)
def r52_0 : List PO := [⟨(some 3), (Op.box 27 (Operand.tmp 0)), none⟩,
  ⟨(some 5), (Op.box 31 (Operand.tmp 2)), none⟩,
  ⟨(some 6), (Op.assign (Operand.const (Value.bool false))), none⟩]
attribute [go_sem] r52_0
def r52_1 : List PO := [⟨(some 10), (Op.load 31 (Operand.tmp 5)), none⟩,
  ⟨(some 11), (Op.call { callee := (Callee.builtin Builtin.len), args := #[(Operand.tmp 10)], argTypes := #[31] }), none⟩,
  ⟨(some 12), (Op.binOp BinOp.sub 3 (Operand.tmp 11) (Operand.const (Value.int IntKind.i64 1)) 3), none⟩,
  ⟨(some 7), (Op.assign (Operand.tmp 12)), none⟩]
attribute [go_sem] r52_1
def r52_3 : List PO := [⟨(some 6), (Op.assign (Operand.const (Value.bool false))), none⟩]
attribute [go_sem] r52_3
def r52_4 : List PO := [⟨(some 29), (Op.load 31 (Operand.tmp 5)), none⟩,
  ⟨(some 30), (Op.call { callee := (Callee.builtin Builtin.len), args := #[(Operand.tmp 29)], argTypes := #[31] }), none⟩,
  ⟨(some 31), (Op.move (Operand.const (Value.int IntKind.i64 0))), none⟩]
attribute [go_sem] r52_4
def c52 : PC := (.seq (.reg r52_0) (.seq (.reg r52_1) (.seq (.seq (.pre ⟨[1, 3, 5, 7], [.old 0, .old 1], []⟩ k52_1) (.cond (Operand.tmp 28) (.seq (.reg r52_3) .ret) .skip)) (.seq (.seq (.reg r52_4) (.block 0 (.pre ⟨[3, 5, 7, 29, 30, 31], [.old 0, .old 1], []⟩ (.loop k52_2b)))) (.seq (.pre ⟨[3, 5, 7], [.old 0, .old 1], []⟩ k52_5) .ret)))))
def i52 : FnI := ⟨69, [(ResultVar.tmp 6)], c52, 0, [[1], [0], [1]], [[0]], false, false, 0⟩
-- loop.example/g00344/impl.GoodSpp$1
def r54_0 : List PO := [⟨(some 3), (Op.assign (Operand.const (Value.bool false))), none⟩]
attribute [go_sem] r54_0
def r54_1 : List PO := [⟨(some 4), (Op.move (Operand.tmp 0)), none⟩,
  ⟨(some 5), (Op.load 31 (Operand.tmp 1)), none⟩,
  ⟨(some 6), (Op.call { callee := (Callee.value (Operand.func 55)), args := #[(Operand.tmp 4), (Operand.tmp 5)], argTypes := #[31, 31] }), none⟩,
  ⟨(some 3), (Op.assign (Operand.tmp 6)), none⟩]
attribute [go_sem] r54_1
def c54 : PC := (.seq (.reg r54_0) (.seq (.reg r54_1) .ret))
def i54 : FnI := ⟨7, [(ResultVar.tmp 3)], c54, 0, [[1], [0]], [[0]], false, false, 0⟩
-- loop.example/g00344/impl.GoodSpp
def r16_11 : List PO := [⟨(some 30), (Op.load 31 (Operand.tmp 6)), none⟩,
  ⟨(some 31), (Op.call { callee := (Callee.builtin Builtin.len), args := #[(Operand.tmp 30)], argTypes := #[31] }), none⟩,
  ⟨(some 32), (Op.binOp BinOp.gtr 3 (Operand.tmp 31) (Operand.const (Value.int IntKind.i64 6)) 3), none⟩,
  ⟨(some 33), (Op.move (Operand.tmp 32)), none⟩,
  ⟨(some 34), (Op.load 27 (Operand.tmp 1)), (some (33, false))⟩,
  ⟨(some 35), (Op.move (Operand.tmp 3)), (some (33, false))⟩,
  ⟨(some 36), (Op.binOp BinOp.add 3 (Operand.tmp 35) (Operand.const (Value.int IntKind.i64 1)) 3), (some (33, false))⟩,
  ⟨(some 37), (Op.load 31 (Operand.tmp 6)), (some (33, false))⟩,
  ⟨(some 38), (Op.call { callee := (Callee.value (Operand.func 52)), args := #[(Operand.tmp 34), (Operand.tmp 36), (Operand.tmp 37)], argTypes := #[27, 3, 31] }), (some (33, false))⟩,
  ⟨(some 39), (Op.unOp UnOp.not 4 (Operand.tmp 38)), (some (33, false))⟩,
  ⟨(some 40), (Op.pick (Operand.tmp 33) (Operand.const (Value.bool true)) (Operand.tmp 39)), none⟩,
  ⟨(some 41), (Op.move (Operand.tmp 40)), none⟩,
  ⟨(some 42), (Op.move (Operand.tmp 4)), (some (41, false))⟩,
  ⟨(some 43), (Op.move (Operand.tmp 5)), (some (41, false))⟩,
  ⟨(some 44), (Op.slice 45 (Operand.tmp 42) none (some (Operand.tmp 43)) none), (some (41, false))⟩,
  ⟨(some 45), (Op.makeFunc (Fn.func 54) #[] #[(Operand.tmp 6)]), (some (41, false))⟩,
  ⟨(some 46), (Op.call { callee := (Callee.value (Operand.func 53)), args := #[(Operand.tmp 44), (Operand.tmp 45)], argTypes := #[45, 65] }), (some (41, false))⟩,
  ⟨(some 47), (Op.pick (Operand.tmp 41) (Operand.const (Value.bool true)) (Operand.tmp 46)), none⟩]
attribute [go_sem] r16_11
def k16_7 : PC := (.post (.reg r16_11) ⟨[1, 3, 4, 13, 14, 15, 23, 24, 25, 47], [.old 0], []⟩)
def r16_9 : List PO := [⟨(some 26), (Op.binOp BinOp.lss 3 (Operand.tmp 25) (Operand.tmp 24) 3), none⟩]
attribute [go_sem] r16_9
def r16_10 : List PO := [⟨(some 27), (Op.move (Operand.tmp 25)), none⟩,
  ⟨(some 28), (Op.indexAddr 45 (Operand.tmp 23) (Operand.tmp 25)), none⟩,
  ⟨(some 29), (Op.load 31 (Operand.tmp 28)), none⟩,
  ⟨(some 6), (Op.alloc 31), none⟩,
  ⟨(some 5), (Op.assign (Operand.tmp 27)), none⟩,
  ⟨none, (Op.store 31 (Operand.tmp 6) (Operand.tmp 29)), none⟩]
attribute [go_sem] r16_10
def r16_12 : List PO := [⟨(some 2), (Op.assign (Operand.const (Value.bool false))), none⟩]
attribute [go_sem] r16_12
def r16_13 : List PO := [⟨(some 48), (Op.binOp BinOp.add 3 (Operand.tmp 25) (Operand.const (Value.int IntKind.i64 1)) 3), none⟩,
  ⟨(some 25), (Op.move (Operand.tmp 48)), none⟩]
attribute [go_sem] r16_13
def k16_5b : PC := (.seq (.reg r16_9) (.seq (.cond (Operand.tmp 26) .skip (.pre ⟨[1, 13, 14, 15], [.old 0], []⟩ (.exit 2))) (.seq (.block 3 (.seq (.reg r16_10) (.seq (.pre ⟨[1, 3, 4, 5, 6, 13, 14, 15, 23, 24, 25], [.old 0, .old 1], []⟩ k16_7) (.cond (Operand.tmp 47) (.seq (.reg r16_12) (.pre ⟨[2], [], []⟩ .ret)) .skip)))) (.post (.reg r16_13) ⟨[1, 3, 4, 13, 14, 15, 23, 24, 25], [.old 0], []⟩))))
def r16_4 : List PO := [⟨(some 16), (Op.binOp BinOp.lss 3 (Operand.tmp 15) (Operand.tmp 14) 3), none⟩]
attribute [go_sem] r16_4
def r16_5 : List PO := [⟨(some 17), (Op.move (Operand.tmp 15)), none⟩,
  ⟨(some 18), (Op.indexAddr 22 (Operand.tmp 13) (Operand.tmp 15)), none⟩,
  ⟨(some 19), (Op.load 45 (Operand.tmp 18)), none⟩,
  ⟨(some 3), (Op.assign (Operand.tmp 17)), none⟩,
  ⟨(some 4), (Op.assign (Operand.tmp 19)), none⟩]
attribute [go_sem] r16_5
def r16_6 : List PO := [⟨(some 20), (Op.move (Operand.tmp 4)), none⟩,
  ⟨(some 21), (Op.call { callee := (Callee.builtin Builtin.len), args := #[(Operand.tmp 20)], argTypes := #[45] }), none⟩,
  ⟨(some 22), (Op.binOp BinOp.gtr 3 (Operand.tmp 21) (Operand.const (Value.int IntKind.i64 6)) 3), none⟩]
attribute [go_sem] r16_6
def r16_7 : List PO := [⟨(some 2), (Op.assign (Operand.const (Value.bool false))), none⟩]
attribute [go_sem] r16_7
def r16_8 : List PO := [⟨(some 23), (Op.move (Operand.tmp 4)), none⟩,
  ⟨(some 24), (Op.call { callee := (Callee.builtin Builtin.len), args := #[(Operand.tmp 23)], argTypes := #[45] }), none⟩,
  ⟨(some 25), (Op.move (Operand.const (Value.int IntKind.i64 0))), none⟩]
attribute [go_sem] r16_8
def r16_14 : List PO := [⟨(some 49), (Op.binOp BinOp.add 3 (Operand.tmp 15) (Operand.const (Value.int IntKind.i64 1)) 3), none⟩,
  ⟨(some 15), (Op.move (Operand.tmp 49)), none⟩]
attribute [go_sem] r16_14
def k16_1b : PC := (.seq (.reg r16_4) (.seq (.cond (Operand.tmp 16) .skip (.pre ⟨[], [], []⟩ (.exit 0))) (.seq (.block 1 (.seq (.reg r16_5) (.seq (.seq (.reg r16_6) (.cond (Operand.tmp 22) (.seq (.reg r16_7) (.pre ⟨[2], [], []⟩ .ret)) .skip)) (.seq (.reg r16_8) (.block 2 (.pre ⟨[1, 3, 4, 13, 14, 15, 23, 24, 25], [.old 0], []⟩ (.loop k16_5b))))))) (.post (.reg r16_14) ⟨[1, 13, 14, 15], [.old 0], []⟩))))
def r16_0 : List PO := [⟨(some 1), (Op.box 27 (Operand.tmp 0)), none⟩,
  ⟨(some 2), (Op.assign (Operand.const (Value.bool false))), none⟩]
attribute [go_sem] r16_0
def r16_1 : List PO := [⟨(some 7), (Op.fieldAddr 27 (Operand.tmp 1) 0), none⟩,
  ⟨(some 8), (Op.load 22 (Operand.tmp 7)), none⟩,
  ⟨(some 9), (Op.call { callee := (Callee.builtin Builtin.len), args := #[(Operand.tmp 8)], argTypes := #[22] }), none⟩,
  ⟨(some 10), (Op.call { callee := (Callee.value (Operand.func 51)), args := #[(Operand.tmp 9), (Operand.const (Value.int IntKind.i64 1)), (Operand.const (Value.int IntKind.i64 5))], argTypes := #[3, 3, 3] }), none⟩,
  ⟨(some 11), (Op.unOp UnOp.not 4 (Operand.tmp 10)), none⟩]
attribute [go_sem] r16_1
def r16_2 : List PO := [⟨(some 2), (Op.assign (Operand.const (Value.bool false))), none⟩]
attribute [go_sem] r16_2
def r16_3 : List PO := [⟨(some 12), (Op.fieldAddr 27 (Operand.tmp 1) 0), none⟩,
  ⟨(some 13), (Op.load 22 (Operand.tmp 12)), none⟩,
  ⟨(some 14), (Op.call { callee := (Callee.builtin Builtin.len), args := #[(Operand.tmp 13)], argTypes := #[22] }), none⟩,
  ⟨(some 15), (Op.move (Operand.const (Value.int IntKind.i64 0))), none⟩]
attribute [go_sem] r16_3
def r16_15 : List PO := [⟨(some 2), (Op.assign (Operand.const (Value.bool true))), none⟩]
attribute [go_sem] r16_15
def c16 : PC := (.seq (.reg r16_0) (.seq (.seq (.reg r16_1) (.cond (Operand.tmp 11) (.seq (.reg r16_2) .ret) .skip)) (.seq (.seq (.reg r16_3) (.block 0 (.pre ⟨[1, 13, 14, 15], [.old 0], []⟩ (.loop k16_1b)))) (.seq (.reg r16_15) .ret))))
def i16 : FnI := ⟨50, [(ResultVar.tmp 2)], c16, 0, [[1]], [[0]], false, false, 0⟩
-- slices.Clone[[]loop.example/g00344/impl.turn,loop.example/g00344/impl.turn]
def r65_0 : List PO := [⟨(some 2), (Op.assign (Operand.const (Value.slice none 0 0))), none⟩]
attribute [go_sem] r65_0
def r65_1 : List PO := [⟨(some 3), (Op.move (Operand.tmp 0)), none⟩,
  ⟨(some 4), (Op.binOp BinOp.eql 72 (Operand.tmp 3) (Operand.const (Value.slice none 0 0)) 72), none⟩]
def r65_2 : List PO := [⟨(some 2), (Op.assign (Operand.const (Value.slice none 0 0))), none⟩]
attribute [go_sem] r65_2
def r65_3 : List PO := [⟨(some 5), (Op.buildSlice 72 0 #[]), none⟩,
  ⟨(some 6), (Op.move (Operand.tmp 0)), none⟩,
  ⟨(some 7), (Op.call { callee := (Callee.builtin Builtin.append), args := #[(Operand.tmp 5), (Operand.tmp 6)], argTypes := #[72, 72] }), none⟩,
  ⟨(some 2), (Op.assign (Operand.tmp 7)), none⟩]
attribute [go_sem] r65_3
def c65 : PC := (.seq (.reg r65_0) (.amb [⟨(some 3), (Op.move (Operand.tmp 0)), none⟩, ⟨(some 4), (Op.binOp BinOp.eql 72 (Operand.tmp 3) (Operand.const (Value.slice none 0 0)) 72), none⟩] (Operand.tmp 4) (.seq (.seq (.reg r65_2) (.pre ⟨[2], [.nilT 2 0 2], []⟩ .ret)) .bad) (.seq .skip (.seq (.reg r65_3) (.pre ⟨[2], [.old 1], []⟩ .ret)))))
def i65 : FnI := ⟨8, [(ResultVar.tmp 2)], c65, 0, [[2]], [[2]], false, false, 0⟩
-- slices.IndexFunc[[]loop.example/g00344/impl.turn,loop.example/g00344/impl.turn]
def r94_2 : List PO := [⟨(some 9), (Op.binOp BinOp.lss 3 (Operand.tmp 8) (Operand.tmp 7) 3), none⟩]
attribute [go_sem] r94_2
def r94_3 : List PO := [⟨(some 10), (Op.move (Operand.tmp 8)), none⟩,
  ⟨(some 5), (Op.assign (Operand.tmp 10)), none⟩]
attribute [go_sem] r94_3
def r94_4 : List PO := [⟨(some 11), (Op.move (Operand.tmp 1)), none⟩,
  ⟨(some 12), (Op.move (Operand.tmp 0)), none⟩,
  ⟨(some 13), (Op.move (Operand.tmp 5)), none⟩,
  ⟨(some 14), (Op.indexAddr 72 (Operand.tmp 12) (Operand.tmp 13)), none⟩,
  ⟨(some 15), (Op.load 74 (Operand.tmp 14)), none⟩,
  ⟨(some 16), (Op.call { callee := (Callee.value (Operand.tmp 11)), args := #[(Operand.tmp 15)], argTypes := #[74] }), none⟩]
attribute [go_sem] r94_4
def r94_5 : List PO := [⟨(some 17), (Op.move (Operand.tmp 5)), none⟩,
  ⟨(some 4), (Op.assign (Operand.tmp 17)), none⟩]
attribute [go_sem] r94_5
def r94_6 : List PO := [⟨(some 18), (Op.binOp BinOp.add 3 (Operand.tmp 8) (Operand.const (Value.int IntKind.i64 1)) 3), none⟩,
  ⟨(some 8), (Op.move (Operand.tmp 18)), none⟩]
attribute [go_sem] r94_6
def k94_1b : PC := (.seq (.reg r94_2) (.seq (.cond (Operand.tmp 9) .skip (.pre ⟨[], [], []⟩ (.exit 0))) (.seq (.block 1 (.seq (.reg r94_3) (.seq (.reg r94_4) (.cond (Operand.tmp 16) (.seq (.reg r94_5) (.pre ⟨[4], [], []⟩ .ret)) .skip)))) (.post (.reg r94_6) ⟨[0, 1, 7, 8], [], []⟩))))
def r94_0 : List PO := [⟨(some 4), (Op.assign (Operand.const (Value.int IntKind.i64 0))), none⟩]
attribute [go_sem] r94_0
def r94_1 : List PO := [⟨(some 6), (Op.move (Operand.tmp 0)), none⟩,
  ⟨(some 7), (Op.call { callee := (Callee.builtin Builtin.len), args := #[(Operand.tmp 6)], argTypes := #[72] }), none⟩,
  ⟨(some 8), (Op.move (Operand.const (Value.int IntKind.i64 0))), none⟩]
attribute [go_sem] r94_1
def r94_7 : List PO := [⟨(some 4), (Op.assign (Operand.const (Value.int IntKind.i64 (-1)))), none⟩]
attribute [go_sem] r94_7
def c94 : PC := (.seq (.reg r94_0) (.seq (.seq (.reg r94_1) (.block 0 (.pre ⟨[0, 1, 7, 8], [], []⟩ (.loop k94_1b)))) (.seq (.reg r94_7) .ret)))
def i94 : FnI := ⟨19, [(ResultVar.tmp 4)], c94, 0, [[2], [0]], [[0]], false, false, 0⟩
-- slices.DeleteFunc[[]loop.example/g00344/impl.turn,loop.example/g00344/impl.turn]
def r64_9 : List PO := [⟨(some 30), (Op.move (Operand.tmp 0)), none⟩,
  ⟨(some 31), (Op.move (Operand.tmp 5)), none⟩,
  ⟨(some 32), (Op.load 74 (Operand.tmp 7)), none⟩,
  ⟨(some 33), (Op.indexAddr 72 (Operand.tmp 30) (Operand.tmp 31)), none⟩,
  ⟨none, (Op.store 74 (Operand.tmp 33) (Operand.tmp 32)), none⟩]
attribute [go_sem] r64_9
def r64_10 : List PO := [⟨(some 34), (Op.move (Operand.tmp 5)), none⟩,
  ⟨(some 35), (Op.binOp BinOp.add 3 (Operand.tmp 34) (Operand.const (Value.int IntKind.i64 1)) 3), none⟩,
  ⟨(some 5), (Op.assign (Operand.tmp 35)), none⟩]
attribute [go_sem] r64_10
def k64_3 : PC := (.cond (Operand.tmp 29) (.seq (.reg r64_9) (.post (.reg r64_10) ⟨[0, 1, 5, 6], [], []⟩)) (.post .skip ⟨[0, 1, 5, 6], [], []⟩))
def r64_5 : List PO := [⟨(some 16), (Op.move (Operand.tmp 6)), none⟩,
  ⟨(some 17), (Op.move (Operand.tmp 0)), none⟩,
  ⟨(some 18), (Op.call { callee := (Callee.builtin Builtin.len), args := #[(Operand.tmp 17)], argTypes := #[72] }), none⟩,
  ⟨(some 19), (Op.binOp BinOp.lss 3 (Operand.tmp 16) (Operand.tmp 18) 3), none⟩]
attribute [go_sem] r64_5
def r64_7 : List PO := [⟨(some 22), (Op.move (Operand.tmp 0)), none⟩,
  ⟨(some 23), (Op.move (Operand.tmp 6)), none⟩,
  ⟨(some 24), (Op.indexAddr 72 (Operand.tmp 22) (Operand.tmp 23)), none⟩,
  ⟨(some 25), (Op.load 74 (Operand.tmp 24)), none⟩,
  ⟨(some 7), (Op.alloc 74), none⟩,
  ⟨none, (Op.store 74 (Operand.tmp 7) (Operand.tmp 25)), none⟩]
attribute [go_sem] r64_7
def r64_8 : List PO := [⟨(some 26), (Op.move (Operand.tmp 1)), none⟩,
  ⟨(some 27), (Op.load 74 (Operand.tmp 7)), none⟩,
  ⟨(some 28), (Op.call { callee := (Callee.value (Operand.tmp 26)), args := #[(Operand.tmp 27)], argTypes := #[74] }), none⟩,
  ⟨(some 29), (Op.unOp UnOp.not 4 (Operand.tmp 28)), none⟩]
attribute [go_sem] r64_8
def r64_6 : List PO := [⟨(some 20), (Op.move (Operand.tmp 6)), none⟩,
  ⟨(some 21), (Op.binOp BinOp.add 3 (Operand.tmp 20) (Operand.const (Value.int IntKind.i64 1)) 3), none⟩,
  ⟨(some 6), (Op.assign (Operand.tmp 21)), none⟩]
attribute [go_sem] r64_6
def k64_1b : PC := (.seq (.seq (.reg r64_5) (.cond (Operand.tmp 19) .skip (.pre ⟨[0, 5], [], []⟩ (.exit 0)))) (.seq (.block 1 (.seq (.reg r64_7) (.seq (.reg r64_8) (.pre ⟨[0, 1, 5, 6, 7, 29], [.old 1], []⟩ k64_3)))) (.post (.reg r64_6) ⟨[0, 1, 5, 6], [], []⟩)))
def r64_0 : List PO := [⟨(some 4), (Op.assign (Operand.const (Value.slice none 0 0))), none⟩]
attribute [go_sem] r64_0
def r64_1 : List PO := [⟨(some 8), (Op.move (Operand.tmp 0)), none⟩,
  ⟨(some 9), (Op.move (Operand.tmp 1)), none⟩,
  ⟨(some 10), (Op.call { callee := (Callee.value (Operand.func 94)), args := #[(Operand.tmp 8), (Operand.tmp 9)], argTypes := #[72, 79] }), none⟩,
  ⟨(some 5), (Op.assign (Operand.tmp 10)), none⟩]
attribute [go_sem] r64_1
def r64_2 : List PO := [⟨(some 11), (Op.move (Operand.tmp 5)), none⟩,
  ⟨(some 12), (Op.binOp BinOp.eql 3 (Operand.tmp 11) (Operand.const (Value.int IntKind.i64 (-1))) 3), none⟩]
attribute [go_sem] r64_2
def r64_3 : List PO := [⟨(some 13), (Op.move (Operand.tmp 0)), none⟩,
  ⟨(some 4), (Op.assign (Operand.tmp 13)), none⟩]
attribute [go_sem] r64_3
def r64_4 : List PO := [⟨(some 14), (Op.move (Operand.tmp 5)), none⟩,
  ⟨(some 15), (Op.binOp BinOp.add 3 (Operand.tmp 14) (Operand.const (Value.int IntKind.i64 1)) 3), none⟩,
  ⟨(some 6), (Op.assign (Operand.tmp 15)), none⟩]
attribute [go_sem] r64_4
def r64_11 : List PO := [⟨(some 36), (Op.move (Operand.tmp 0)), none⟩,
  ⟨(some 37), (Op.move (Operand.tmp 5)), none⟩,
  ⟨(some 38), (Op.slice 72 (Operand.tmp 36) (some (Operand.tmp 37)) none none), none⟩,
  ⟨none, (Op.call { callee := (Callee.builtin Builtin.clear), args := #[(Operand.tmp 38)], argTypes := #[72] }), none⟩]
attribute [go_sem] r64_11
def r64_12 : List PO := [⟨(some 39), (Op.move (Operand.tmp 0)), none⟩,
  ⟨(some 40), (Op.move (Operand.tmp 5)), none⟩,
  ⟨(some 41), (Op.slice 72 (Operand.tmp 39) none (some (Operand.tmp 40)) none), none⟩,
  ⟨(some 4), (Op.assign (Operand.tmp 41)), none⟩]
attribute [go_sem] r64_12
def c64 : PC := (.seq (.reg r64_0) (.seq (.reg r64_1) (.seq (.seq (.reg r64_2) (.cond (Operand.tmp 12) (.seq (.reg r64_3) (.pre ⟨[4], [.old 0], [0]⟩ .ret)) .skip)) (.seq (.seq (.reg r64_4) (.block 0 (.pre ⟨[0, 1, 5, 6], [], []⟩ (.loop k64_1b)))) (.seq (.reg r64_11) (.seq (.reg r64_12) (.pre ⟨[4], [.old 0], [0]⟩ .ret)))))))
def i64 : FnI := ⟨42, [(ResultVar.tmp 4)], c64, 3, [[2], [0]], [[2]], false, true, 1⟩
-- slices.ContainsFunc[[]loop.example/g00344/impl.turn,loop.example/g00344/impl.turn]
def r67_0 : List PO := [⟨(some 4), (Op.assign (Operand.const (Value.bool false))), none⟩]
attribute [go_sem] r67_0
def r67_1 : List PO := [⟨(some 5), (Op.move (Operand.tmp 0)), none⟩,
  ⟨(some 6), (Op.move (Operand.tmp 1)), none⟩,
  ⟨(some 7), (Op.call { callee := (Callee.value (Operand.func 94)), args := #[(Operand.tmp 5), (Operand.tmp 6)], argTypes := #[72, 79] }), none⟩,
  ⟨(some 8), (Op.binOp BinOp.geq 3 (Operand.tmp 7) (Operand.const (Value.int IntKind.i64 0)) 3), none⟩,
  ⟨(some 4), (Op.assign (Operand.tmp 8)), none⟩]
attribute [go_sem] r67_1
def c67 : PC := (.seq (.reg r67_0) (.seq (.reg r67_1) .ret))
def i67 : FnI := ⟨9, [(ResultVar.tmp 4)], c67, 0, [[2], [0]], [[0]], false, false, 0⟩
-- loop.example/g00344/impl.leads$1
def r95_1 : List PO := [⟨(some 4), (Op.move (Operand.tmp 0)), none⟩,
  ⟨(some 5), (Op.call { callee := (Callee.builtin Builtin.len), args := #[(Operand.tmp 4)], argTypes := #[31] }), none⟩,
  ⟨(some 6), (Op.load 31 (Operand.tmp 1)), none⟩,
  ⟨(some 7), (Op.call { callee := (Callee.builtin Builtin.len), args := #[(Operand.tmp 6)], argTypes := #[31] }), none⟩,
  ⟨(some 8), (Op.binOp BinOp.gtr 3 (Operand.tmp 5) (Operand.tmp 7) 3), none⟩,
  ⟨(some 9), (Op.move (Operand.tmp 8)), none⟩,
  ⟨(some 10), (Op.move (Operand.tmp 0)), (some (9, true))⟩,
  ⟨(some 11), (Op.move (Operand.tmp 0)), (some (9, true))⟩,
  ⟨(some 12), (Op.call { callee := (Callee.builtin Builtin.len), args := #[(Operand.tmp 11)], argTypes := #[31] }), (some (9, true))⟩,
  ⟨(some 13), (Op.load 31 (Operand.tmp 1)), (some (9, true))⟩,
  ⟨(some 14), (Op.call { callee := (Callee.builtin Builtin.len), args := #[(Operand.tmp 13)], argTypes := #[31] }), (some (9, true))⟩,
  ⟨(some 15), (Op.binOp BinOp.sub 3 (Operand.tmp 12) (Operand.tmp 14) 3), (some (9, true))⟩,
  ⟨(some 16), (Op.slice 31 (Operand.tmp 10) (some (Operand.tmp 15)) none none), (some (9, true))⟩,
  ⟨(some 17), (Op.load 31 (Operand.tmp 1)), (some (9, true))⟩,
  ⟨(some 18), (Op.call { callee := (Callee.value (Operand.func 55)), args := #[(Operand.tmp 16), (Operand.tmp 17)], argTypes := #[31, 31] }), (some (9, true))⟩,
  ⟨(some 19), (Op.pick (Operand.tmp 9) (Operand.tmp 18) (Operand.const (Value.bool false))), none⟩,
  ⟨(some 3), (Op.assign (Operand.tmp 19)), none⟩]
attribute [go_sem] r95_1
def k95_1 : PC := (.post (.fz r95_1) ⟨[3], [], []⟩)
def r95_0 : List PO := [⟨(some 3), (Op.assign (Operand.const (Value.bool false))), none⟩]
attribute [go_sem] r95_0
def c95 : PC := (.seq (.reg r95_0) (.seq (.pre ⟨[0, 1], [], []⟩ k95_1) .ret))
def i95 : FnI := ⟨20, [(ResultVar.tmp 3)], c95, 0, [[1], [0]], [[0]], false, false, 0⟩
-- loop.example/g00344/impl.leads
def r69_0 : List PO := [⟨(some 3), (Op.box 27 (Operand.tmp 0)), none⟩,
  ⟨(some 4), (Op.box 74 (Operand.tmp 1)), none⟩,
  ⟨(some 5), (Op.box 74 (Operand.tmp 2)), none⟩,
  ⟨(some 6), (Op.assign (Operand.const (Value.bool false))), none⟩]
attribute [go_sem] r69_0
def r69_1 : List PO := [⟨(some 8), (Op.fieldAddr 74 (Operand.tmp 4) 0), none⟩,
  ⟨(some 9), (Op.load 3 (Operand.tmp 8)), none⟩,
  ⟨(some 10), (Op.fieldAddr 74 (Operand.tmp 5) 0), none⟩,
  ⟨(some 11), (Op.load 3 (Operand.tmp 10)), none⟩,
  ⟨(some 12), (Op.binOp BinOp.eql 3 (Operand.tmp 9) (Operand.tmp 11) 3), none⟩]
attribute [go_sem] r69_1
def r69_2 : List PO := [⟨(some 6), (Op.assign (Operand.const (Value.bool false))), none⟩]
attribute [go_sem] r69_2
def r69_3 : List PO := [⟨(some 13), (Op.fieldAddr 27 (Operand.tmp 3) 0), none⟩,
  ⟨(some 14), (Op.load 22 (Operand.tmp 13)), none⟩,
  ⟨(some 15), (Op.fieldAddr 74 (Operand.tmp 5) 0), none⟩,
  ⟨(some 16), (Op.load 3 (Operand.tmp 15)), none⟩,
  ⟨(some 17), (Op.indexAddr 22 (Operand.tmp 14) (Operand.tmp 16)), none⟩,
  ⟨(some 18), (Op.load 45 (Operand.tmp 17)), none⟩,
  ⟨(some 19), (Op.fieldAddr 74 (Operand.tmp 5) 1), none⟩,
  ⟨(some 20), (Op.load 3 (Operand.tmp 19)), none⟩,
  ⟨(some 21), (Op.indexAddr 45 (Operand.tmp 18) (Operand.tmp 20)), none⟩,
  ⟨(some 22), (Op.load 31 (Operand.tmp 21)), none⟩,
  ⟨(some 7), (Op.alloc 31), none⟩,
  ⟨none, (Op.store 31 (Operand.tmp 7) (Operand.tmp 22)), none⟩]
attribute [go_sem] r69_3
def x69_3 : FxI := ⟨[10, 11], [none, none, none, none, none, none, none, none, none, none, none, none], 0, [[], [10], [10, 11]], [], [(1, 1, 1), (3, 1, 1), (4, 1, 1), (5, 1, 1), (7, 1, 1), (8, 1, 1), (9, 1, 1)]⟩
attribute [go_sem] x69_3
def r69_4 : List PO := [⟨(some 23), (Op.fieldAddr 27 (Operand.tmp 3) 0), none⟩,
  ⟨(some 24), (Op.load 22 (Operand.tmp 23)), none⟩,
  ⟨(some 25), (Op.fieldAddr 74 (Operand.tmp 4) 0), none⟩,
  ⟨(some 26), (Op.load 3 (Operand.tmp 25)), none⟩,
  ⟨(some 27), (Op.indexAddr 22 (Operand.tmp 24) (Operand.tmp 26)), none⟩,
  ⟨(some 28), (Op.load 45 (Operand.tmp 27)), none⟩,
  ⟨(some 29), (Op.fieldAddr 74 (Operand.tmp 4) 1), none⟩,
  ⟨(some 30), (Op.load 3 (Operand.tmp 29)), none⟩,
  ⟨(some 31), (Op.binOp BinOp.add 3 (Operand.tmp 30) (Operand.const (Value.int IntKind.i64 1)) 3), none⟩,
  ⟨(some 32), (Op.slice 45 (Operand.tmp 28) none (some (Operand.tmp 31)) none), none⟩,
  ⟨(some 33), (Op.makeFunc (Fn.func 95) #[] #[(Operand.tmp 7)]), none⟩,
  ⟨(some 34), (Op.call { callee := (Callee.value (Operand.func 53)), args := #[(Operand.tmp 32), (Operand.tmp 33)], argTypes := #[45, 65] }), none⟩,
  ⟨(some 6), (Op.assign (Operand.tmp 34)), none⟩]
attribute [go_sem] r69_4
def c69 : PC := (.seq (.reg r69_0) (.seq (.seq (.reg r69_1) (.cond (Operand.tmp 12) (.seq (.reg r69_2) .ret) .skip)) (.seq (.fx r69_3 x69_3) (.seq (.fz r69_4) .ret))))
def i69 : FnI := ⟨35, [(ResultVar.tmp 6)], c69, 0, [[1], [0, 0], [0, 0]], [[0]], false, false, 0⟩
-- loop.example/g00344/impl.HasWheel$1$1
def r68_0 : List PO := [⟨(some 3), (Op.box 74 (Operand.tmp 0)), none⟩,
  ⟨(some 4), (Op.assign (Operand.const (Value.bool false))), none⟩]
attribute [go_sem] r68_0
def r68_1 : List PO := [⟨(some 5), (Op.load 27 (Operand.tmp 1)), none⟩,
  ⟨(some 6), (Op.load 74 (Operand.tmp 2)), none⟩,
  ⟨(some 7), (Op.load 74 (Operand.tmp 3)), none⟩,
  ⟨(some 8), (Op.call { callee := (Callee.value (Operand.func 69)), args := #[(Operand.tmp 5), (Operand.tmp 6), (Operand.tmp 7)], argTypes := #[27, 74, 74] }), none⟩,
  ⟨(some 4), (Op.assign (Operand.tmp 8)), none⟩]
attribute [go_sem] r68_1
def c68 : PC := (.seq (.reg r68_0) (.seq (.reg r68_1) .ret))
def i68 : FnI := ⟨9, [(ResultVar.tmp 4)], c68, 0, [[0, 0], [0], [0]], [[0]], false, false, 0⟩
-- loop.example/g00344/impl.HasWheel$1
def r66_0 : List PO := [⟨(some 3), (Op.box 74 (Operand.tmp 0)), none⟩,
  ⟨(some 4), (Op.assign (Operand.const (Value.bool false))), none⟩]
attribute [go_sem] r66_0
def r66_1 : List PO := [⟨(some 5), (Op.load 72 (Operand.tmp 1)), none⟩,
  ⟨(some 6), (Op.makeFunc (Fn.func 68) #[] #[(Operand.tmp 2), (Operand.tmp 3)]), none⟩,
  ⟨(some 7), (Op.call { callee := (Callee.value (Operand.func 67)), args := #[(Operand.tmp 5), (Operand.tmp 6)], argTypes := #[72, 79] }), none⟩,
  ⟨(some 8), (Op.unOp UnOp.not 4 (Operand.tmp 7)), none⟩,
  ⟨(some 4), (Op.assign (Operand.tmp 8)), none⟩]
attribute [go_sem] r66_1
def c66 : PC := (.seq (.reg r66_0) (.seq (.reg r66_1) .ret))
def i66 : FnI := ⟨9, [(ResultVar.tmp 4)], c66, 0, [[0, 0], [0], [0]], [[0]], false, false, 0⟩
-- loop.example/g00344/impl.HasWheel
def r25_8 : List PO := [⟨(some 24), (Op.binOp BinOp.lss 3 (Operand.tmp 23) (Operand.tmp 22) 3), none⟩]
attribute [go_sem] r25_8
def r25_9 : List PO := [⟨(some 25), (Op.move (Operand.tmp 23)), none⟩,
  ⟨(some 7), (Op.assign (Operand.tmp 25)), none⟩]
attribute [go_sem] r25_9
def r25_10 : List PO := [⟨(some 26), (Op.load 72 (Operand.tmp 4)), none⟩,
  ⟨(some 27), (Op.move (Operand.tmp 5)), none⟩,
  ⟨(some 28), (Op.move (Operand.tmp 7)), none⟩,
  ⟨(some 29), (Op.build 74 #[(0, (Operand.tmp 27)), (1, (Operand.tmp 28))]), none⟩,
  ⟨(some 30), (Op.buildSlice 72 1 #[(0, (Operand.tmp 29))]), none⟩,
  ⟨(some 31), (Op.call { callee := (Callee.builtin Builtin.append), args := #[(Operand.tmp 26), (Operand.tmp 30)], argTypes := #[72, 72] }), none⟩,
  ⟨none, (Op.store 72 (Operand.tmp 4) (Operand.tmp 31)), none⟩]
attribute [go_sem] r25_10
def r25_11 : List PO := [⟨(some 32), (Op.binOp BinOp.add 3 (Operand.tmp 23) (Operand.const (Value.int IntKind.i64 1)) 3), none⟩,
  ⟨(some 23), (Op.move (Operand.tmp 32)), none⟩]
attribute [go_sem] r25_11
def k25_3b : PC := (.seq (.reg r25_8) (.seq (.cond (Operand.tmp 24) .skip (.pre ⟨[1, 4, 14, 15, 16], [.old 0, .old 1, .old 2], []⟩ (.exit 2))) (.seq (.block 3 (.seq (.reg r25_9) (.reg r25_10))) (.post (.reg r25_11) ⟨[1, 4, 5, 14, 15, 16, 22, 23], [.old 0, .old 1, .old 4], []⟩))))
def r25_5 : List PO := [⟨(some 17), (Op.binOp BinOp.lss 3 (Operand.tmp 16) (Operand.tmp 15) 3), none⟩]
attribute [go_sem] r25_5
def r25_6 : List PO := [⟨(some 18), (Op.move (Operand.tmp 16)), none⟩,
  ⟨(some 19), (Op.indexAddr 22 (Operand.tmp 14) (Operand.tmp 16)), none⟩,
  ⟨(some 20), (Op.load 45 (Operand.tmp 19)), none⟩,
  ⟨(some 5), (Op.assign (Operand.tmp 18)), none⟩,
  ⟨(some 6), (Op.assign (Operand.tmp 20)), none⟩]
attribute [go_sem] r25_6
def r25_7 : List PO := [⟨(some 21), (Op.move (Operand.tmp 6)), none⟩,
  ⟨(some 22), (Op.call { callee := (Callee.builtin Builtin.len), args := #[(Operand.tmp 21)], argTypes := #[45] }), none⟩,
  ⟨(some 23), (Op.move (Operand.const (Value.int IntKind.i64 0))), none⟩]
attribute [go_sem] r25_7
def r25_12 : List PO := [⟨(some 33), (Op.binOp BinOp.add 3 (Operand.tmp 16) (Operand.const (Value.int IntKind.i64 1)) 3), none⟩,
  ⟨(some 16), (Op.move (Operand.tmp 33)), none⟩]
attribute [go_sem] r25_12
def k25_1b : PC := (.seq (.reg r25_5) (.seq (.cond (Operand.tmp 17) .skip (.pre ⟨[1, 4], [.old 0, .old 1, .old 2], []⟩ (.exit 0))) (.seq (.block 1 (.seq (.reg r25_6) (.seq (.reg r25_7) (.block 2 (.pre ⟨[1, 4, 5, 14, 15, 16, 22, 23], [.old 0, .old 1, .old 2], []⟩ (.loop k25_3b)))))) (.post (.reg r25_12) ⟨[1, 4, 14, 15, 16], [.old 0, .old 1, .old 2], []⟩))))
def r25_13 : List PO := [⟨(some 34), (Op.load 72 (Operand.tmp 4)), none⟩,
  ⟨(some 35), (Op.call { callee := (Callee.value (Operand.func 65)), args := #[(Operand.tmp 34)], argTypes := #[72] }), none⟩,
  ⟨(some 36), (Op.makeFunc (Fn.func 66) #[] #[(Operand.tmp 4), (Operand.tmp 1)]), none⟩,
  ⟨(some 37), (Op.call { callee := (Callee.value (Operand.func 64)), args := #[(Operand.tmp 35), (Operand.tmp 36)], argTypes := #[72, 79] }), none⟩,
  ⟨(some 8), (Op.assign (Operand.tmp 37)), none⟩]
attribute [go_sem] r25_13
def r25_14 : List PO := [⟨(some 38), (Op.move (Operand.tmp 8)), none⟩,
  ⟨(some 39), (Op.call { callee := (Callee.builtin Builtin.len), args := #[(Operand.tmp 38)], argTypes := #[72] }), none⟩,
  ⟨(some 40), (Op.load 72 (Operand.tmp 4)), none⟩,
  ⟨(some 41), (Op.call { callee := (Callee.builtin Builtin.len), args := #[(Operand.tmp 40)], argTypes := #[72] }), none⟩,
  ⟨(some 42), (Op.binOp BinOp.eql 3 (Operand.tmp 39) (Operand.tmp 41) 3), none⟩]
attribute [go_sem] r25_14
def r25_15 : List PO := [⟨(some 43), (Op.load 72 (Operand.tmp 4)), none⟩,
  ⟨(some 44), (Op.call { callee := (Callee.builtin Builtin.len), args := #[(Operand.tmp 43)], argTypes := #[72] }), none⟩,
  ⟨(some 45), (Op.binOp BinOp.gtr 3 (Operand.tmp 44) (Operand.const (Value.int IntKind.i64 0)) 3), none⟩,
  ⟨(some 2), (Op.assign (Operand.tmp 45)), none⟩,
  ⟨(some 3), (Op.assign (Operand.const (Value.bool true))), none⟩]
attribute [go_sem] r25_15
def r25_16 : List PO := [⟨(some 46), (Op.move (Operand.tmp 8)), none⟩,
  ⟨none, (Op.store 72 (Operand.tmp 4) (Operand.tmp 46)), none⟩]
attribute [go_sem] r25_16
def k25_4b : PC := (.block 5 (.seq (.reg r25_13) (.seq (.seq (.reg r25_14) (.cond (Operand.tmp 42) (.seq (.reg r25_15) (.pre ⟨[2, 3], [], []⟩ .ret)) .skip)) (.post (.reg r25_16) ⟨[1, 4], [.old 0, .old 1, .old 4], []⟩))))
def r25_0 : List PO := [⟨(some 1), (Op.box 27 (Operand.tmp 0)), none⟩,
  ⟨(some 2), (Op.assign (Operand.const (Value.bool false))), none⟩,
  ⟨(some 3), (Op.assign (Operand.const (Value.bool false))), none⟩]
attribute [go_sem] r25_0
def r25_1 : List PO := [⟨(some 9), (Op.load 27 (Operand.tmp 1)), none⟩,
  ⟨(some 10), (Op.call { callee := (Callee.value (Operand.func 16)), args := #[(Operand.tmp 9)], argTypes := #[27] }), none⟩,
  ⟨(some 11), (Op.unOp UnOp.not 4 (Operand.tmp 10)), none⟩]
attribute [go_sem] r25_1
def r25_2 : List PO := [⟨(some 2), (Op.assign (Operand.const (Value.bool false))), none⟩,
  ⟨(some 3), (Op.assign (Operand.const (Value.bool false))), none⟩]
attribute [go_sem] r25_2
def r25_3 : List PO := [⟨(some 12), (Op.buildSlice 72 0 #[]), none⟩,
  ⟨(some 4), (Op.alloc 72), none⟩,
  ⟨none, (Op.store 72 (Operand.tmp 4) (Operand.tmp 12)), none⟩]
attribute [go_sem] r25_3
def r25_4 : List PO := [⟨(some 13), (Op.fieldAddr 27 (Operand.tmp 1) 0), none⟩,
  ⟨(some 14), (Op.load 22 (Operand.tmp 13)), none⟩,
  ⟨(some 15), (Op.call { callee := (Callee.builtin Builtin.len), args := #[(Operand.tmp 14)], argTypes := #[22] }), none⟩,
  ⟨(some 16), (Op.move (Operand.const (Value.int IntKind.i64 0))), none⟩]
attribute [go_sem] r25_4
def c25 : PC := (.seq (.reg r25_0) (.seq (.seq (.reg r25_1) (.cond (Operand.tmp 11) (.seq (.reg r25_2) .ret) .skip)) (.seq (.reg r25_3) (.seq (.seq (.reg r25_4) (.block 0 (.pre ⟨[1, 4, 14, 15, 16], [.old 0, .old 2, .old 1], []⟩ (.loop k25_1b)))) (.block 4 (.pre ⟨[1, 4], [.old 0, .old 1, .old 2], []⟩ (.loop k25_4b)))))))
def i25 : FnI := ⟨47, [(ResultVar.tmp 2), (ResultVar.tmp 3)], c25, 0, [[1]], [[0], [0]], false, false, 0⟩
-- loop.example/g00344/laws.eqIntS
def r21_4 : List PO := [⟨(some 11), (Op.move (Operand.tmp 5)), none⟩,
  ⟨(some 12), (Op.move (Operand.tmp 0)), none⟩,
  ⟨(some 13), (Op.call { callee := (Callee.builtin Builtin.len), args := #[(Operand.tmp 12)], argTypes := #[31] }), none⟩,
  ⟨(some 14), (Op.binOp BinOp.lss 3 (Operand.tmp 11) (Operand.tmp 13) 3), none⟩]
attribute [go_sem] r21_4
def r21_6 : List PO := [⟨(some 17), (Op.move (Operand.tmp 0)), none⟩,
  ⟨(some 18), (Op.move (Operand.tmp 5)), none⟩,
  ⟨(some 19), (Op.indexAddr 31 (Operand.tmp 17) (Operand.tmp 18)), none⟩,
  ⟨(some 20), (Op.load 3 (Operand.tmp 19)), none⟩,
  ⟨(some 21), (Op.move (Operand.tmp 1)), none⟩,
  ⟨(some 22), (Op.move (Operand.tmp 5)), none⟩,
  ⟨(some 23), (Op.indexAddr 31 (Operand.tmp 21) (Operand.tmp 22)), none⟩,
  ⟨(some 24), (Op.load 3 (Operand.tmp 23)), none⟩,
  ⟨(some 25), (Op.binOp BinOp.neq 3 (Operand.tmp 20) (Operand.tmp 24) 3), none⟩]
attribute [go_sem] r21_6
def r21_7 : List PO := [⟨(some 4), (Op.assign (Operand.const (Value.bool false))), none⟩]
attribute [go_sem] r21_7
def r21_5 : List PO := [⟨(some 15), (Op.move (Operand.tmp 5)), none⟩,
  ⟨(some 16), (Op.binOp BinOp.add 3 (Operand.tmp 15) (Operand.const (Value.int IntKind.i64 1)) 3), none⟩,
  ⟨(some 5), (Op.assign (Operand.tmp 16)), none⟩]
attribute [go_sem] r21_5
def k21_1b : PC := (.seq (.seq (.reg r21_4) (.cond (Operand.tmp 14) .skip (.pre ⟨[], [], []⟩ (.exit 0)))) (.seq (.block 1 (.seq (.fz r21_6) (.cond (Operand.tmp 25) (.seq (.reg r21_7) (.pre ⟨[4], [], []⟩ .ret)) .skip))) (.post (.reg r21_5) ⟨[0, 1, 5], [], []⟩)))
def r21_0 : List PO := [⟨(some 4), (Op.assign (Operand.const (Value.bool false))), none⟩]
attribute [go_sem] r21_0
def r21_1 : List PO := [⟨(some 6), (Op.move (Operand.tmp 0)), none⟩,
  ⟨(some 7), (Op.call { callee := (Callee.builtin Builtin.len), args := #[(Operand.tmp 6)], argTypes := #[31] }), none⟩,
  ⟨(some 8), (Op.move (Operand.tmp 1)), none⟩,
  ⟨(some 9), (Op.call { callee := (Callee.builtin Builtin.len), args := #[(Operand.tmp 8)], argTypes := #[31] }), none⟩,
  ⟨(some 10), (Op.binOp BinOp.neq 3 (Operand.tmp 7) (Operand.tmp 9) 3), none⟩]
attribute [go_sem] r21_1
def r21_2 : List PO := [⟨(some 4), (Op.assign (Operand.const (Value.bool false))), none⟩]
attribute [go_sem] r21_2
def r21_3 : List PO := [⟨(some 5), (Op.assign (Operand.const (Value.int IntKind.i64 0))), none⟩]
attribute [go_sem] r21_3
def r21_8 : List PO := [⟨(some 4), (Op.assign (Operand.const (Value.bool true))), none⟩]
attribute [go_sem] r21_8
def c21 : PC := (.seq (.reg r21_0) (.seq (.seq (.reg r21_1) (.cond (Operand.tmp 10) (.seq (.reg r21_2) .ret) .skip)) (.seq (.seq (.reg r21_3) (.block 0 (.pre ⟨[0, 1, 5], [], []⟩ (.loop k21_1b)))) (.seq (.reg r21_8) .ret))))
def i21 : FnI := ⟨26, [(ResultVar.tmp 4)], c21, 0, [[1], [1]], [[0]], false, false, 0⟩
-- loop.example/g00344/laws.eqIntSS
def r33_4 : List PO := [⟨(some 11), (Op.move (Operand.tmp 5)), none⟩,
  ⟨(some 12), (Op.move (Operand.tmp 0)), none⟩,
  ⟨(some 13), (Op.call { callee := (Callee.builtin Builtin.len), args := #[(Operand.tmp 12)], argTypes := #[45] }), none⟩,
  ⟨(some 14), (Op.binOp BinOp.lss 3 (Operand.tmp 11) (Operand.tmp 13) 3), none⟩]
attribute [go_sem] r33_4
def r33_6 : List PO := [⟨(some 17), (Op.move (Operand.tmp 0)), none⟩,
  ⟨(some 18), (Op.move (Operand.tmp 5)), none⟩,
  ⟨(some 19), (Op.indexAddr 45 (Operand.tmp 17) (Operand.tmp 18)), none⟩,
  ⟨(some 20), (Op.load 31 (Operand.tmp 19)), none⟩,
  ⟨(some 21), (Op.move (Operand.tmp 1)), none⟩,
  ⟨(some 22), (Op.move (Operand.tmp 5)), none⟩,
  ⟨(some 23), (Op.indexAddr 45 (Operand.tmp 21) (Operand.tmp 22)), none⟩,
  ⟨(some 24), (Op.load 31 (Operand.tmp 23)), none⟩,
  ⟨(some 25), (Op.call { callee := (Callee.value (Operand.func 21)), args := #[(Operand.tmp 20), (Operand.tmp 24)], argTypes := #[31, 31] }), none⟩,
  ⟨(some 26), (Op.unOp UnOp.not 4 (Operand.tmp 25)), none⟩]
attribute [go_sem] r33_6
def r33_7 : List PO := [⟨(some 4), (Op.assign (Operand.const (Value.bool false))), none⟩]
attribute [go_sem] r33_7
def r33_5 : List PO := [⟨(some 15), (Op.move (Operand.tmp 5)), none⟩,
  ⟨(some 16), (Op.binOp BinOp.add 3 (Operand.tmp 15) (Operand.const (Value.int IntKind.i64 1)) 3), none⟩,
  ⟨(some 5), (Op.assign (Operand.tmp 16)), none⟩]
attribute [go_sem] r33_5
def k33_1b : PC := (.seq (.seq (.reg r33_4) (.cond (Operand.tmp 14) .skip (.pre ⟨[], [], []⟩ (.exit 0)))) (.seq (.block 1 (.seq (.fz r33_6) (.cond (Operand.tmp 26) (.seq (.reg r33_7) (.pre ⟨[4], [], []⟩ .ret)) .skip))) (.post (.reg r33_5) ⟨[0, 1, 5], [], []⟩)))
def r33_0 : List PO := [⟨(some 4), (Op.assign (Operand.const (Value.bool false))), none⟩]
attribute [go_sem] r33_0
def r33_1 : List PO := [⟨(some 6), (Op.move (Operand.tmp 0)), none⟩,
  ⟨(some 7), (Op.call { callee := (Callee.builtin Builtin.len), args := #[(Operand.tmp 6)], argTypes := #[45] }), none⟩,
  ⟨(some 8), (Op.move (Operand.tmp 1)), none⟩,
  ⟨(some 9), (Op.call { callee := (Callee.builtin Builtin.len), args := #[(Operand.tmp 8)], argTypes := #[45] }), none⟩,
  ⟨(some 10), (Op.binOp BinOp.neq 3 (Operand.tmp 7) (Operand.tmp 9) 3), none⟩]
attribute [go_sem] r33_1
def r33_2 : List PO := [⟨(some 4), (Op.assign (Operand.const (Value.bool false))), none⟩]
attribute [go_sem] r33_2
def r33_3 : List PO := [⟨(some 5), (Op.assign (Operand.const (Value.int IntKind.i64 0))), none⟩]
attribute [go_sem] r33_3
def r33_8 : List PO := [⟨(some 4), (Op.assign (Operand.const (Value.bool true))), none⟩]
attribute [go_sem] r33_8
def c33 : PC := (.seq (.reg r33_0) (.seq (.seq (.reg r33_1) (.cond (Operand.tmp 10) (.seq (.reg r33_2) .ret) .skip)) (.seq (.seq (.reg r33_3) (.block 0 (.pre ⟨[0, 1, 5], [], []⟩ (.loop k33_1b)))) (.seq (.reg r33_8) .ret))))
def i33 : FnI := ⟨27, [(ResultVar.tmp 4)], c33, 0, [[1], [1]], [[0]], false, false, 0⟩
-- loop.example/g00344/laws.eqIntSSS
def r56_4 : List PO := [⟨(some 11), (Op.move (Operand.tmp 5)), none⟩,
  ⟨(some 12), (Op.move (Operand.tmp 0)), none⟩,
  ⟨(some 13), (Op.call { callee := (Callee.builtin Builtin.len), args := #[(Operand.tmp 12)], argTypes := #[22] }), none⟩,
  ⟨(some 14), (Op.binOp BinOp.lss 3 (Operand.tmp 11) (Operand.tmp 13) 3), none⟩]
attribute [go_sem] r56_4
def r56_6 : List PO := [⟨(some 17), (Op.move (Operand.tmp 0)), none⟩,
  ⟨(some 18), (Op.move (Operand.tmp 5)), none⟩,
  ⟨(some 19), (Op.indexAddr 22 (Operand.tmp 17) (Operand.tmp 18)), none⟩,
  ⟨(some 20), (Op.load 45 (Operand.tmp 19)), none⟩,
  ⟨(some 21), (Op.move (Operand.tmp 1)), none⟩,
  ⟨(some 22), (Op.move (Operand.tmp 5)), none⟩,
  ⟨(some 23), (Op.indexAddr 22 (Operand.tmp 21) (Operand.tmp 22)), none⟩,
  ⟨(some 24), (Op.load 45 (Operand.tmp 23)), none⟩,
  ⟨(some 25), (Op.call { callee := (Callee.value (Operand.func 33)), args := #[(Operand.tmp 20), (Operand.tmp 24)], argTypes := #[45, 45] }), none⟩,
  ⟨(some 26), (Op.unOp UnOp.not 4 (Operand.tmp 25)), none⟩]
attribute [go_sem] r56_6
def r56_7 : List PO := [⟨(some 4), (Op.assign (Operand.const (Value.bool false))), none⟩]
attribute [go_sem] r56_7
def r56_5 : List PO := [⟨(some 15), (Op.move (Operand.tmp 5)), none⟩,
  ⟨(some 16), (Op.binOp BinOp.add 3 (Operand.tmp 15) (Operand.const (Value.int IntKind.i64 1)) 3), none⟩,
  ⟨(some 5), (Op.assign (Operand.tmp 16)), none⟩]
attribute [go_sem] r56_5
def k56_1b : PC := (.seq (.seq (.reg r56_4) (.cond (Operand.tmp 14) .skip (.pre ⟨[], [], []⟩ (.exit 0)))) (.seq (.block 1 (.seq (.fz r56_6) (.cond (Operand.tmp 26) (.seq (.reg r56_7) (.pre ⟨[4], [], []⟩ .ret)) .skip))) (.post (.reg r56_5) ⟨[0, 1, 5], [], []⟩)))
def r56_0 : List PO := [⟨(some 4), (Op.assign (Operand.const (Value.bool false))), none⟩]
attribute [go_sem] r56_0
def r56_1 : List PO := [⟨(some 6), (Op.move (Operand.tmp 0)), none⟩,
  ⟨(some 7), (Op.call { callee := (Callee.builtin Builtin.len), args := #[(Operand.tmp 6)], argTypes := #[22] }), none⟩,
  ⟨(some 8), (Op.move (Operand.tmp 1)), none⟩,
  ⟨(some 9), (Op.call { callee := (Callee.builtin Builtin.len), args := #[(Operand.tmp 8)], argTypes := #[22] }), none⟩,
  ⟨(some 10), (Op.binOp BinOp.neq 3 (Operand.tmp 7) (Operand.tmp 9) 3), none⟩]
attribute [go_sem] r56_1
def r56_2 : List PO := [⟨(some 4), (Op.assign (Operand.const (Value.bool false))), none⟩]
attribute [go_sem] r56_2
def r56_3 : List PO := [⟨(some 5), (Op.assign (Operand.const (Value.int IntKind.i64 0))), none⟩]
attribute [go_sem] r56_3
def r56_8 : List PO := [⟨(some 4), (Op.assign (Operand.const (Value.bool true))), none⟩]
attribute [go_sem] r56_8
def c56 : PC := (.seq (.reg r56_0) (.seq (.seq (.reg r56_1) (.cond (Operand.tmp 10) (.seq (.reg r56_2) .ret) .skip)) (.seq (.seq (.reg r56_3) (.block 0 (.pre ⟨[0, 1, 5], [], []⟩ (.loop k56_1b)))) (.seq (.reg r56_8) .ret))))
def i56 : FnI := ⟨27, [(ResultVar.tmp 4)], c56, 0, [[1], [1]], [[0]], false, false, 0⟩
-- loop.example/g00344/laws.eqSpp
def r17_0 : List PO := [⟨(some 2), (Op.box 27 (Operand.tmp 0)), none⟩,
  ⟨(some 3), (Op.box 27 (Operand.tmp 1)), none⟩,
  ⟨(some 4), (Op.assign (Operand.const (Value.bool false))), none⟩]
attribute [go_sem] r17_0
def r17_1 : List PO := [⟨(some 5), (Op.fieldAddr 27 (Operand.tmp 2) 0), none⟩,
  ⟨(some 6), (Op.load 22 (Operand.tmp 5)), none⟩,
  ⟨(some 7), (Op.fieldAddr 27 (Operand.tmp 3) 0), none⟩,
  ⟨(some 8), (Op.load 22 (Operand.tmp 7)), none⟩,
  ⟨(some 9), (Op.call { callee := (Callee.value (Operand.func 56)), args := #[(Operand.tmp 6), (Operand.tmp 8)], argTypes := #[22, 22] }), none⟩,
  ⟨(some 10), (Op.unOp UnOp.not 4 (Operand.tmp 9)), none⟩]
attribute [go_sem] r17_1
def r17_2 : List PO := [⟨(some 4), (Op.assign (Operand.const (Value.bool false))), none⟩]
attribute [go_sem] r17_2
def r17_3 : List PO := [⟨(some 4), (Op.assign (Operand.const (Value.bool true))), none⟩]
attribute [go_sem] r17_3
def c17 : PC := (.seq (.reg r17_0) (.seq (.seq (.reg r17_1) (.cond (Operand.tmp 10) (.seq (.reg r17_2) .ret) .skip)) (.seq (.reg r17_3) .ret)))
def i17 : FnI := ⟨11, [(ResultVar.tmp 4)], c17, 0, [[1], [1]], [[0]], false, false, 0⟩
-- loop.example/g00344/laws.FnExactHasWheel
def r6_8 : List PO := [⟨(some 27), (Op.move (Operand.tmp 7)), none⟩,
  ⟨(some 28), (Op.move (Operand.tmp 4)), none⟩,
  ⟨(some 29), (Op.binOp BinOp.neq 4 (Operand.tmp 27) (Operand.tmp 28) 4), none⟩,
  ⟨(some 30), (Op.move (Operand.tmp 29)), none⟩,
  ⟨(some 31), (Op.move (Operand.tmp 8)), (some (30, false))⟩,
  ⟨(some 32), (Op.move (Operand.tmp 5)), (some (30, false))⟩,
  ⟨(some 33), (Op.binOp BinOp.neq 4 (Operand.tmp 31) (Operand.tmp 32) 4), (some (30, false))⟩,
  ⟨(some 34), (Op.pick (Operand.tmp 30) (Operand.const (Value.bool true)) (Operand.tmp 33)), none⟩]
attribute [go_sem] r6_8
def k6_1 : PC := (.post (.reg r6_8) ⟨[1, 6, 34], [.old 0, .old 1, .old 2], []⟩)
def r6_0 : List PO := [⟨(some 1), (Op.box 24 (Operand.tmp 0)), none⟩,
  ⟨(some 2), (Op.assign (Operand.const (Value.bool false))), none⟩]
attribute [go_sem] r6_0
def r6_1 : List PO := [⟨(some 3), (Op.assign (Operand.const (Value.int IntKind.i64 1048576))), none⟩]
attribute [go_sem] r6_1
def r6_2 : List PO := [⟨(some 9), (Op.load 24 (Operand.tmp 1)), none⟩,
  ⟨(some 10), (Op.move (Operand.tmp 3)), none⟩,
  ⟨(some 11), (Op.call { callee := (Callee.value (Operand.func 13)), args := #[(Operand.tmp 9), (Operand.tmp 10)], argTypes := #[24, 3] }), none⟩,
  ⟨(some 3), (Op.assign (Operand.tmp 11)), none⟩]
attribute [go_sem] r6_2
def r6_3 : List PO := [⟨(some 12), (Op.move (Operand.tmp 3)), none⟩,
  ⟨(some 13), (Op.binOp BinOp.lss 3 (Operand.tmp 12) (Operand.const (Value.int IntKind.i64 0)) 3), none⟩]
attribute [go_sem] r6_3
def r6_4 : List PO := [⟨(some 2), (Op.assign (Operand.const (Value.bool true))), none⟩]
attribute [go_sem] r6_4
def r6_5 : List PO := [⟨(some 15), (Op.load 24 (Operand.tmp 1)), none⟩,
  ⟨(some 16), (Op.call { callee := (Callee.value (Operand.func 15)), args := #[(Operand.tmp 15)], argTypes := #[24] }), none⟩,
  ⟨(some 17), (Op.call { callee := (Callee.value (Operand.func 24)), args := #[(Operand.tmp 16)], argTypes := #[27] }), none⟩,
  ⟨(some 14), (Op.move (Operand.tmp 17)), none⟩,
  ⟨(some 18), (Op.extract (Operand.tmp 14) 0), none⟩,
  ⟨(some 19), (Op.extract (Operand.tmp 14) 1), none⟩,
  ⟨(some 4), (Op.assign (Operand.tmp 18)), none⟩,
  ⟨(some 5), (Op.assign (Operand.tmp 19)), none⟩]
attribute [go_sem] r6_5
def r6_6 : List PO := [⟨(some 20), (Op.load 24 (Operand.tmp 1)), none⟩,
  ⟨(some 21), (Op.call { callee := (Callee.value (Operand.func 15)), args := #[(Operand.tmp 20)], argTypes := #[24] }), none⟩,
  ⟨(some 6), (Op.alloc 27), none⟩,
  ⟨none, (Op.store 27 (Operand.tmp 6) (Operand.tmp 21)), none⟩]
attribute [go_sem] r6_6
def r6_7 : List PO := [⟨(some 23), (Op.load 27 (Operand.tmp 6)), none⟩,
  ⟨(some 24), (Op.call { callee := (Callee.value (Operand.func 25)), args := #[(Operand.tmp 23)], argTypes := #[27] }), none⟩,
  ⟨(some 22), (Op.move (Operand.tmp 24)), none⟩,
  ⟨(some 25), (Op.extract (Operand.tmp 22) 0), none⟩,
  ⟨(some 26), (Op.extract (Operand.tmp 22) 1), none⟩,
  ⟨(some 7), (Op.assign (Operand.tmp 25)), none⟩,
  ⟨(some 8), (Op.assign (Operand.tmp 26)), none⟩]
attribute [go_sem] r6_7
def r6_9 : List PO := [⟨(some 2), (Op.assign (Operand.const (Value.bool false))), none⟩]
attribute [go_sem] r6_9
def r6_10 : List PO := [⟨(some 35), (Op.load 27 (Operand.tmp 6)), none⟩,
  ⟨(some 36), (Op.load 24 (Operand.tmp 1)), none⟩,
  ⟨(some 37), (Op.call { callee := (Callee.value (Operand.func 15)), args := #[(Operand.tmp 36)], argTypes := #[24] }), none⟩,
  ⟨(some 38), (Op.call { callee := (Callee.value (Operand.func 17)), args := #[(Operand.tmp 35), (Operand.tmp 37)], argTypes := #[27, 27] }), none⟩,
  ⟨(some 39), (Op.unOp UnOp.not 4 (Operand.tmp 38)), none⟩]
attribute [go_sem] r6_10
def r6_11 : List PO := [⟨(some 2), (Op.assign (Operand.const (Value.bool false))), none⟩]
attribute [go_sem] r6_11
def r6_12 : List PO := [⟨(some 2), (Op.assign (Operand.const (Value.bool true))), none⟩]
attribute [go_sem] r6_12
def c6 : PC := (.seq (.reg r6_0) (.seq (.reg r6_1) (.seq (.reg r6_2) (.seq (.seq (.reg r6_3) (.cond (Operand.tmp 13) (.seq (.reg r6_4) .ret) .skip)) (.seq (.reg r6_5) (.seq (.reg r6_6) (.seq (.reg r6_7) (.seq (.seq (.pre ⟨[1, 4, 5, 6, 7, 8], [.old 0, .old 3, .old 2], []⟩ k6_1) (.cond (Operand.tmp 34) (.seq (.reg r6_9) .ret) .skip)) (.seq (.seq (.fz r6_10) (.cond (Operand.tmp 39) (.seq (.reg r6_11) .ret) .skip)) (.seq (.reg r6_12) .ret))))))))))
def i6 : FnI := ⟨40, [(ResultVar.tmp 2)], c6, 0, [[1]], [[0]], false, false, 0⟩
def tys : List (Nat × TyI) := [(3, ⟨1, 8, false, [.int .i64 0], [0], 0, [], .int .i64, false⟩),
  (4, ⟨1, 1, false, [.bool false], [0], 0, [], .bool, false⟩),
  (22, ⟨1, 24, false, [.nil], [1], 45, [], .other, false⟩),
  (24, ⟨1, 24, true, [.nil], [1], 0, [(0, 1, false)], .other, false⟩),
  (27, ⟨1, 24, true, [.nil], [1], 0, [(0, 1, false)], .other, false⟩),
  (31, ⟨1, 24, false, [.nil], [1], 3, [], .other, false⟩),
  (45, ⟨1, 24, false, [.nil], [1], 31, [], .other, false⟩),
  (70, ⟨2, 16, true, [.int .i64 0, .int .i64 0], [0, 0], 0, [(0, 1, false), (1, 1, false)], .other, true⟩),
  (72, ⟨1, 24, false, [.nil], [2], 74, [], .other, false⟩),
  (74, ⟨2, 16, true, [.int .i64 0, .int .i64 0], [0, 0], 0, [(0, 1, false), (1, 1, false)], .other, true⟩),
  (94, ⟨1, 24, false, [.nil], [2], 70, [], .other, false⟩)]
def fns : List (Nat × FnI) := [(6, i6), (13, i13), (14, i14), (15, i15), (16, i16), (17, i17), (19, i19), (21, i21), (24, i24), (25, i25), (33, i33), (46, i46), (47, i47), (48, i48), (49, i49), (50, i50), (51, i51), (52, i52), (53, i53), (54, i54), (55, i55), (56, i56), (63, i63), (64, i64), (65, i65), (66, i66), (67, i67), (68, i68), (69, i69), (79, i79), (86, i86), (87, i87), (88, i88), (89, i89), (90, i90), (91, i91), (93, i93), (94, i94), (95, i95), (100, i100), (101, i101)]
def T : Tab := mkTab tys fns
theorem ty3 : T.ty 3 = some ⟨1, 8, false, [.int .i64 0], [0], 0, [], .int .i64, false⟩ := rfl
theorem base3 : T.baseOf 3 = Bs.int .i64 := rfl
theorem ty4 : T.ty 4 = some ⟨1, 1, false, [.bool false], [0], 0, [], .bool, false⟩ := rfl
theorem base4 : T.baseOf 4 = Bs.bool := rfl
theorem ty22 : T.ty 22 = some ⟨1, 24, false, [.nil], [1], 45, [], .other, false⟩ := rfl
theorem base22 : T.baseOf 22 = Bs.other := rfl
theorem elem22 : T.elemOf 22 = some ⟨1, 24, false, [.nil], [1], 31, [], .other, false⟩ := rfl
theorem ty24 : T.ty 24 = some ⟨1, 24, true, [.nil], [1], 0, [(0, 1, false)], .other, false⟩ := rfl
theorem base24 : T.baseOf 24 = Bs.other := rfl
theorem ty27 : T.ty 27 = some ⟨1, 24, true, [.nil], [1], 0, [(0, 1, false)], .other, false⟩ := rfl
theorem base27 : T.baseOf 27 = Bs.other := rfl
theorem ty31 : T.ty 31 = some ⟨1, 24, false, [.nil], [1], 3, [], .other, false⟩ := rfl
theorem base31 : T.baseOf 31 = Bs.other := rfl
theorem elem31 : T.elemOf 31 = some ⟨1, 8, false, [.int .i64 0], [0], 0, [], .int .i64, false⟩ := rfl
theorem ty45 : T.ty 45 = some ⟨1, 24, false, [.nil], [1], 31, [], .other, false⟩ := rfl
theorem base45 : T.baseOf 45 = Bs.other := rfl
theorem elem45 : T.elemOf 45 = some ⟨1, 24, false, [.nil], [1], 3, [], .other, false⟩ := rfl
theorem ty70 : T.ty 70 = some ⟨2, 16, true, [.int .i64 0, .int .i64 0], [0, 0], 0, [(0, 1, false), (1, 1, false)], .other, true⟩ := rfl
theorem base70 : T.baseOf 70 = Bs.other := rfl
theorem ty72 : T.ty 72 = some ⟨1, 24, false, [.nil], [2], 74, [], .other, false⟩ := rfl
theorem base72 : T.baseOf 72 = Bs.other := rfl
theorem elem72 : T.elemOf 72 = some ⟨2, 16, true, [.int .i64 0, .int .i64 0], [0, 0], 0, [(0, 1, false), (1, 1, false)], .other, true⟩ := rfl
theorem ty74 : T.ty 74 = some ⟨2, 16, true, [.int .i64 0, .int .i64 0], [0, 0], 0, [(0, 1, false), (1, 1, false)], .other, true⟩ := rfl
theorem base74 : T.baseOf 74 = Bs.other := rfl
theorem ty94 : T.ty 94 = some ⟨1, 24, false, [.nil], [2], 70, [], .other, false⟩ := rfl
theorem base94 : T.baseOf 94 = Bs.other := rfl
theorem elem94 : T.elemOf 94 = some ⟨2, 16, true, [.int .i64 0, .int .i64 0], [0, 0], 0, [(0, 1, false), (1, 1, false)], .other, true⟩ := rfl
attribute [go_sem] ty3 base3 ty4 base4 ty22 base22 elem22 ty24 base24 ty27 base27 ty31 base31 elem31 ty45 base45 elem45 ty70 base70 ty72 base72 elem72 ty74 base74 ty94 base94 elem94
theorem ok6 : FnOk Try.prog (6, i6) := ⟨Try.f6, _, Try.func6, rfl, by kernel_rfl, rfl, rfl, by kernel_rfl⟩
theorem ok13 : FnOk Try.prog (13, i13) := ⟨Try.f13, _, Try.func13, rfl, by kernel_rfl, rfl, rfl, by kernel_rfl⟩
theorem ok14 : FnOk Try.prog (14, i14) := ⟨Try.f14, _, Try.func14, rfl, by kernel_rfl, rfl, rfl, by kernel_rfl⟩
theorem ok15 : FnOk Try.prog (15, i15) := ⟨Try.f15, _, Try.func15, rfl, by kernel_rfl, rfl, rfl, by kernel_rfl⟩
theorem ok16 : FnOk Try.prog (16, i16) := ⟨Try.f16, _, Try.func16, rfl, by kernel_rfl, rfl, rfl, by kernel_rfl⟩
theorem ok17 : FnOk Try.prog (17, i17) := ⟨Try.f17, _, Try.func17, rfl, by kernel_rfl, rfl, rfl, by kernel_rfl⟩
theorem ok19 : FnOk Try.prog (19, i19) := ⟨Try.f19, _, Try.func19, rfl, by kernel_rfl, rfl, rfl, by kernel_rfl⟩
theorem ok21 : FnOk Try.prog (21, i21) := ⟨Try.f21, _, Try.func21, rfl, by kernel_rfl, rfl, rfl, by kernel_rfl⟩
theorem ok24 : FnOk Try.prog (24, i24) := ⟨Try.f24, _, Try.func24, rfl, by kernel_rfl, rfl, rfl, by kernel_rfl⟩
theorem ok25 : FnOk Try.prog (25, i25) := ⟨Try.f25, _, Try.func25, rfl, by kernel_rfl, rfl, rfl, by kernel_rfl⟩
theorem ok33 : FnOk Try.prog (33, i33) := ⟨Try.f33, _, Try.func33, rfl, by kernel_rfl, rfl, rfl, by kernel_rfl⟩
theorem ok46 : FnOk Try.prog (46, i46) := ⟨Try.f46, _, Try.func46, rfl, by kernel_rfl, rfl, rfl, by kernel_rfl⟩
theorem ok47 : FnOk Try.prog (47, i47) := ⟨Try.f47, _, Try.func47, rfl, by kernel_rfl, rfl, rfl, by kernel_rfl⟩
theorem ok48 : FnOk Try.prog (48, i48) := ⟨Try.f48, _, Try.func48, rfl, by kernel_rfl, rfl, rfl, by kernel_rfl⟩
theorem ok49 : FnOk Try.prog (49, i49) := ⟨Try.f49, _, Try.func49, rfl, by kernel_rfl, rfl, rfl, by kernel_rfl⟩
theorem ok50 : FnOk Try.prog (50, i50) := ⟨Try.f50, _, Try.func50, rfl, by kernel_rfl, rfl, rfl, by kernel_rfl⟩
theorem ok51 : FnOk Try.prog (51, i51) := ⟨Try.f51, _, Try.func51, rfl, by kernel_rfl, rfl, rfl, by kernel_rfl⟩
theorem ok52 : FnOk Try.prog (52, i52) := ⟨Try.f52, _, Try.func52, rfl, by kernel_rfl, rfl, rfl, by kernel_rfl⟩
theorem ok53 : FnOk Try.prog (53, i53) := ⟨Try.f53, _, Try.func53, rfl, by kernel_rfl, rfl, rfl, by kernel_rfl⟩
theorem ok54 : FnOk Try.prog (54, i54) := ⟨Try.f54, _, Try.func54, rfl, by kernel_rfl, rfl, rfl, by kernel_rfl⟩
theorem ok55 : FnOk Try.prog (55, i55) := ⟨Try.f55, _, Try.func55, rfl, by kernel_rfl, rfl, rfl, by kernel_rfl⟩
theorem ok56 : FnOk Try.prog (56, i56) := ⟨Try.f56, _, Try.func56, rfl, by kernel_rfl, rfl, rfl, by kernel_rfl⟩
theorem ok63 : FnOk Try.prog (63, i63) := ⟨Try.f63, _, Try.func63, rfl, by kernel_rfl, rfl, rfl, by kernel_rfl⟩
theorem ok64 : FnOk Try.prog (64, i64) := ⟨Try.f64, _, Try.func64, rfl, by kernel_rfl, rfl, rfl, by kernel_rfl⟩
theorem ok65 : FnOk Try.prog (65, i65) := ⟨Try.f65, _, Try.func65, rfl, by kernel_rfl, rfl, rfl, by kernel_rfl⟩
theorem ok66 : FnOk Try.prog (66, i66) := ⟨Try.f66, _, Try.func66, rfl, by kernel_rfl, rfl, rfl, by kernel_rfl⟩
theorem ok67 : FnOk Try.prog (67, i67) := ⟨Try.f67, _, Try.func67, rfl, by kernel_rfl, rfl, rfl, by kernel_rfl⟩
theorem ok68 : FnOk Try.prog (68, i68) := ⟨Try.f68, _, Try.func68, rfl, by kernel_rfl, rfl, rfl, by kernel_rfl⟩
theorem ok69 : FnOk Try.prog (69, i69) := ⟨Try.f69, _, Try.func69, rfl, by kernel_rfl, rfl, rfl, by kernel_rfl⟩
theorem ok79 : FnOk Try.prog (79, i79) := ⟨Try.f79, _, Try.func79, rfl, by kernel_rfl, rfl, rfl, by kernel_rfl⟩
theorem ok86 : FnOk Try.prog (86, i86) := ⟨Try.f86, _, Try.func86, rfl, by kernel_rfl, rfl, rfl, by kernel_rfl⟩
theorem ok87 : FnOk Try.prog (87, i87) := ⟨Try.f87, _, Try.func87, rfl, by kernel_rfl, rfl, rfl, by kernel_rfl⟩
theorem ok88 : FnOk Try.prog (88, i88) := ⟨Try.f88, _, Try.func88, rfl, by kernel_rfl, rfl, rfl, by kernel_rfl⟩
theorem ok89 : FnOk Try.prog (89, i89) := ⟨Try.f89, _, Try.func89, rfl, by kernel_rfl, rfl, rfl, by kernel_rfl⟩
theorem ok90 : FnOk Try.prog (90, i90) := ⟨Try.f90, _, Try.func90, rfl, by kernel_rfl, rfl, rfl, by kernel_rfl⟩
theorem ok91 : FnOk Try.prog (91, i91) := ⟨Try.f91, _, Try.func91, rfl, by kernel_rfl, rfl, rfl, by kernel_rfl⟩
theorem ok93 : FnOk Try.prog (93, i93) := ⟨Try.f93, _, Try.func93, rfl, by kernel_rfl, rfl, rfl, by kernel_rfl⟩
theorem ok94 : FnOk Try.prog (94, i94) := ⟨Try.f94, _, Try.func94, rfl, by kernel_rfl, rfl, rfl, by kernel_rfl⟩
theorem ok95 : FnOk Try.prog (95, i95) := ⟨Try.f95, _, Try.func95, rfl, by kernel_rfl, rfl, rfl, by kernel_rfl⟩
theorem ok100 : FnOk Try.prog (100, i100) := ⟨Try.f100, _, Try.func100, rfl, by kernel_rfl, rfl, rfl, by kernel_rfl⟩
theorem ok101 : FnOk Try.prog (101, i101) := ⟨Try.f101, _, Try.func101, rfl, by kernel_rfl, rfl, rfl, by kernel_rfl⟩
theorem tab : TabOk Try.prog T := tabOk_of (by kernel_rfl) (.cons ok6 (.cons ok13 (.cons ok14 (.cons ok15 (.cons ok16 (.cons ok17 (.cons ok19 (.cons ok21 (.cons ok24 (.cons ok25 (.cons ok33 (.cons ok46 (.cons ok47 (.cons ok48 (.cons ok49 (.cons ok50 (.cons ok51 (.cons ok52 (.cons ok53 (.cons ok54 (.cons ok55 (.cons ok56 (.cons ok63 (.cons ok64 (.cons ok65 (.cons ok66 (.cons ok67 (.cons ok68 (.cons ok69 (.cons ok79 (.cons ok86 (.cons ok87 (.cons ok88 (.cons ok89 (.cons ok90 (.cons ok91 (.cons ok93 (.cons ok94 (.cons ok95 (.cons ok100 (.cons ok101 (.nil))))))))))))))))))))))))))))))))))))))))))
theorem fn6 : T.fn 6 = some i6 := rfl
theorem fn13 : T.fn 13 = some i13 := rfl
theorem fn14 : T.fn 14 = some i14 := rfl
theorem fn15 : T.fn 15 = some i15 := rfl
theorem fn16 : T.fn 16 = some i16 := rfl
theorem fn17 : T.fn 17 = some i17 := rfl
theorem fn19 : T.fn 19 = some i19 := rfl
theorem fn21 : T.fn 21 = some i21 := rfl
theorem fn24 : T.fn 24 = some i24 := rfl
theorem fn25 : T.fn 25 = some i25 := rfl
theorem fn33 : T.fn 33 = some i33 := rfl
theorem fn46 : T.fn 46 = some i46 := rfl
theorem fn47 : T.fn 47 = some i47 := rfl
theorem fn48 : T.fn 48 = some i48 := rfl
theorem fn49 : T.fn 49 = some i49 := rfl
theorem fn50 : T.fn 50 = some i50 := rfl
theorem fn51 : T.fn 51 = some i51 := rfl
theorem fn52 : T.fn 52 = some i52 := rfl
theorem fn53 : T.fn 53 = some i53 := rfl
theorem fn54 : T.fn 54 = some i54 := rfl
theorem fn55 : T.fn 55 = some i55 := rfl
theorem fn56 : T.fn 56 = some i56 := rfl
theorem fn63 : T.fn 63 = some i63 := rfl
theorem fn64 : T.fn 64 = some i64 := rfl
theorem fn65 : T.fn 65 = some i65 := rfl
theorem fn66 : T.fn 66 = some i66 := rfl
theorem fn67 : T.fn 67 = some i67 := rfl
theorem fn68 : T.fn 68 = some i68 := rfl
theorem fn69 : T.fn 69 = some i69 := rfl
theorem fn79 : T.fn 79 = some i79 := rfl
theorem fn86 : T.fn 86 = some i86 := rfl
theorem fn87 : T.fn 87 = some i87 := rfl
theorem fn88 : T.fn 88 = some i88 := rfl
theorem fn89 : T.fn 89 = some i89 := rfl
theorem fn90 : T.fn 90 = some i90 := rfl
theorem fn91 : T.fn 91 = some i91 := rfl
theorem fn93 : T.fn 93 = some i93 := rfl
theorem fn94 : T.fn 94 = some i94 := rfl
theorem fn95 : T.fn 95 = some i95 := rfl
theorem fn100 : T.fn 100 = some i100 := rfl
theorem fn101 : T.fn 101 = some i101 := rfl
end Go.Pi.Ytpfoleebeamgpaa.HasWheel
