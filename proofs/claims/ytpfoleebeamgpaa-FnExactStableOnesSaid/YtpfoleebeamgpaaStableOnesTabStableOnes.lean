/- What functions of the program answer, and that the law answers true at every input; no condition -/
import Derived.Test.YtpfoleebeamgpaaProg
import Derived.Test.YtpfoleebeamgpaaPiD
set_option linter.all false
/- The program's tables for Pi: types and functions, as they stand in the loaded program, with hints. -/
namespace Go.Pi.Ytpfoleebeamgpaa.StableOnes
open Go Go.Proofs Go.Pi
set_option maxRecDepth 100000

-- loop.example/g00344/laws.szIntS
def r100_0 : List PO := [⟨(some 4), (Op.assign (Operand.const (Value.int IntKind.i64 0))), none⟩]
attribute [go_sem] r100_0
def r100_1 : List PO := [⟨(some 5), (Op.move (Operand.tmp 1)), none⟩,
  ⟨(some 6), (Op.move (Operand.tmp 0)), none⟩,
  ⟨(some 7), (Op.call { callee := (Callee.builtin Builtin.len), args := #[(Operand.tmp 6)], argTypes := #[31] }), none⟩,
  ⟨(some 8), (Op.binOp BinOp.sub 3 (Operand.tmp 5) (Operand.tmp 7) 3), none⟩,
  ⟨(some 1), (Op.assign (Operand.tmp 8)), none⟩]
attribute [go_sem] r100_1
def r100_2 : List PO := [⟨(some 9), (Op.move (Operand.tmp 1)), none⟩,
  ⟨(some 10), (Op.binOp BinOp.lss 3 (Operand.tmp 9) (Operand.const (Value.int IntKind.i64 0)) 3), none⟩]
attribute [go_sem] r100_2
def r100_3 : List PO := [⟨(some 4), (Op.assign (Operand.const (Value.int IntKind.i64 (-1)))), none⟩]
attribute [go_sem] r100_3
def r100_4 : List PO := [⟨(some 11), (Op.move (Operand.tmp 1)), none⟩,
  ⟨(some 4), (Op.assign (Operand.tmp 11)), none⟩]
attribute [go_sem] r100_4
def c100 : PC := (.seq (.reg r100_0) (.seq (.reg r100_1) (.seq (.seq (.reg r100_2) (.cond (Operand.tmp 10) (.seq (.reg r100_3) .ret) .skip)) (.seq (.reg r100_4) .ret))))
def i100 : FnI := ⟨12, [(ResultVar.tmp 4)], c100, 0, [[1], [0]], [[0]], false, false, 0, false⟩
-- loop.example/g00344/laws.szIntSS
def r86_5 : List PO := [⟨(some 12), (Op.move (Operand.tmp 5)), none⟩,
  ⟨(some 13), (Op.move (Operand.tmp 0)), none⟩,
  ⟨(some 14), (Op.call { callee := (Callee.builtin Builtin.len), args := #[(Operand.tmp 13)], argTypes := #[45] }), none⟩,
  ⟨(some 15), (Op.binOp BinOp.lss 3 (Operand.tmp 12) (Operand.tmp 14) 3), none⟩]
attribute [go_sem] r86_5
def r86_7 : List PO := [⟨(some 18), (Op.move (Operand.tmp 0)), none⟩,
  ⟨(some 19), (Op.move (Operand.tmp 5)), none⟩,
  ⟨(some 20), (Op.indexAddr 45 (Operand.tmp 18) (Operand.tmp 19)), none⟩,
  ⟨(some 21), (Op.load 31 (Operand.tmp 20)), none⟩,
  ⟨(some 22), (Op.move (Operand.tmp 1)), none⟩,
  ⟨(some 23), (Op.call { callee := (Callee.value (Operand.func 100)), args := #[(Operand.tmp 21), (Operand.tmp 22)], argTypes := #[31, 3] }), none⟩,
  ⟨(some 1), (Op.assign (Operand.tmp 23)), none⟩]
attribute [go_sem] r86_7
def r86_8 : List PO := [⟨(some 24), (Op.move (Operand.tmp 1)), none⟩,
  ⟨(some 25), (Op.binOp BinOp.lss 3 (Operand.tmp 24) (Operand.const (Value.int IntKind.i64 0)) 3), none⟩]
attribute [go_sem] r86_8
def r86_9 : List PO := [⟨(some 4), (Op.assign (Operand.const (Value.int IntKind.i64 (-1)))), none⟩]
attribute [go_sem] r86_9
def r86_6 : List PO := [⟨(some 16), (Op.move (Operand.tmp 5)), none⟩,
  ⟨(some 17), (Op.binOp BinOp.add 3 (Operand.tmp 16) (Operand.const (Value.int IntKind.i64 1)) 3), none⟩,
  ⟨(some 5), (Op.assign (Operand.tmp 17)), none⟩]
attribute [go_sem] r86_6
def k86_1b : PC := (.seq (.seq (.reg r86_5) (.cond (Operand.tmp 15) .skip (.pre ⟨[1], [], []⟩ (.exit 0)))) (.seq (.block 1 (.seq (.reg r86_7) (.seq (.reg r86_8) (.cond (Operand.tmp 25) (.seq (.reg r86_9) (.pre ⟨[4], [], []⟩ .ret)) .skip)))) (.post (.reg r86_6) ⟨[0, 1, 5], [], []⟩)))
def r86_0 : List PO := [⟨(some 4), (Op.assign (Operand.const (Value.int IntKind.i64 0))), none⟩]
attribute [go_sem] r86_0
def r86_1 : List PO := [⟨(some 6), (Op.move (Operand.tmp 1)), none⟩,
  ⟨(some 7), (Op.move (Operand.tmp 0)), none⟩,
  ⟨(some 8), (Op.call { callee := (Callee.builtin Builtin.len), args := #[(Operand.tmp 7)], argTypes := #[45] }), none⟩,
  ⟨(some 9), (Op.binOp BinOp.sub 3 (Operand.tmp 6) (Operand.tmp 8) 3), none⟩,
  ⟨(some 1), (Op.assign (Operand.tmp 9)), none⟩]
attribute [go_sem] r86_1
def r86_2 : List PO := [⟨(some 10), (Op.move (Operand.tmp 1)), none⟩,
  ⟨(some 11), (Op.binOp BinOp.lss 3 (Operand.tmp 10) (Operand.const (Value.int IntKind.i64 0)) 3), none⟩]
attribute [go_sem] r86_2
def r86_3 : List PO := [⟨(some 4), (Op.assign (Operand.const (Value.int IntKind.i64 (-1)))), none⟩]
attribute [go_sem] r86_3
def r86_4 : List PO := [⟨(some 5), (Op.assign (Operand.const (Value.int IntKind.i64 0))), none⟩]
attribute [go_sem] r86_4
def r86_10 : List PO := [⟨(some 26), (Op.move (Operand.tmp 1)), none⟩,
  ⟨(some 4), (Op.assign (Operand.tmp 26)), none⟩]
attribute [go_sem] r86_10
def c86 : PC := (.seq (.reg r86_0) (.seq (.reg r86_1) (.seq (.seq (.reg r86_2) (.cond (Operand.tmp 11) (.seq (.reg r86_3) .ret) .skip)) (.seq (.seq (.reg r86_4) (.block 0 (.pre ⟨[0, 1, 5], [], []⟩ (.loop k86_1b)))) (.seq (.reg r86_10) .ret)))))
def i86 : FnI := ⟨27, [(ResultVar.tmp 4)], c86, 0, [[1], [0]], [[0]], false, false, 0, false⟩
-- loop.example/g00344/laws.szIntSSS
def r46_5 : List PO := [⟨(some 12), (Op.move (Operand.tmp 5)), none⟩,
  ⟨(some 13), (Op.move (Operand.tmp 0)), none⟩,
  ⟨(some 14), (Op.call { callee := (Callee.builtin Builtin.len), args := #[(Operand.tmp 13)], argTypes := #[22] }), none⟩,
  ⟨(some 15), (Op.binOp BinOp.lss 3 (Operand.tmp 12) (Operand.tmp 14) 3), none⟩]
attribute [go_sem] r46_5
def r46_7 : List PO := [⟨(some 18), (Op.move (Operand.tmp 0)), none⟩,
  ⟨(some 19), (Op.move (Operand.tmp 5)), none⟩,
  ⟨(some 20), (Op.indexAddr 22 (Operand.tmp 18) (Operand.tmp 19)), none⟩,
  ⟨(some 21), (Op.load 45 (Operand.tmp 20)), none⟩,
  ⟨(some 22), (Op.move (Operand.tmp 1)), none⟩,
  ⟨(some 23), (Op.call { callee := (Callee.value (Operand.func 86)), args := #[(Operand.tmp 21), (Operand.tmp 22)], argTypes := #[45, 3] }), none⟩,
  ⟨(some 1), (Op.assign (Operand.tmp 23)), none⟩]
attribute [go_sem] r46_7
def r46_8 : List PO := [⟨(some 24), (Op.move (Operand.tmp 1)), none⟩,
  ⟨(some 25), (Op.binOp BinOp.lss 3 (Operand.tmp 24) (Operand.const (Value.int IntKind.i64 0)) 3), none⟩]
attribute [go_sem] r46_8
def r46_9 : List PO := [⟨(some 4), (Op.assign (Operand.const (Value.int IntKind.i64 (-1)))), none⟩]
attribute [go_sem] r46_9
def r46_6 : List PO := [⟨(some 16), (Op.move (Operand.tmp 5)), none⟩,
  ⟨(some 17), (Op.binOp BinOp.add 3 (Operand.tmp 16) (Operand.const (Value.int IntKind.i64 1)) 3), none⟩,
  ⟨(some 5), (Op.assign (Operand.tmp 17)), none⟩]
attribute [go_sem] r46_6
def k46_1b : PC := (.seq (.seq (.reg r46_5) (.cond (Operand.tmp 15) .skip (.pre ⟨[1], [], []⟩ (.exit 0)))) (.seq (.block 1 (.seq (.reg r46_7) (.seq (.reg r46_8) (.cond (Operand.tmp 25) (.seq (.reg r46_9) (.pre ⟨[4], [], []⟩ .ret)) .skip)))) (.post (.reg r46_6) ⟨[0, 1, 5], [], []⟩)))
def r46_0 : List PO := [⟨(some 4), (Op.assign (Operand.const (Value.int IntKind.i64 0))), none⟩]
attribute [go_sem] r46_0
def r46_1 : List PO := [⟨(some 6), (Op.move (Operand.tmp 1)), none⟩,
  ⟨(some 7), (Op.move (Operand.tmp 0)), none⟩,
  ⟨(some 8), (Op.call { callee := (Callee.builtin Builtin.len), args := #[(Operand.tmp 7)], argTypes := #[22] }), none⟩,
  ⟨(some 9), (Op.binOp BinOp.sub 3 (Operand.tmp 6) (Operand.tmp 8) 3), none⟩,
  ⟨(some 1), (Op.assign (Operand.tmp 9)), none⟩]
attribute [go_sem] r46_1
def r46_2 : List PO := [⟨(some 10), (Op.move (Operand.tmp 1)), none⟩,
  ⟨(some 11), (Op.binOp BinOp.lss 3 (Operand.tmp 10) (Operand.const (Value.int IntKind.i64 0)) 3), none⟩]
attribute [go_sem] r46_2
def r46_3 : List PO := [⟨(some 4), (Op.assign (Operand.const (Value.int IntKind.i64 (-1)))), none⟩]
attribute [go_sem] r46_3
def r46_4 : List PO := [⟨(some 5), (Op.assign (Operand.const (Value.int IntKind.i64 0))), none⟩]
attribute [go_sem] r46_4
def r46_10 : List PO := [⟨(some 26), (Op.move (Operand.tmp 1)), none⟩,
  ⟨(some 4), (Op.assign (Operand.tmp 26)), none⟩]
attribute [go_sem] r46_10
def c46 : PC := (.seq (.reg r46_0) (.seq (.reg r46_1) (.seq (.seq (.reg r46_2) (.cond (Operand.tmp 11) (.seq (.reg r46_3) .ret) .skip)) (.seq (.seq (.reg r46_4) (.block 0 (.pre ⟨[0, 1, 5], [], []⟩ (.loop k46_1b)))) (.seq (.reg r46_10) .ret)))))
def i46 : FnI := ⟨27, [(ResultVar.tmp 4)], c46, 0, [[1], [0]], [[0]], false, false, 0, false⟩
-- loop.example/g00344/laws.szSpp
def r13_0 : List PO := [⟨(some 2), (Op.box 24 (Operand.tmp 0)), none⟩,
  ⟨(some 4), (Op.assign (Operand.const (Value.int IntKind.i64 0))), none⟩]
attribute [go_sem] r13_0
def r13_1 : List PO := [⟨(some 5), (Op.fieldAddr 24 (Operand.tmp 2) 0), none⟩,
  ⟨(some 6), (Op.load 22 (Operand.tmp 5)), none⟩,
  ⟨(some 7), (Op.move (Operand.tmp 1)), none⟩,
  ⟨(some 8), (Op.call { callee := (Callee.value (Operand.func 46)), args := #[(Operand.tmp 6), (Operand.tmp 7)], argTypes := #[22, 3] }), none⟩,
  ⟨(some 1), (Op.assign (Operand.tmp 8)), none⟩]
attribute [go_sem] r13_1
def r13_2 : List PO := [⟨(some 9), (Op.move (Operand.tmp 1)), none⟩,
  ⟨(some 10), (Op.binOp BinOp.lss 3 (Operand.tmp 9) (Operand.const (Value.int IntKind.i64 0)) 3), none⟩]
attribute [go_sem] r13_2
def r13_3 : List PO := [⟨(some 4), (Op.assign (Operand.const (Value.int IntKind.i64 (-1)))), none⟩]
attribute [go_sem] r13_3
def r13_4 : List PO := [⟨(some 11), (Op.move (Operand.tmp 1)), none⟩,
  ⟨(some 4), (Op.assign (Operand.tmp 11)), none⟩]
attribute [go_sem] r13_4
def c13 : PC := (.seq (.reg r13_0) (.seq (.reg r13_1) (.seq (.seq (.reg r13_2) (.cond (Operand.tmp 10) (.seq (.reg r13_3) .ret) .skip)) (.seq (.reg r13_4) .ret))))
def i13 : FnI := ⟨12, [(ResultVar.tmp 4)], c13, 0, [[1], [0]], [[0]], false, false, 0, false⟩
-- loop.example/g00344/laws.toIntS
def r19_3 : List PO := [⟨(some 8), (Op.move (Operand.tmp 4)), none⟩,
  ⟨(some 9), (Op.move (Operand.tmp 0)), none⟩,
  ⟨(some 10), (Op.call { callee := (Callee.builtin Builtin.len), args := #[(Operand.tmp 9)], argTypes := #[31] }), none⟩,
  ⟨(some 11), (Op.binOp BinOp.lss 3 (Operand.tmp 8) (Operand.tmp 10) 3), none⟩]
attribute [go_sem] r19_3
def r19_5 : List PO := [⟨(some 14), (Op.move (Operand.tmp 3)), none⟩,
  ⟨(some 15), (Op.move (Operand.tmp 4)), none⟩,
  ⟨(some 16), (Op.move (Operand.tmp 0)), none⟩,
  ⟨(some 17), (Op.move (Operand.tmp 4)), none⟩,
  ⟨(some 18), (Op.indexAddr 31 (Operand.tmp 16) (Operand.tmp 17)), none⟩,
  ⟨(some 19), (Op.load 3 (Operand.tmp 18)), none⟩,
  ⟨(some 20), (Op.indexAddr 31 (Operand.tmp 14) (Operand.tmp 15)), none⟩,
  ⟨none, (Op.store 3 (Operand.tmp 20) (Operand.tmp 19)), none⟩]
attribute [go_sem] r19_5
def r19_4 : List PO := [⟨(some 12), (Op.move (Operand.tmp 4)), none⟩,
  ⟨(some 13), (Op.binOp BinOp.add 3 (Operand.tmp 12) (Operand.const (Value.int IntKind.i64 1)) 3), none⟩,
  ⟨(some 4), (Op.assign (Operand.tmp 13)), none⟩]
attribute [go_sem] r19_4
def k19_1b : PC := (.seq (.seq (.reg r19_3) (.cond (Operand.tmp 11) .skip (.pre ⟨[3], [.old 0], []⟩ (.exit 0)))) (.seq (.block 1 (.reg r19_5)) (.post (.reg r19_4) ⟨[0, 3, 4], [.old 0], []⟩)))
def r19_0 : List PO := [⟨(some 2), (Op.assign (Operand.const (Value.slice none 0 0))), none⟩]
attribute [go_sem] r19_0
def r19_1 : List PO := [⟨(some 5), (Op.move (Operand.tmp 0)), none⟩,
  ⟨(some 6), (Op.call { callee := (Callee.builtin Builtin.len), args := #[(Operand.tmp 5)], argTypes := #[31] }), none⟩,
  ⟨(some 7), (Op.makeSlice 31 (Operand.tmp 6) (Operand.tmp 6)), none⟩,
  ⟨(some 3), (Op.assign (Operand.tmp 7)), none⟩]
attribute [go_sem] r19_1
def r19_2 : List PO := [⟨(some 4), (Op.assign (Operand.const (Value.int IntKind.i64 0))), none⟩]
attribute [go_sem] r19_2
def r19_6 : List PO := [⟨(some 21), (Op.move (Operand.tmp 3)), none⟩,
  ⟨(some 2), (Op.assign (Operand.tmp 21)), none⟩]
attribute [go_sem] r19_6
def c19 : PC := (.seq (.reg r19_0) (.seq (.reg r19_1) (.seq (.seq (.reg r19_2) (.block 0 (.pre ⟨[0, 3, 4], [.old 0], []⟩ (.loop k19_1b)))) (.seq (.reg r19_6) .ret))))
def i19 : FnI := ⟨22, [(ResultVar.tmp 2)], c19, 0, [[1]], [[1]], false, false, 0, false⟩
-- loop.example/g00344/laws.toIntSS
def r88_3 : List PO := [⟨(some 8), (Op.move (Operand.tmp 4)), none⟩,
  ⟨(some 9), (Op.move (Operand.tmp 0)), none⟩,
  ⟨(some 10), (Op.call { callee := (Callee.builtin Builtin.len), args := #[(Operand.tmp 9)], argTypes := #[45] }), none⟩,
  ⟨(some 11), (Op.binOp BinOp.lss 3 (Operand.tmp 8) (Operand.tmp 10) 3), none⟩]
attribute [go_sem] r88_3
def r88_5 : List PO := [⟨(some 14), (Op.move (Operand.tmp 3)), none⟩,
  ⟨(some 15), (Op.move (Operand.tmp 4)), none⟩,
  ⟨(some 16), (Op.move (Operand.tmp 0)), none⟩,
  ⟨(some 17), (Op.move (Operand.tmp 4)), none⟩,
  ⟨(some 18), (Op.indexAddr 45 (Operand.tmp 16) (Operand.tmp 17)), none⟩,
  ⟨(some 19), (Op.load 31 (Operand.tmp 18)), none⟩,
  ⟨(some 20), (Op.call { callee := (Callee.value (Operand.func 19)), args := #[(Operand.tmp 19)], argTypes := #[31] }), none⟩,
  ⟨(some 21), (Op.indexAddr 45 (Operand.tmp 14) (Operand.tmp 15)), none⟩,
  ⟨none, (Op.store 31 (Operand.tmp 21) (Operand.tmp 20)), none⟩]
attribute [go_sem] r88_5
def r88_4 : List PO := [⟨(some 12), (Op.move (Operand.tmp 4)), none⟩,
  ⟨(some 13), (Op.binOp BinOp.add 3 (Operand.tmp 12) (Operand.const (Value.int IntKind.i64 1)) 3), none⟩,
  ⟨(some 4), (Op.assign (Operand.tmp 13)), none⟩]
attribute [go_sem] r88_4
def k88_1b : PC := (.seq (.seq (.reg r88_3) (.cond (Operand.tmp 11) .skip (.pre ⟨[3], [.old 0], []⟩ (.exit 0)))) (.seq (.block 1 (.reg r88_5)) (.post (.reg r88_4) ⟨[0, 3, 4], [.old 0], []⟩)))
def r88_0 : List PO := [⟨(some 2), (Op.assign (Operand.const (Value.slice none 0 0))), none⟩]
attribute [go_sem] r88_0
def r88_1 : List PO := [⟨(some 5), (Op.move (Operand.tmp 0)), none⟩,
  ⟨(some 6), (Op.call { callee := (Callee.builtin Builtin.len), args := #[(Operand.tmp 5)], argTypes := #[45] }), none⟩,
  ⟨(some 7), (Op.makeSlice 45 (Operand.tmp 6) (Operand.tmp 6)), none⟩,
  ⟨(some 3), (Op.assign (Operand.tmp 7)), none⟩]
attribute [go_sem] r88_1
def r88_2 : List PO := [⟨(some 4), (Op.assign (Operand.const (Value.int IntKind.i64 0))), none⟩]
attribute [go_sem] r88_2
def r88_6 : List PO := [⟨(some 22), (Op.move (Operand.tmp 3)), none⟩,
  ⟨(some 2), (Op.assign (Operand.tmp 22)), none⟩]
attribute [go_sem] r88_6
def c88 : PC := (.seq (.reg r88_0) (.seq (.reg r88_1) (.seq (.seq (.reg r88_2) (.block 0 (.pre ⟨[0, 3, 4], [.old 0], []⟩ (.loop k88_1b)))) (.seq (.reg r88_6) .ret))))
def i88 : FnI := ⟨23, [(ResultVar.tmp 2)], c88, 0, [[1]], [[1]], false, false, 0, false⟩
-- loop.example/g00344/laws.toIntSSS
def r50_3 : List PO := [⟨(some 8), (Op.move (Operand.tmp 4)), none⟩,
  ⟨(some 9), (Op.move (Operand.tmp 0)), none⟩,
  ⟨(some 10), (Op.call { callee := (Callee.builtin Builtin.len), args := #[(Operand.tmp 9)], argTypes := #[22] }), none⟩,
  ⟨(some 11), (Op.binOp BinOp.lss 3 (Operand.tmp 8) (Operand.tmp 10) 3), none⟩]
attribute [go_sem] r50_3
def r50_5 : List PO := [⟨(some 14), (Op.move (Operand.tmp 3)), none⟩,
  ⟨(some 15), (Op.move (Operand.tmp 4)), none⟩,
  ⟨(some 16), (Op.move (Operand.tmp 0)), none⟩,
  ⟨(some 17), (Op.move (Operand.tmp 4)), none⟩,
  ⟨(some 18), (Op.indexAddr 22 (Operand.tmp 16) (Operand.tmp 17)), none⟩,
  ⟨(some 19), (Op.load 45 (Operand.tmp 18)), none⟩,
  ⟨(some 20), (Op.call { callee := (Callee.value (Operand.func 88)), args := #[(Operand.tmp 19)], argTypes := #[45] }), none⟩,
  ⟨(some 21), (Op.indexAddr 22 (Operand.tmp 14) (Operand.tmp 15)), none⟩,
  ⟨none, (Op.store 45 (Operand.tmp 21) (Operand.tmp 20)), none⟩]
attribute [go_sem] r50_5
def r50_4 : List PO := [⟨(some 12), (Op.move (Operand.tmp 4)), none⟩,
  ⟨(some 13), (Op.binOp BinOp.add 3 (Operand.tmp 12) (Operand.const (Value.int IntKind.i64 1)) 3), none⟩,
  ⟨(some 4), (Op.assign (Operand.tmp 13)), none⟩]
attribute [go_sem] r50_4
def k50_1b : PC := (.seq (.seq (.reg r50_3) (.cond (Operand.tmp 11) .skip (.pre ⟨[3], [.old 0], []⟩ (.exit 0)))) (.seq (.block 1 (.reg r50_5)) (.post (.reg r50_4) ⟨[0, 3, 4], [.old 0], []⟩)))
def r50_0 : List PO := [⟨(some 2), (Op.assign (Operand.const (Value.slice none 0 0))), none⟩]
attribute [go_sem] r50_0
def r50_1 : List PO := [⟨(some 5), (Op.move (Operand.tmp 0)), none⟩,
  ⟨(some 6), (Op.call { callee := (Callee.builtin Builtin.len), args := #[(Operand.tmp 5)], argTypes := #[22] }), none⟩,
  ⟨(some 7), (Op.makeSlice 22 (Operand.tmp 6) (Operand.tmp 6)), none⟩,
  ⟨(some 3), (Op.assign (Operand.tmp 7)), none⟩]
attribute [go_sem] r50_1
def r50_2 : List PO := [⟨(some 4), (Op.assign (Operand.const (Value.int IntKind.i64 0))), none⟩]
attribute [go_sem] r50_2
def r50_6 : List PO := [⟨(some 22), (Op.move (Operand.tmp 3)), none⟩,
  ⟨(some 2), (Op.assign (Operand.tmp 22)), none⟩]
attribute [go_sem] r50_6
def c50 : PC := (.seq (.reg r50_0) (.seq (.reg r50_1) (.seq (.seq (.reg r50_2) (.block 0 (.pre ⟨[0, 3, 4], [.old 0], []⟩ (.loop k50_1b)))) (.seq (.reg r50_6) .ret))))
def i50 : FnI := ⟨23, [(ResultVar.tmp 2)], c50, 0, [[1]], [[1]], false, false, 0, false⟩
-- loop.example/g00344/laws.toSpp
def r15_0 : List PO := [⟨(some 1), (Op.box 24 (Operand.tmp 0)), none⟩,
  ⟨(some 2), (Op.alloc 27), none⟩]
attribute [go_sem] r15_0
def r15_1 : List PO := [⟨(some 3), (Op.alloc 27), none⟩]
attribute [go_sem] r15_1
def r15_2 : List PO := [⟨(some 4), (Op.fieldAddr 24 (Operand.tmp 1) 0), none⟩,
  ⟨(some 5), (Op.load 22 (Operand.tmp 4)), none⟩,
  ⟨(some 6), (Op.call { callee := (Callee.value (Operand.func 50)), args := #[(Operand.tmp 5)], argTypes := #[22] }), none⟩,
  ⟨(some 7), (Op.fieldAddr 27 (Operand.tmp 3) 0), none⟩,
  ⟨none, (Op.store 22 (Operand.tmp 7) (Operand.tmp 6)), none⟩]
attribute [go_sem] r15_2
def r15_3 : List PO := [⟨(some 8), (Op.load 27 (Operand.tmp 3)), none⟩,
  ⟨none, (Op.store 27 (Operand.tmp 2) (Operand.tmp 8)), none⟩]
attribute [go_sem] r15_3
def c15 : PC := (.seq (.reg r15_0) (.seq (.reg r15_1) (.seq (.reg r15_2) (.seq (.reg r15_3) .ret))))
def i15 : FnI := ⟨9, [(ResultVar.cell 2 27)], c15, 0, [[1]], [[1]], false, false, 0, false⟩
-- loop.example/g00344/spec.l1In
def r47_1 : List PO := [⟨(some 7), (Op.move (Operand.tmp 0)), none⟩,
  ⟨(some 8), (Op.move (Operand.tmp 1)), none⟩,
  ⟨(some 9), (Op.binOp BinOp.geq 3 (Operand.tmp 7) (Operand.tmp 8) 3), none⟩,
  ⟨(some 10), (Op.move (Operand.tmp 9)), none⟩,
  ⟨(some 11), (Op.move (Operand.tmp 0)), (some (10, true))⟩,
  ⟨(some 12), (Op.move (Operand.tmp 2)), (some (10, true))⟩,
  ⟨(some 13), (Op.binOp BinOp.leq 3 (Operand.tmp 11) (Operand.tmp 12) 3), (some (10, true))⟩,
  ⟨(some 14), (Op.pick (Operand.tmp 10) (Operand.tmp 13) (Operand.const (Value.bool false))), none⟩,
  ⟨(some 6), (Op.assign (Operand.tmp 14)), none⟩]
attribute [go_sem] r47_1
def k47_1 : PC := (.post (.reg r47_1) ⟨[6], [], []⟩)
def r47_0 : List PO := [⟨(some 6), (Op.assign (Operand.const (Value.bool false))), none⟩]
attribute [go_sem] r47_0
def c47 : PC := (.seq (.reg r47_0) (.seq (.pre ⟨[0, 1, 2], [], []⟩ k47_1) .ret))
def i47 : FnI := ⟨15, [(ResultVar.tmp 6)], c47, 0, [[0], [0], [0]], [[0]], false, false, 0, false⟩
-- loop.example/g00344/spec.l1Has
def r87_2 : List PO := [⟨(some 10), (Op.binOp BinOp.lss 3 (Operand.tmp 9) (Operand.tmp 8) 3), none⟩]
attribute [go_sem] r87_2
def r87_3 : List PO := [⟨(some 11), (Op.indexAddr 31 (Operand.tmp 7) (Operand.tmp 9)), none⟩,
  ⟨(some 12), (Op.load 3 (Operand.tmp 11)), none⟩,
  ⟨(some 6), (Op.assign (Operand.tmp 12)), none⟩]
attribute [go_sem] r87_3
def r87_4 : List PO := [⟨(some 13), (Op.move (Operand.tmp 6)), none⟩,
  ⟨(some 14), (Op.move (Operand.tmp 1)), none⟩,
  ⟨(some 15), (Op.binOp BinOp.eql 3 (Operand.tmp 13) (Operand.tmp 14) 3), none⟩]
attribute [go_sem] r87_4
def r87_5 : List PO := [⟨(some 4), (Op.assign (Operand.const (Value.bool true))), none⟩]
attribute [go_sem] r87_5
def r87_6 : List PO := [⟨(some 16), (Op.binOp BinOp.add 3 (Operand.tmp 9) (Operand.const (Value.int IntKind.i64 1)) 3), none⟩,
  ⟨(some 9), (Op.move (Operand.tmp 16)), none⟩]
attribute [go_sem] r87_6
def k87_1b : PC := (.seq (.reg r87_2) (.seq (.cond (Operand.tmp 10) .skip (.pre ⟨[], [], []⟩ (.exit 0))) (.seq (.block 1 (.seq (.reg r87_3) (.seq (.reg r87_4) (.cond (Operand.tmp 15) (.seq (.reg r87_5) (.pre ⟨[4], [], []⟩ .ret)) .skip)))) (.post (.reg r87_6) ⟨[1, 7, 8, 9], [], []⟩))))
def r87_0 : List PO := [⟨(some 4), (Op.assign (Operand.const (Value.bool false))), none⟩]
attribute [go_sem] r87_0
def r87_1 : List PO := [⟨(some 7), (Op.move (Operand.tmp 0)), none⟩,
  ⟨(some 8), (Op.call { callee := (Callee.builtin Builtin.len), args := #[(Operand.tmp 7)], argTypes := #[31] }), none⟩,
  ⟨(some 9), (Op.move (Operand.const (Value.int IntKind.i64 0))), none⟩]
attribute [go_sem] r87_1
def r87_7 : List PO := [⟨(some 4), (Op.assign (Operand.const (Value.bool false))), none⟩]
attribute [go_sem] r87_7
def c87 : PC := (.seq (.reg r87_0) (.seq (.seq (.reg r87_1) (.block 0 (.pre ⟨[1, 7, 8, 9], [], []⟩ (.loop k87_1b)))) (.seq (.reg r87_7) .ret)))
def i87 : FnI := ⟨17, [(ResultVar.tmp 4)], c87, 0, [[1], [0]], [[0]], false, false, 0, false⟩
-- loop.example/g00344/spec.l10Same
def r79_4 : List PO := [⟨(some 14), (Op.binOp BinOp.lss 3 (Operand.tmp 13) (Operand.tmp 12) 3), none⟩]
attribute [go_sem] r79_4
def r79_5 : List PO := [⟨(some 15), (Op.move (Operand.tmp 13)), none⟩,
  ⟨(some 5), (Op.assign (Operand.tmp 15)), none⟩]
attribute [go_sem] r79_5
def r79_6 : List PO := [⟨(some 16), (Op.move (Operand.tmp 0)), none⟩,
  ⟨(some 17), (Op.move (Operand.tmp 5)), none⟩,
  ⟨(some 18), (Op.indexAddr 31 (Operand.tmp 16) (Operand.tmp 17)), none⟩,
  ⟨(some 19), (Op.load 3 (Operand.tmp 18)), none⟩,
  ⟨(some 20), (Op.move (Operand.tmp 1)), none⟩,
  ⟨(some 21), (Op.move (Operand.tmp 5)), none⟩,
  ⟨(some 22), (Op.indexAddr 31 (Operand.tmp 20) (Operand.tmp 21)), none⟩,
  ⟨(some 23), (Op.load 3 (Operand.tmp 22)), none⟩,
  ⟨(some 24), (Op.binOp BinOp.neq 3 (Operand.tmp 19) (Operand.tmp 23) 3), none⟩]
attribute [go_sem] r79_6
def r79_7 : List PO := [⟨(some 4), (Op.assign (Operand.const (Value.bool false))), none⟩]
attribute [go_sem] r79_7
def r79_8 : List PO := [⟨(some 25), (Op.binOp BinOp.add 3 (Operand.tmp 13) (Operand.const (Value.int IntKind.i64 1)) 3), none⟩,
  ⟨(some 13), (Op.move (Operand.tmp 25)), none⟩]
attribute [go_sem] r79_8
def k79_1b : PC := (.seq (.reg r79_4) (.seq (.cond (Operand.tmp 14) .skip (.pre ⟨[], [], []⟩ (.exit 0))) (.seq (.block 1 (.seq (.reg r79_5) (.seq (.fz r79_6) (.cond (Operand.tmp 24) (.seq (.reg r79_7) (.pre ⟨[4], [], []⟩ .ret)) .skip)))) (.post (.reg r79_8) ⟨[0, 1, 12, 13], [], []⟩))))
def r79_0 : List PO := [⟨(some 4), (Op.assign (Operand.const (Value.bool false))), none⟩]
attribute [go_sem] r79_0
def r79_1 : List PO := [⟨(some 6), (Op.move (Operand.tmp 0)), none⟩,
  ⟨(some 7), (Op.call { callee := (Callee.builtin Builtin.len), args := #[(Operand.tmp 6)], argTypes := #[31] }), none⟩,
  ⟨(some 8), (Op.move (Operand.tmp 1)), none⟩,
  ⟨(some 9), (Op.call { callee := (Callee.builtin Builtin.len), args := #[(Operand.tmp 8)], argTypes := #[31] }), none⟩,
  ⟨(some 10), (Op.binOp BinOp.neq 3 (Operand.tmp 7) (Operand.tmp 9) 3), none⟩]
attribute [go_sem] r79_1
def r79_2 : List PO := [⟨(some 4), (Op.assign (Operand.const (Value.bool false))), none⟩]
attribute [go_sem] r79_2
def r79_3 : List PO := [⟨(some 11), (Op.move (Operand.tmp 0)), none⟩,
  ⟨(some 12), (Op.call { callee := (Callee.builtin Builtin.len), args := #[(Operand.tmp 11)], argTypes := #[31] }), none⟩,
  ⟨(some 13), (Op.move (Operand.const (Value.int IntKind.i64 0))), none⟩]
attribute [go_sem] r79_3
def r79_9 : List PO := [⟨(some 4), (Op.assign (Operand.const (Value.bool true))), none⟩]
attribute [go_sem] r79_9
def c79 : PC := (.seq (.reg r79_0) (.seq (.seq (.reg r79_1) (.cond (Operand.tmp 10) (.seq (.reg r79_2) .ret) .skip)) (.seq (.seq (.reg r79_3) (.block 0 (.pre ⟨[0, 1, 12, 13], [], []⟩ (.loop k79_1b)))) (.seq (.reg r79_9) .ret))))
def i79 : FnI := ⟨26, [(ResultVar.tmp 4)], c79, 0, [[1], [1]], [[0]], false, false, 0, false⟩
-- loop.example/g00344/spec.l10At
def r49_2 : List PO := [⟨(some 17), (Op.binOp BinOp.lss 3 (Operand.tmp 16) (Operand.tmp 15) 3), none⟩]
attribute [go_sem] r49_2
def r49_3 : List PO := [⟨(some 18), (Op.move (Operand.tmp 16)), none⟩,
  ⟨(some 19), (Op.indexAddr 45 (Operand.tmp 14) (Operand.tmp 16)), none⟩,
  ⟨(some 20), (Op.load 31 (Operand.tmp 19)), none⟩,
  ⟨(some 7), (Op.assign (Operand.tmp 18)), none⟩,
  ⟨(some 8), (Op.assign (Operand.tmp 20)), none⟩]
attribute [go_sem] r49_3
def r49_4 : List PO := [⟨(some 21), (Op.move (Operand.tmp 8)), none⟩,
  ⟨(some 22), (Op.move (Operand.tmp 2)), none⟩,
  ⟨(some 23), (Op.call { callee := (Callee.value (Operand.func 79)), args := #[(Operand.tmp 21), (Operand.tmp 22)], argTypes := #[31, 31] }), none⟩]
attribute [go_sem] r49_4
def r49_5 : List PO := [⟨(some 24), (Op.move (Operand.tmp 7)), none⟩,
  ⟨(some 6), (Op.assign (Operand.tmp 24)), none⟩]
attribute [go_sem] r49_5
def r49_6 : List PO := [⟨(some 25), (Op.binOp BinOp.add 3 (Operand.tmp 16) (Operand.const (Value.int IntKind.i64 1)) 3), none⟩,
  ⟨(some 16), (Op.move (Operand.tmp 25)), none⟩]
attribute [go_sem] r49_6
def k49_1b : PC := (.seq (.reg r49_2) (.seq (.cond (Operand.tmp 17) .skip (.pre ⟨[], [], []⟩ (.exit 0))) (.seq (.block 1 (.seq (.reg r49_3) (.seq (.reg r49_4) (.cond (Operand.tmp 23) (.seq (.reg r49_5) (.pre ⟨[6], [], []⟩ .ret)) .skip)))) (.post (.reg r49_6) ⟨[2, 14, 15, 16], [], []⟩))))
def r49_0 : List PO := [⟨(some 3), (Op.box 27 (Operand.tmp 0)), none⟩,
  ⟨(some 6), (Op.assign (Operand.const (Value.int IntKind.i64 0))), none⟩]
attribute [go_sem] r49_0
def r49_1 : List PO := [⟨(some 9), (Op.fieldAddr 27 (Operand.tmp 3) 0), none⟩,
  ⟨(some 10), (Op.load 22 (Operand.tmp 9)), none⟩,
  ⟨(some 11), (Op.move (Operand.tmp 1)), none⟩,
  ⟨(some 12), (Op.binOp BinOp.sub 3 (Operand.tmp 11) (Operand.const (Value.int IntKind.i64 1)) 3), none⟩,
  ⟨(some 13), (Op.indexAddr 22 (Operand.tmp 10) (Operand.tmp 12)), none⟩,
  ⟨(some 14), (Op.load 45 (Operand.tmp 13)), none⟩,
  ⟨(some 15), (Op.call { callee := (Callee.builtin Builtin.len), args := #[(Operand.tmp 14)], argTypes := #[45] }), none⟩,
  ⟨(some 16), (Op.move (Operand.const (Value.int IntKind.i64 0))), none⟩]
attribute [go_sem] r49_1
def r49_7 : List PO := [⟨(some 6), (Op.assign (Operand.const (Value.int IntKind.i64 (-1)))), none⟩]
attribute [go_sem] r49_7
def c49 : PC := (.seq (.reg r49_0) (.seq (.seq (.reg r49_1) (.block 0 (.pre ⟨[2, 14, 15, 16], [], []⟩ (.loop k49_1b)))) (.seq (.reg r49_7) .ret)))
def i49 : FnI := ⟨26, [(ResultVar.tmp 6)], c49, 0, [[1], [0], [1]], [[0]], false, false, 0, false⟩
-- loop.example/g00344/spec.l10Path
def r48_2 : List PO := [⟨(some 13), (Op.move (Operand.tmp 2)), none⟩,
  ⟨(some 14), (Op.call { callee := (Callee.builtin Builtin.len), args := #[(Operand.tmp 13)], argTypes := #[31] }), none⟩,
  ⟨(some 15), (Op.binOp BinOp.lss 3 (Operand.tmp 14) (Operand.const (Value.int IntKind.i64 2)) 3), none⟩,
  ⟨(some 16), (Op.move (Operand.tmp 15)), none⟩,
  ⟨(some 17), (Op.move (Operand.tmp 2)), (some (16, false))⟩,
  ⟨(some 18), (Op.indexAddr 31 (Operand.tmp 17) (Operand.const (Value.int IntKind.i64 0))), (some (16, false))⟩,
  ⟨(some 19), (Op.load 3 (Operand.tmp 18)), (some (16, false))⟩,
  ⟨(some 20), (Op.move (Operand.tmp 1)), (some (16, false))⟩,
  ⟨(some 21), (Op.binOp BinOp.neq 3 (Operand.tmp 19) (Operand.tmp 20) 3), (some (16, false))⟩,
  ⟨(some 22), (Op.pick (Operand.tmp 16) (Operand.const (Value.bool true)) (Operand.tmp 21)), none⟩,
  ⟨(some 23), (Op.move (Operand.tmp 22)), none⟩,
  ⟨(some 24), (Op.move (Operand.tmp 2)), (some (23, false))⟩,
  ⟨(some 25), (Op.move (Operand.tmp 2)), (some (23, false))⟩,
  ⟨(some 26), (Op.call { callee := (Callee.builtin Builtin.len), args := #[(Operand.tmp 25)], argTypes := #[31] }), (some (23, false))⟩,
  ⟨(some 27), (Op.binOp BinOp.sub 3 (Operand.tmp 26) (Operand.const (Value.int IntKind.i64 1)) 3), (some (23, false))⟩,
  ⟨(some 28), (Op.indexAddr 31 (Operand.tmp 24) (Operand.tmp 27)), (some (23, false))⟩,
  ⟨(some 29), (Op.load 3 (Operand.tmp 28)), (some (23, false))⟩,
  ⟨(some 30), (Op.binOp BinOp.neq 3 (Operand.tmp 29) (Operand.const (Value.int IntKind.i64 0)) 3), (some (23, false))⟩,
  ⟨(some 31), (Op.pick (Operand.tmp 23) (Operand.const (Value.bool true)) (Operand.tmp 30)), none⟩]
attribute [go_sem] r48_2
def k48_1 : PC := (.post (.reg r48_2) ⟨[2, 3, 7, 31], [.old 0], []⟩)
def r48_7 : List PO := [⟨(some 39), (Op.move (Operand.tmp 9)), none⟩,
  ⟨(some 40), (Op.binOp BinOp.lss 3 (Operand.tmp 39) (Operand.const (Value.int IntKind.i64 0)) 3), none⟩,
  ⟨(some 41), (Op.move (Operand.tmp 40)), none⟩,
  ⟨(some 42), (Op.move (Operand.tmp 9)), (some (41, false))⟩,
  ⟨(some 43), (Op.move (Operand.tmp 7)), (some (41, false))⟩,
  ⟨(some 44), (Op.binOp BinOp.gtr 3 (Operand.tmp 42) (Operand.tmp 43) 3), (some (41, false))⟩,
  ⟨(some 45), (Op.pick (Operand.tmp 41) (Operand.const (Value.bool true)) (Operand.tmp 44)), none⟩,
  ⟨(some 46), (Op.move (Operand.tmp 45)), none⟩,
  ⟨(some 47), (Op.move (Operand.tmp 2)), (some (46, false))⟩,
  ⟨(some 48), (Op.move (Operand.tmp 8)), (some (46, false))⟩,
  ⟨(some 49), (Op.slice 31 (Operand.tmp 47) none (some (Operand.tmp 48)) none), (some (46, false))⟩,
  ⟨(some 50), (Op.move (Operand.tmp 9)), (some (46, false))⟩,
  ⟨(some 51), (Op.call { callee := (Callee.value (Operand.func 87)), args := #[(Operand.tmp 49), (Operand.tmp 50)], argTypes := #[31, 3] }), (some (46, false))⟩,
  ⟨(some 52), (Op.pick (Operand.tmp 46) (Operand.const (Value.bool true)) (Operand.tmp 51)), none⟩,
  ⟨(some 53), (Op.move (Operand.tmp 52)), none⟩,
  ⟨(some 54), (Op.move (Operand.tmp 9)), (some (53, false))⟩,
  ⟨(some 55), (Op.binOp BinOp.eql 3 (Operand.tmp 54) (Operand.const (Value.int IntKind.i64 0)) 3), (some (53, false))⟩,
  ⟨(some 56), (Op.move (Operand.tmp 55)), (some (53, false))⟩,
  ⟨(some 57), (Op.move (Operand.tmp 8)), (some (56, true))⟩,
  ⟨(some 58), (Op.move (Operand.tmp 2)), (some (56, true))⟩,
  ⟨(some 59), (Op.call { callee := (Callee.builtin Builtin.len), args := #[(Operand.tmp 58)], argTypes := #[31] }), (some (56, true))⟩,
  ⟨(some 60), (Op.binOp BinOp.sub 3 (Operand.tmp 59) (Operand.const (Value.int IntKind.i64 1)) 3), (some (56, true))⟩,
  ⟨(some 61), (Op.binOp BinOp.lss 3 (Operand.tmp 57) (Operand.tmp 60) 3), (some (56, true))⟩,
  ⟨(some 62), (Op.pick (Operand.tmp 56) (Operand.tmp 61) (Operand.const (Value.bool false))), (some (53, false))⟩,
  ⟨(some 63), (Op.pick (Operand.tmp 53) (Operand.const (Value.bool true)) (Operand.tmp 62)), none⟩]
attribute [go_sem] r48_7
def k48_4 : PC := (.post (.reg r48_7) ⟨[2, 3, 7, 32, 33, 34, 63], [.old 0], []⟩)
def r48_5 : List PO := [⟨(some 35), (Op.binOp BinOp.lss 3 (Operand.tmp 34) (Operand.tmp 33) 3), none⟩]
attribute [go_sem] r48_5
def r48_6 : List PO := [⟨(some 36), (Op.move (Operand.tmp 34)), none⟩,
  ⟨(some 37), (Op.indexAddr 31 (Operand.tmp 32) (Operand.tmp 34)), none⟩,
  ⟨(some 38), (Op.load 3 (Operand.tmp 37)), none⟩,
  ⟨(some 8), (Op.assign (Operand.tmp 36)), none⟩,
  ⟨(some 9), (Op.assign (Operand.tmp 38)), none⟩]
attribute [go_sem] r48_6
def r48_8 : List PO := [⟨(some 6), (Op.assign (Operand.const (Value.bool false))), none⟩]
attribute [go_sem] r48_8
def r48_9 : List PO := [⟨(some 64), (Op.binOp BinOp.add 3 (Operand.tmp 34) (Operand.const (Value.int IntKind.i64 1)) 3), none⟩,
  ⟨(some 34), (Op.move (Operand.tmp 64)), none⟩]
attribute [go_sem] r48_9
def k48_2b : PC := (.seq (.reg r48_5) (.seq (.cond (Operand.tmp 35) .skip (.pre ⟨[2, 3], [.old 0], []⟩ (.exit 0))) (.seq (.block 1 (.seq (.reg r48_6) (.seq (.pre ⟨[2, 3, 7, 8, 9, 32, 33, 34], [.old 0], []⟩ k48_4) (.cond (Operand.tmp 63) (.seq (.reg r48_8) (.pre ⟨[6], [], []⟩ .ret)) .skip)))) (.post (.reg r48_9) ⟨[2, 3, 7, 32, 33, 34], [.old 0], []⟩))))
def r48_10 : List PO := [⟨(some 65), (Op.move (Operand.tmp 2)), none⟩,
  ⟨(some 66), (Op.call { callee := (Callee.builtin Builtin.len), args := #[(Operand.tmp 65)], argTypes := #[31] }), none⟩,
  ⟨(some 67), (Op.binOp BinOp.eql 3 (Operand.tmp 66) (Operand.const (Value.int IntKind.i64 2)) 3), none⟩,
  ⟨(some 68), (Op.move (Operand.tmp 67)), none⟩,
  ⟨(some 69), (Op.load 27 (Operand.tmp 3)), (some (68, false))⟩,
  ⟨(some 70), (Op.move (Operand.tmp 2)), (some (68, false))⟩,
  ⟨(some 71), (Op.indexAddr 31 (Operand.tmp 70) (Operand.const (Value.int IntKind.i64 1))), (some (68, false))⟩,
  ⟨(some 72), (Op.load 3 (Operand.tmp 71)), (some (68, false))⟩,
  ⟨(some 73), (Op.move (Operand.tmp 2)), (some (68, false))⟩,
  ⟨(some 74), (Op.slice 31 (Operand.tmp 73) (some (Operand.const (Value.int IntKind.i64 1))) none none), (some (68, false))⟩,
  ⟨(some 75), (Op.call { callee := (Callee.value (Operand.func 49)), args := #[(Operand.tmp 69), (Operand.tmp 72), (Operand.tmp 74)], argTypes := #[27, 3, 31] }), (some (68, false))⟩,
  ⟨(some 76), (Op.binOp BinOp.geq 3 (Operand.tmp 75) (Operand.const (Value.int IntKind.i64 0)) 3), (some (68, false))⟩,
  ⟨(some 77), (Op.pick (Operand.tmp 68) (Operand.const (Value.bool true)) (Operand.tmp 76)), none⟩,
  ⟨(some 6), (Op.assign (Operand.tmp 77)), none⟩]
attribute [go_sem] r48_10
def k48_5 : PC := (.post (.fz r48_10) ⟨[6], [], []⟩)
def r48_0 : List PO := [⟨(some 3), (Op.box 27 (Operand.tmp 0)), none⟩,
  ⟨(some 6), (Op.assign (Operand.const (Value.bool false))), none⟩]
attribute [go_sem] r48_0
def r48_1 : List PO := [⟨(some 10), (Op.fieldAddr 27 (Operand.tmp 3) 0), none⟩,
  ⟨(some 11), (Op.load 22 (Operand.tmp 10)), none⟩,
  ⟨(some 12), (Op.call { callee := (Callee.builtin Builtin.len), args := #[(Operand.tmp 11)], argTypes := #[22] }), none⟩,
  ⟨(some 7), (Op.assign (Operand.tmp 12)), none⟩]
attribute [go_sem] r48_1
def r48_3 : List PO := [⟨(some 6), (Op.assign (Operand.const (Value.bool false))), none⟩]
attribute [go_sem] r48_3
def r48_4 : List PO := [⟨(some 32), (Op.move (Operand.tmp 2)), none⟩,
  ⟨(some 33), (Op.call { callee := (Callee.builtin Builtin.len), args := #[(Operand.tmp 32)], argTypes := #[31] }), none⟩,
  ⟨(some 34), (Op.move (Operand.const (Value.int IntKind.i64 0))), none⟩]
attribute [go_sem] r48_4
def c48 : PC := (.seq (.reg r48_0) (.seq (.reg r48_1) (.seq (.seq (.pre ⟨[1, 2, 3, 7], [.old 0], []⟩ k48_1) (.cond (Operand.tmp 31) (.seq (.reg r48_3) .ret) .skip)) (.seq (.seq (.reg r48_4) (.block 0 (.pre ⟨[2, 3, 7, 32, 33, 34], [.old 0], []⟩ (.loop k48_2b)))) (.seq (.pre ⟨[2, 3], [.old 0], []⟩ k48_5) .ret)))))
def i48 : FnI := ⟨78, [(ResultVar.tmp 6)], c48, 0, [[1], [0], [1]], [[0]], false, false, 0, false⟩
-- loop.example/g00344/spec.GoodSpp
def r14_11 : List PO := [⟨(some 30), (Op.load 27 (Operand.tmp 1)), none⟩,
  ⟨(some 31), (Op.move (Operand.tmp 3)), none⟩,
  ⟨(some 32), (Op.binOp BinOp.add 3 (Operand.tmp 31) (Operand.const (Value.int IntKind.i64 1)) 3), none⟩,
  ⟨(some 33), (Op.move (Operand.tmp 6)), none⟩,
  ⟨(some 34), (Op.call { callee := (Callee.value (Operand.func 48)), args := #[(Operand.tmp 30), (Operand.tmp 32), (Operand.tmp 33)], argTypes := #[27, 3, 31] }), none⟩,
  ⟨(some 35), (Op.unOp UnOp.not 4 (Operand.tmp 34)), none⟩,
  ⟨(some 36), (Op.move (Operand.tmp 35)), none⟩,
  ⟨(some 37), (Op.load 27 (Operand.tmp 1)), (some (36, false))⟩,
  ⟨(some 38), (Op.move (Operand.tmp 3)), (some (36, false))⟩,
  ⟨(some 39), (Op.binOp BinOp.add 3 (Operand.tmp 38) (Operand.const (Value.int IntKind.i64 1)) 3), (some (36, false))⟩,
  ⟨(some 40), (Op.move (Operand.tmp 6)), (some (36, false))⟩,
  ⟨(some 41), (Op.call { callee := (Callee.value (Operand.func 49)), args := #[(Operand.tmp 37), (Operand.tmp 39), (Operand.tmp 40)], argTypes := #[27, 3, 31] }), (some (36, false))⟩,
  ⟨(some 42), (Op.move (Operand.tmp 5)), (some (36, false))⟩,
  ⟨(some 43), (Op.binOp BinOp.neq 3 (Operand.tmp 41) (Operand.tmp 42) 3), (some (36, false))⟩,
  ⟨(some 44), (Op.pick (Operand.tmp 36) (Operand.const (Value.bool true)) (Operand.tmp 43)), none⟩]
attribute [go_sem] r14_11
def k14_7 : PC := (.post (.reg r14_11) ⟨[1, 3, 13, 14, 15, 23, 24, 25, 44], [.old 0], []⟩)
def r14_9 : List PO := [⟨(some 26), (Op.binOp BinOp.lss 3 (Operand.tmp 25) (Operand.tmp 24) 3), none⟩]
attribute [go_sem] r14_9
def r14_10 : List PO := [⟨(some 27), (Op.move (Operand.tmp 25)), none⟩,
  ⟨(some 28), (Op.indexAddr 45 (Operand.tmp 23) (Operand.tmp 25)), none⟩,
  ⟨(some 29), (Op.load 31 (Operand.tmp 28)), none⟩,
  ⟨(some 5), (Op.assign (Operand.tmp 27)), none⟩,
  ⟨(some 6), (Op.assign (Operand.tmp 29)), none⟩]
attribute [go_sem] r14_10
def r14_12 : List PO := [⟨(some 2), (Op.assign (Operand.const (Value.bool false))), none⟩]
attribute [go_sem] r14_12
def r14_13 : List PO := [⟨(some 45), (Op.binOp BinOp.add 3 (Operand.tmp 25) (Operand.const (Value.int IntKind.i64 1)) 3), none⟩,
  ⟨(some 25), (Op.move (Operand.tmp 45)), none⟩]
attribute [go_sem] r14_13
def k14_5b : PC := (.seq (.reg r14_9) (.seq (.cond (Operand.tmp 26) .skip (.pre ⟨[1, 13, 14, 15], [.old 0], []⟩ (.exit 2))) (.seq (.block 3 (.seq (.reg r14_10) (.seq (.pre ⟨[1, 3, 5, 6, 13, 14, 15, 23, 24, 25], [.old 0], []⟩ k14_7) (.cond (Operand.tmp 44) (.seq (.reg r14_12) (.pre ⟨[2], [], []⟩ .ret)) .skip)))) (.post (.reg r14_13) ⟨[1, 3, 13, 14, 15, 23, 24, 25], [.old 0], []⟩))))
def r14_4 : List PO := [⟨(some 16), (Op.binOp BinOp.lss 3 (Operand.tmp 15) (Operand.tmp 14) 3), none⟩]
attribute [go_sem] r14_4
def r14_5 : List PO := [⟨(some 17), (Op.move (Operand.tmp 15)), none⟩,
  ⟨(some 18), (Op.indexAddr 22 (Operand.tmp 13) (Operand.tmp 15)), none⟩,
  ⟨(some 19), (Op.load 45 (Operand.tmp 18)), none⟩,
  ⟨(some 3), (Op.assign (Operand.tmp 17)), none⟩,
  ⟨(some 4), (Op.assign (Operand.tmp 19)), none⟩]
attribute [go_sem] r14_5
def r14_6 : List PO := [⟨(some 20), (Op.move (Operand.tmp 4)), none⟩,
  ⟨(some 21), (Op.call { callee := (Callee.builtin Builtin.len), args := #[(Operand.tmp 20)], argTypes := #[45] }), none⟩,
  ⟨(some 22), (Op.binOp BinOp.gtr 3 (Operand.tmp 21) (Operand.const (Value.int IntKind.i64 6)) 3), none⟩]
attribute [go_sem] r14_6
def r14_7 : List PO := [⟨(some 2), (Op.assign (Operand.const (Value.bool false))), none⟩]
attribute [go_sem] r14_7
def r14_8 : List PO := [⟨(some 23), (Op.move (Operand.tmp 4)), none⟩,
  ⟨(some 24), (Op.call { callee := (Callee.builtin Builtin.len), args := #[(Operand.tmp 23)], argTypes := #[45] }), none⟩,
  ⟨(some 25), (Op.move (Operand.const (Value.int IntKind.i64 0))), none⟩]
attribute [go_sem] r14_8
def r14_14 : List PO := [⟨(some 46), (Op.binOp BinOp.add 3 (Operand.tmp 15) (Operand.const (Value.int IntKind.i64 1)) 3), none⟩,
  ⟨(some 15), (Op.move (Operand.tmp 46)), none⟩]
attribute [go_sem] r14_14
def k14_1b : PC := (.seq (.reg r14_4) (.seq (.cond (Operand.tmp 16) .skip (.pre ⟨[], [], []⟩ (.exit 0))) (.seq (.block 1 (.seq (.reg r14_5) (.seq (.seq (.reg r14_6) (.cond (Operand.tmp 22) (.seq (.reg r14_7) (.pre ⟨[2], [], []⟩ .ret)) .skip)) (.seq (.reg r14_8) (.block 2 (.pre ⟨[1, 3, 13, 14, 15, 23, 24, 25], [.old 0], []⟩ (.loop k14_5b))))))) (.post (.reg r14_14) ⟨[1, 13, 14, 15], [.old 0], []⟩))))
def r14_0 : List PO := [⟨(some 1), (Op.box 27 (Operand.tmp 0)), none⟩,
  ⟨(some 2), (Op.assign (Operand.const (Value.bool false))), none⟩]
attribute [go_sem] r14_0
def r14_1 : List PO := [⟨(some 7), (Op.fieldAddr 27 (Operand.tmp 1) 0), none⟩,
  ⟨(some 8), (Op.load 22 (Operand.tmp 7)), none⟩,
  ⟨(some 9), (Op.call { callee := (Callee.builtin Builtin.len), args := #[(Operand.tmp 8)], argTypes := #[22] }), none⟩,
  ⟨(some 10), (Op.call { callee := (Callee.value (Operand.func 47)), args := #[(Operand.tmp 9), (Operand.const (Value.int IntKind.i64 1)), (Operand.const (Value.int IntKind.i64 5))], argTypes := #[3, 3, 3] }), none⟩,
  ⟨(some 11), (Op.unOp UnOp.not 4 (Operand.tmp 10)), none⟩]
attribute [go_sem] r14_1
def r14_2 : List PO := [⟨(some 2), (Op.assign (Operand.const (Value.bool false))), none⟩]
attribute [go_sem] r14_2
def r14_3 : List PO := [⟨(some 12), (Op.fieldAddr 27 (Operand.tmp 1) 0), none⟩,
  ⟨(some 13), (Op.load 22 (Operand.tmp 12)), none⟩,
  ⟨(some 14), (Op.call { callee := (Callee.builtin Builtin.len), args := #[(Operand.tmp 13)], argTypes := #[22] }), none⟩,
  ⟨(some 15), (Op.move (Operand.const (Value.int IntKind.i64 0))), none⟩]
attribute [go_sem] r14_3
def r14_15 : List PO := [⟨(some 2), (Op.assign (Operand.const (Value.bool true))), none⟩]
attribute [go_sem] r14_15
def c14 : PC := (.seq (.reg r14_0) (.seq (.seq (.reg r14_1) (.cond (Operand.tmp 11) (.seq (.reg r14_2) .ret) .skip)) (.seq (.seq (.reg r14_3) (.block 0 (.pre ⟨[1, 13, 14, 15], [.old 0], []⟩ (.loop k14_1b)))) (.seq (.reg r14_15) .ret))))
def i14 : FnI := ⟨47, [(ResultVar.tmp 2)], c14, 0, [[1]], [[0]], false, false, 0, false⟩
-- loop.example/g00344/spec.l10Best
def r58_7 : List PO := [⟨(some 33), (Op.move (Operand.tmp 9)), none⟩,
  ⟨(some 34), (Op.binOp BinOp.geq 3 (Operand.tmp 33) (Operand.const (Value.int IntKind.i64 0)) 3), none⟩,
  ⟨(some 35), (Op.move (Operand.tmp 34)), none⟩,
  ⟨(some 36), (Op.fieldAddr 27 (Operand.tmp 3) 0), (some (35, true))⟩,
  ⟨(some 37), (Op.load 22 (Operand.tmp 36)), (some (35, true))⟩,
  ⟨(some 38), (Op.move (Operand.tmp 8)), (some (35, true))⟩,
  ⟨(some 39), (Op.indexAddr 31 (Operand.tmp 38) (Operand.const (Value.int IntKind.i64 1))), (some (35, true))⟩,
  ⟨(some 40), (Op.load 3 (Operand.tmp 39)), (some (35, true))⟩,
  ⟨(some 41), (Op.binOp BinOp.sub 3 (Operand.tmp 40) (Operand.const (Value.int IntKind.i64 1)) 3), (some (35, true))⟩,
  ⟨(some 42), (Op.indexAddr 22 (Operand.tmp 37) (Operand.tmp 41)), (some (35, true))⟩,
  ⟨(some 43), (Op.load 45 (Operand.tmp 42)), (some (35, true))⟩,
  ⟨(some 44), (Op.move (Operand.tmp 9)), (some (35, true))⟩,
  ⟨(some 45), (Op.indexAddr 45 (Operand.tmp 43) (Operand.tmp 44)), (some (35, true))⟩,
  ⟨(some 46), (Op.load 31 (Operand.tmp 45)), (some (35, true))⟩,
  ⟨(some 47), (Op.move (Operand.tmp 8)), (some (35, true))⟩,
  ⟨(some 48), (Op.slice 31 (Operand.tmp 47) (some (Operand.const (Value.int IntKind.i64 1))) none none), (some (35, true))⟩,
  ⟨(some 49), (Op.call { callee := (Callee.value (Operand.func 79)), args := #[(Operand.tmp 46), (Operand.tmp 48)], argTypes := #[31, 31] }), (some (35, true))⟩,
  ⟨(some 50), (Op.pick (Operand.tmp 35) (Operand.tmp 49) (Operand.const (Value.bool false))), none⟩]
attribute [go_sem] r58_7
def k58_3 : PC := (.post (.fz r58_7) ⟨[1, 3, 7, 15, 16, 17, 50], [.old 0], []⟩)
def r58_2 : List PO := [⟨(some 18), (Op.binOp BinOp.lss 3 (Operand.tmp 17) (Operand.tmp 16) 3), none⟩]
attribute [go_sem] r58_2
def r58_3 : List PO := [⟨(some 19), (Op.move (Operand.tmp 17)), none⟩,
  ⟨(some 20), (Op.indexAddr 45 (Operand.tmp 15) (Operand.tmp 17)), none⟩,
  ⟨(some 21), (Op.load 31 (Operand.tmp 20)), none⟩,
  ⟨(some 7), (Op.assign (Operand.tmp 19)), none⟩,
  ⟨(some 8), (Op.assign (Operand.tmp 21)), none⟩]
attribute [go_sem] r58_3
def r58_4 : List PO := [⟨(some 22), (Op.move (Operand.tmp 8)), none⟩,
  ⟨(some 23), (Op.call { callee := (Callee.builtin Builtin.len), args := #[(Operand.tmp 22)], argTypes := #[31] }), none⟩,
  ⟨(some 24), (Op.binOp BinOp.eql 3 (Operand.tmp 23) (Operand.const (Value.int IntKind.i64 2)) 3), none⟩]
attribute [go_sem] r58_4
def r58_5 : List PO := [⟨(some 25), (Op.move (Operand.tmp 7)), none⟩,
  ⟨(some 6), (Op.assign (Operand.tmp 25)), none⟩]
attribute [go_sem] r58_5
def r58_6 : List PO := [⟨(some 26), (Op.move (Operand.tmp 1)), none⟩,
  ⟨(some 27), (Op.move (Operand.tmp 8)), none⟩,
  ⟨(some 28), (Op.indexAddr 31 (Operand.tmp 27) (Operand.const (Value.int IntKind.i64 1))), none⟩,
  ⟨(some 29), (Op.load 3 (Operand.tmp 28)), none⟩,
  ⟨(some 30), (Op.binOp BinOp.sub 3 (Operand.tmp 29) (Operand.const (Value.int IntKind.i64 1)) 3), none⟩,
  ⟨(some 31), (Op.indexAddr 31 (Operand.tmp 26) (Operand.tmp 30)), none⟩,
  ⟨(some 32), (Op.load 3 (Operand.tmp 31)), none⟩,
  ⟨(some 9), (Op.assign (Operand.tmp 32)), none⟩]
attribute [go_sem] r58_6
def r58_8 : List PO := [⟨(some 51), (Op.move (Operand.tmp 7)), none⟩,
  ⟨(some 6), (Op.assign (Operand.tmp 51)), none⟩]
attribute [go_sem] r58_8
def r58_9 : List PO := [⟨(some 52), (Op.binOp BinOp.add 3 (Operand.tmp 17) (Operand.const (Value.int IntKind.i64 1)) 3), none⟩,
  ⟨(some 17), (Op.move (Operand.tmp 52)), none⟩]
attribute [go_sem] r58_9
def k58_1b : PC := (.seq (.reg r58_2) (.seq (.cond (Operand.tmp 18) .skip (.pre ⟨[], [], []⟩ (.exit 0))) (.seq (.block 1 (.seq (.reg r58_3) (.seq (.seq (.reg r58_4) (.cond (Operand.tmp 24) (.seq (.reg r58_5) (.pre ⟨[6], [], []⟩ .ret)) .skip)) (.seq (.reg r58_6) (.seq (.pre ⟨[1, 3, 7, 8, 9, 15, 16, 17], [.old 0], []⟩ k58_3) (.cond (Operand.tmp 50) (.seq (.reg r58_8) (.pre ⟨[6], [], []⟩ .ret)) .skip)))))) (.post (.reg r58_9) ⟨[1, 3, 15, 16, 17], [.old 0], []⟩))))
def r58_0 : List PO := [⟨(some 3), (Op.box 27 (Operand.tmp 0)), none⟩,
  ⟨(some 6), (Op.assign (Operand.const (Value.int IntKind.i64 0))), none⟩]
attribute [go_sem] r58_0
def r58_1 : List PO := [⟨(some 10), (Op.fieldAddr 27 (Operand.tmp 3) 0), none⟩,
  ⟨(some 11), (Op.load 22 (Operand.tmp 10)), none⟩,
  ⟨(some 12), (Op.move (Operand.tmp 2)), none⟩,
  ⟨(some 13), (Op.binOp BinOp.sub 3 (Operand.tmp 12) (Operand.const (Value.int IntKind.i64 1)) 3), none⟩,
  ⟨(some 14), (Op.indexAddr 22 (Operand.tmp 11) (Operand.tmp 13)), none⟩,
  ⟨(some 15), (Op.load 45 (Operand.tmp 14)), none⟩,
  ⟨(some 16), (Op.call { callee := (Callee.builtin Builtin.len), args := #[(Operand.tmp 15)], argTypes := #[45] }), none⟩,
  ⟨(some 17), (Op.move (Operand.const (Value.int IntKind.i64 0))), none⟩]
attribute [go_sem] r58_1
def r58_10 : List PO := [⟨(some 6), (Op.assign (Operand.const (Value.int IntKind.i64 (-1)))), none⟩]
attribute [go_sem] r58_10
def c58 : PC := (.seq (.reg r58_0) (.seq (.seq (.reg r58_1) (.block 0 (.pre ⟨[1, 3, 15, 16, 17], [.old 0], []⟩ (.loop k58_1b)))) (.seq (.reg r58_10) .ret)))
def i58 : FnI := ⟨53, [(ResultVar.tmp 6)], c58, 0, [[1], [1], [0]], [[0]], false, false, 0, false⟩
-- loop.example/g00344/spec.l10Stable
def r61_2 : List PO := [⟨(some 10), (Op.binOp BinOp.lss 3 (Operand.tmp 9) (Operand.tmp 8) 3), none⟩]
attribute [go_sem] r61_2
def r61_3 : List PO := [⟨(some 11), (Op.move (Operand.tmp 9)), none⟩,
  ⟨(some 12), (Op.indexAddr 31 (Operand.tmp 7) (Operand.tmp 9)), none⟩,
  ⟨(some 13), (Op.load 3 (Operand.tmp 12)), none⟩,
  ⟨(some 5), (Op.assign (Operand.tmp 11)), none⟩,
  ⟨(some 6), (Op.assign (Operand.tmp 13)), none⟩]
attribute [go_sem] r61_3
def r61_4 : List PO := [⟨(some 14), (Op.load 27 (Operand.tmp 2)), none⟩,
  ⟨(some 15), (Op.move (Operand.tmp 1)), none⟩,
  ⟨(some 16), (Op.move (Operand.tmp 5)), none⟩,
  ⟨(some 17), (Op.binOp BinOp.add 3 (Operand.tmp 16) (Operand.const (Value.int IntKind.i64 1)) 3), none⟩,
  ⟨(some 18), (Op.call { callee := (Callee.value (Operand.func 58)), args := #[(Operand.tmp 14), (Operand.tmp 15), (Operand.tmp 17)], argTypes := #[27, 31, 3] }), none⟩,
  ⟨(some 19), (Op.move (Operand.tmp 6)), none⟩,
  ⟨(some 20), (Op.binOp BinOp.neq 3 (Operand.tmp 18) (Operand.tmp 19) 3), none⟩]
attribute [go_sem] r61_4
def r61_5 : List PO := [⟨(some 4), (Op.assign (Operand.const (Value.bool false))), none⟩]
attribute [go_sem] r61_5
def r61_6 : List PO := [⟨(some 21), (Op.binOp BinOp.add 3 (Operand.tmp 9) (Operand.const (Value.int IntKind.i64 1)) 3), none⟩,
  ⟨(some 9), (Op.move (Operand.tmp 21)), none⟩]
attribute [go_sem] r61_6
def k61_1b : PC := (.seq (.reg r61_2) (.seq (.cond (Operand.tmp 10) .skip (.pre ⟨[], [], []⟩ (.exit 0))) (.seq (.block 1 (.seq (.reg r61_3) (.seq (.reg r61_4) (.cond (Operand.tmp 20) (.seq (.reg r61_5) (.pre ⟨[4], [], []⟩ .ret)) .skip)))) (.post (.reg r61_6) ⟨[1, 2, 7, 8, 9], [.old 0], []⟩))))
def r61_0 : List PO := [⟨(some 2), (Op.box 27 (Operand.tmp 0)), none⟩,
  ⟨(some 4), (Op.assign (Operand.const (Value.bool false))), none⟩]
attribute [go_sem] r61_0
def r61_1 : List PO := [⟨(some 7), (Op.move (Operand.tmp 1)), none⟩,
  ⟨(some 8), (Op.call { callee := (Callee.builtin Builtin.len), args := #[(Operand.tmp 7)], argTypes := #[31] }), none⟩,
  ⟨(some 9), (Op.move (Operand.const (Value.int IntKind.i64 0))), none⟩]
attribute [go_sem] r61_1
def r61_7 : List PO := [⟨(some 4), (Op.assign (Operand.const (Value.bool true))), none⟩]
attribute [go_sem] r61_7
def c61 : PC := (.seq (.reg r61_0) (.seq (.seq (.reg r61_1) (.block 0 (.pre ⟨[1, 2, 7, 8, 9], [.old 0], []⟩ (.loop k61_1b)))) (.seq (.reg r61_7) .ret)))
def i61 : FnI := ⟨22, [(ResultVar.tmp 4)], c61, 0, [[1], [1]], [[0]], false, false, 0, false⟩
-- loop.example/g00344/spec.l10Ones
def r73_3 : List PO := [⟨(some 17), (Op.move (Operand.tmp 2)), none⟩,
  ⟨(some 18), (Op.buildSlice 31 0 #[]), none⟩,
  ⟨(some 19), (Op.move (Operand.tmp 1)), none⟩,
  ⟨(some 20), (Op.call { callee := (Callee.builtin Builtin.append), args := #[(Operand.tmp 18), (Operand.tmp 19)], argTypes := #[31, 31] }), none⟩,
  ⟨(some 21), (Op.buildSlice 45 1 #[(0, (Operand.tmp 20))]), none⟩,
  ⟨(some 22), (Op.call { callee := (Callee.builtin Builtin.append), args := #[(Operand.tmp 17), (Operand.tmp 21)], argTypes := #[45, 45] }), none⟩,
  ⟨(some 2), (Op.assign (Operand.tmp 22)), none⟩]
attribute [go_sem] r73_3
def k73_1 : PC := (.cond (Operand.tmp 16) (.post (.reg r73_3) ⟨[2], [.old 7], [0, 1]⟩) (.post .skip ⟨[2], [.old 3], [0, 1]⟩))
def r73_6 : List PO := [⟨(some 24), (Op.move (Operand.tmp 7)), none⟩,
  ⟨(some 25), (Op.fieldAddr 27 (Operand.tmp 3) 0), none⟩,
  ⟨(some 26), (Op.load 22 (Operand.tmp 25)), none⟩,
  ⟨(some 27), (Op.move (Operand.tmp 1)), none⟩,
  ⟨(some 28), (Op.call { callee := (Callee.builtin Builtin.len), args := #[(Operand.tmp 27)], argTypes := #[31] }), none⟩,
  ⟨(some 29), (Op.indexAddr 22 (Operand.tmp 26) (Operand.tmp 28)), none⟩,
  ⟨(some 30), (Op.load 45 (Operand.tmp 29)), none⟩,
  ⟨(some 31), (Op.call { callee := (Callee.builtin Builtin.len), args := #[(Operand.tmp 30)], argTypes := #[45] }), none⟩,
  ⟨(some 32), (Op.binOp BinOp.lss 3 (Operand.tmp 24) (Operand.tmp 31) 3), none⟩]
attribute [go_sem] r73_6
def r73_8 : List PO := [⟨(some 35), (Op.load 27 (Operand.tmp 3)), none⟩,
  ⟨(some 36), (Op.buildSlice 31 0 #[]), none⟩,
  ⟨(some 37), (Op.move (Operand.tmp 1)), none⟩,
  ⟨(some 38), (Op.call { callee := (Callee.builtin Builtin.append), args := #[(Operand.tmp 36), (Operand.tmp 37)], argTypes := #[31, 31] }), none⟩,
  ⟨(some 39), (Op.move (Operand.tmp 7)), none⟩,
  ⟨(some 40), (Op.buildSlice 31 1 #[(0, (Operand.tmp 39))]), none⟩,
  ⟨(some 41), (Op.call { callee := (Callee.builtin Builtin.append), args := #[(Operand.tmp 38), (Operand.tmp 40)], argTypes := #[31, 31] }), none⟩,
  ⟨(some 42), (Op.move (Operand.tmp 2)), none⟩,
  ⟨(some 43), (Op.call { callee := (Callee.value (Operand.func 73)), args := #[(Operand.tmp 35), (Operand.tmp 41), (Operand.tmp 42)], argTypes := #[27, 31, 45] }), none⟩,
  ⟨(some 2), (Op.assign (Operand.tmp 43)), none⟩]
attribute [go_sem] r73_8
def x73_8 : FxI := ⟨[1, 3, 5, 6, 8], [none, some 0, none, none, none, some 1, none, none, none, none], 2, [[], [1], [1, 3], [1, 3, 5], [1, 3, 5, 6], [1, 3, 5, 6, 8], [5], [1, 5]], [(0, 5), (1, 5)], [(0, 1, 1), (0, 2, 2), (0, 3, 3), (0, 4, 4), (0, 6, 6), (0, 7, 7), (1, 6, 7), (3, 7, 3), (5, 0, 6), (5, 1, 7)]⟩
attribute [go_sem] x73_8
def r73_7 : List PO := [⟨(some 33), (Op.move (Operand.tmp 7)), none⟩,
  ⟨(some 34), (Op.binOp BinOp.add 3 (Operand.tmp 33) (Operand.const (Value.int IntKind.i64 1)) 3), none⟩,
  ⟨(some 7), (Op.assign (Operand.tmp 34)), none⟩]
attribute [go_sem] r73_7
def k73_2b : PC := (.seq (.seq (.reg r73_6) (.cond (Operand.tmp 32) .skip (.pre ⟨[2], [.old 3], [0, 1]⟩ (.exit 0)))) (.seq (.block 1 (.fx r73_8 x73_8)) (.post (.reg r73_7) ⟨[1, 2, 3, 7], [.old 2, .old 9, .old 4], [0, 1]⟩)))
def r73_0 : List PO := [⟨(some 3), (Op.box 27 (Operand.tmp 0)), none⟩,
  ⟨(some 6), (Op.assign (Operand.const (Value.slice none 0 0))), none⟩]
attribute [go_sem] r73_0
def r73_1 : List PO := [⟨(some 8), (Op.move (Operand.tmp 1)), none⟩,
  ⟨(some 9), (Op.call { callee := (Callee.builtin Builtin.len), args := #[(Operand.tmp 8)], argTypes := #[31] }), none⟩,
  ⟨(some 10), (Op.fieldAddr 27 (Operand.tmp 3) 0), none⟩,
  ⟨(some 11), (Op.load 22 (Operand.tmp 10)), none⟩,
  ⟨(some 12), (Op.call { callee := (Callee.builtin Builtin.len), args := #[(Operand.tmp 11)], argTypes := #[22] }), none⟩,
  ⟨(some 13), (Op.binOp BinOp.eql 3 (Operand.tmp 9) (Operand.tmp 12) 3), none⟩]
attribute [go_sem] r73_1
def r73_2 : List PO := [⟨(some 14), (Op.load 27 (Operand.tmp 3)), none⟩,
  ⟨(some 15), (Op.move (Operand.tmp 1)), none⟩,
  ⟨(some 16), (Op.call { callee := (Callee.value (Operand.func 61)), args := #[(Operand.tmp 14), (Operand.tmp 15)], argTypes := #[27, 31] }), none⟩]
attribute [go_sem] r73_2
def r73_4 : List PO := [⟨(some 23), (Op.move (Operand.tmp 2)), none⟩,
  ⟨(some 6), (Op.assign (Operand.tmp 23)), none⟩]
attribute [go_sem] r73_4
def r73_5 : List PO := [⟨(some 7), (Op.assign (Operand.const (Value.int IntKind.i64 (-1)))), none⟩]
attribute [go_sem] r73_5
def r73_9 : List PO := [⟨(some 44), (Op.move (Operand.tmp 2)), none⟩,
  ⟨(some 6), (Op.assign (Operand.tmp 44)), none⟩]
attribute [go_sem] r73_9
def c73 : PC := (.seq (.reg r73_0) (.seq (.seq (.reg r73_1) (.cond (Operand.tmp 13) (.seq (.seq (.reg r73_2) (.pre ⟨[1, 2, 16], [.old 0, .old 1], [0, 1]⟩ k73_1)) (.seq (.reg r73_4) (.pre ⟨[6], [.old 2], [0, 1]⟩ .ret))) .skip)) (.seq (.seq (.reg r73_5) (.block 0 (.pre ⟨[1, 2, 3, 7], [.old 0, .old 1, .old 2], [0, 1]⟩ (.loop k73_2b)))) (.seq (.reg r73_9) (.pre ⟨[6], [.old 2], [0, 1]⟩ .ret)))))
def i73 : FnI := ⟨45, [(ResultVar.tmp 6)], c73, 3, [[1], [1], [1]], [[1]], false, true, 2, false⟩
-- loop.example/g00344/spec.StableOnes
def r31_0 : List PO := [⟨(some 1), (Op.box 27 (Operand.tmp 0)), none⟩,
  ⟨(some 2), (Op.assign (Operand.const (Value.slice none 0 0))), none⟩,
  ⟨(some 3), (Op.assign (Operand.const (Value.bool false))), none⟩]
attribute [go_sem] r31_0
def r31_1 : List PO := [⟨(some 4), (Op.load 27 (Operand.tmp 1)), none⟩,
  ⟨(some 5), (Op.call { callee := (Callee.value (Operand.func 14)), args := #[(Operand.tmp 4)], argTypes := #[27] }), none⟩,
  ⟨(some 6), (Op.unOp UnOp.not 4 (Operand.tmp 5)), none⟩]
attribute [go_sem] r31_1
def r31_2 : List PO := [⟨(some 2), (Op.assign (Operand.const (Value.slice none 0 0))), none⟩,
  ⟨(some 3), (Op.assign (Operand.const (Value.bool false))), none⟩]
attribute [go_sem] r31_2
def r31_3 : List PO := [⟨(some 7), (Op.load 27 (Operand.tmp 1)), none⟩,
  ⟨(some 8), (Op.call { callee := (Callee.value (Operand.func 73)), args := #[(Operand.tmp 7), (Operand.const (Value.slice none 0 0)), (Operand.const (Value.slice none 0 0))], argTypes := #[27, 31, 45] }), none⟩,
  ⟨(some 2), (Op.assign (Operand.tmp 8)), none⟩,
  ⟨(some 3), (Op.assign (Operand.const (Value.bool true))), none⟩]
attribute [go_sem] r31_3
def c31 : PC := (.seq (.reg r31_0) (.seq (.seq (.reg r31_1) (.cond (Operand.tmp 6) (.seq (.reg r31_2) .ret) .skip)) (.seq (.reg r31_3) .ret)))
def i31 : FnI := ⟨9, [(ResultVar.tmp 2), (ResultVar.tmp 3)], c31, 0, [[1]], [[1], [0]], false, false, 0, false⟩
-- loop.example/g00344/impl.within
def r51_1 : List PO := [⟨(some 7), (Op.move (Operand.tmp 0)), none⟩,
  ⟨(some 8), (Op.move (Operand.tmp 1)), none⟩,
  ⟨(some 9), (Op.binOp BinOp.geq 3 (Operand.tmp 7) (Operand.tmp 8) 3), none⟩,
  ⟨(some 10), (Op.move (Operand.tmp 9)), none⟩,
  ⟨(some 11), (Op.move (Operand.tmp 0)), (some (10, true))⟩,
  ⟨(some 12), (Op.move (Operand.tmp 2)), (some (10, true))⟩,
  ⟨(some 13), (Op.binOp BinOp.leq 3 (Operand.tmp 11) (Operand.tmp 12) 3), (some (10, true))⟩,
  ⟨(some 14), (Op.pick (Operand.tmp 10) (Operand.tmp 13) (Operand.const (Value.bool false))), none⟩,
  ⟨(some 6), (Op.assign (Operand.tmp 14)), none⟩]
attribute [go_sem] r51_1
def k51_1 : PC := (.post (.reg r51_1) ⟨[6], [], []⟩)
def r51_0 : List PO := [⟨(some 6), (Op.assign (Operand.const (Value.bool false))), none⟩]
attribute [go_sem] r51_0
def c51 : PC := (.seq (.reg r51_0) (.seq (.pre ⟨[0, 1, 2], [], []⟩ k51_1) .ret))
def i51 : FnI := ⟨15, [(ResultVar.tmp 6)], c51, 0, [[0], [0], [0]], [[0]], false, false, 0, false⟩
-- slices.Index[[]int,int]
def r101_2 : List PO := [⟨(some 9), (Op.binOp BinOp.lss 3 (Operand.tmp 8) (Operand.tmp 7) 3), none⟩]
attribute [go_sem] r101_2
def r101_3 : List PO := [⟨(some 10), (Op.move (Operand.tmp 8)), none⟩,
  ⟨(some 5), (Op.assign (Operand.tmp 10)), none⟩]
attribute [go_sem] r101_3
def r101_4 : List PO := [⟨(some 11), (Op.move (Operand.tmp 1)), none⟩,
  ⟨(some 12), (Op.move (Operand.tmp 0)), none⟩,
  ⟨(some 13), (Op.move (Operand.tmp 5)), none⟩,
  ⟨(some 14), (Op.indexAddr 31 (Operand.tmp 12) (Operand.tmp 13)), none⟩,
  ⟨(some 15), (Op.load 3 (Operand.tmp 14)), none⟩,
  ⟨(some 16), (Op.binOp BinOp.eql 3 (Operand.tmp 11) (Operand.tmp 15) 3), none⟩]
attribute [go_sem] r101_4
def r101_5 : List PO := [⟨(some 17), (Op.move (Operand.tmp 5)), none⟩,
  ⟨(some 4), (Op.assign (Operand.tmp 17)), none⟩]
attribute [go_sem] r101_5
def r101_6 : List PO := [⟨(some 18), (Op.binOp BinOp.add 3 (Operand.tmp 8) (Operand.const (Value.int IntKind.i64 1)) 3), none⟩,
  ⟨(some 8), (Op.move (Operand.tmp 18)), none⟩]
attribute [go_sem] r101_6
def k101_1b : PC := (.seq (.reg r101_2) (.seq (.cond (Operand.tmp 9) .skip (.pre ⟨[], [], []⟩ (.exit 0))) (.seq (.block 1 (.seq (.reg r101_3) (.seq (.reg r101_4) (.cond (Operand.tmp 16) (.seq (.reg r101_5) (.pre ⟨[4], [], []⟩ .ret)) .skip)))) (.post (.reg r101_6) ⟨[0, 1, 7, 8], [], []⟩))))
def r101_0 : List PO := [⟨(some 4), (Op.assign (Operand.const (Value.int IntKind.i64 0))), none⟩]
attribute [go_sem] r101_0
def r101_1 : List PO := [⟨(some 6), (Op.move (Operand.tmp 0)), none⟩,
  ⟨(some 7), (Op.call { callee := (Callee.builtin Builtin.len), args := #[(Operand.tmp 6)], argTypes := #[31] }), none⟩,
  ⟨(some 8), (Op.move (Operand.const (Value.int IntKind.i64 0))), none⟩]
attribute [go_sem] r101_1
def r101_7 : List PO := [⟨(some 4), (Op.assign (Operand.const (Value.int IntKind.i64 (-1)))), none⟩]
attribute [go_sem] r101_7
def c101 : PC := (.seq (.reg r101_0) (.seq (.seq (.reg r101_1) (.block 0 (.pre ⟨[0, 1, 7, 8], [], []⟩ (.loop k101_1b)))) (.seq (.reg r101_7) .ret)))
def i101 : FnI := ⟨19, [(ResultVar.tmp 4)], c101, 0, [[1], [0]], [[0]], false, false, 0, false⟩
-- slices.Contains[[]int,int]
def r89_0 : List PO := [⟨(some 4), (Op.assign (Operand.const (Value.bool false))), none⟩]
attribute [go_sem] r89_0
def r89_1 : List PO := [⟨(some 5), (Op.move (Operand.tmp 0)), none⟩,
  ⟨(some 6), (Op.move (Operand.tmp 1)), none⟩,
  ⟨(some 7), (Op.call { callee := (Callee.value (Operand.func 101)), args := #[(Operand.tmp 5), (Operand.tmp 6)], argTypes := #[31, 3] }), none⟩,
  ⟨(some 8), (Op.binOp BinOp.geq 3 (Operand.tmp 7) (Operand.const (Value.int IntKind.i64 0)) 3), none⟩,
  ⟨(some 4), (Op.assign (Operand.tmp 8)), none⟩]
attribute [go_sem] r89_1
def c89 : PC := (.seq (.reg r89_0) (.seq (.reg r89_1) .ret))
def i89 : FnI := ⟨9, [(ResultVar.tmp 4)], c89, 0, [[1], [0]], [[0]], false, false, 0, false⟩
-- slices.IndexFunc[[][]int,[]int]
def r91_2 : List PO := [⟨(some 9), (Op.binOp BinOp.lss 3 (Operand.tmp 8) (Operand.tmp 7) 3), none⟩]
attribute [go_sem] r91_2
def r91_3 : List PO := [⟨(some 10), (Op.move (Operand.tmp 8)), none⟩,
  ⟨(some 5), (Op.assign (Operand.tmp 10)), none⟩]
attribute [go_sem] r91_3
def r91_4 : List PO := [⟨(some 11), (Op.move (Operand.tmp 1)), none⟩,
  ⟨(some 12), (Op.move (Operand.tmp 0)), none⟩,
  ⟨(some 13), (Op.move (Operand.tmp 5)), none⟩,
  ⟨(some 14), (Op.indexAddr 45 (Operand.tmp 12) (Operand.tmp 13)), none⟩,
  ⟨(some 15), (Op.load 31 (Operand.tmp 14)), none⟩,
  ⟨(some 16), (Op.call { callee := (Callee.value (Operand.tmp 11)), args := #[(Operand.tmp 15)], argTypes := #[31] }), none⟩]
attribute [go_sem] r91_4
def r91_5 : List PO := [⟨(some 17), (Op.move (Operand.tmp 5)), none⟩,
  ⟨(some 4), (Op.assign (Operand.tmp 17)), none⟩]
attribute [go_sem] r91_5
def r91_6 : List PO := [⟨(some 18), (Op.binOp BinOp.add 3 (Operand.tmp 8) (Operand.const (Value.int IntKind.i64 1)) 3), none⟩,
  ⟨(some 8), (Op.move (Operand.tmp 18)), none⟩]
attribute [go_sem] r91_6
def k91_1b : PC := (.seq (.reg r91_2) (.seq (.cond (Operand.tmp 9) .skip (.pre ⟨[], [], []⟩ (.exit 0))) (.seq (.block 1 (.seq (.reg r91_3) (.seq (.reg r91_4) (.cond (Operand.tmp 16) (.seq (.reg r91_5) (.pre ⟨[4], [], []⟩ .ret)) .skip)))) (.post (.reg r91_6) ⟨[0, 1, 7, 8], [], []⟩))))
def r91_0 : List PO := [⟨(some 4), (Op.assign (Operand.const (Value.int IntKind.i64 0))), none⟩]
attribute [go_sem] r91_0
def r91_1 : List PO := [⟨(some 6), (Op.move (Operand.tmp 0)), none⟩,
  ⟨(some 7), (Op.call { callee := (Callee.builtin Builtin.len), args := #[(Operand.tmp 6)], argTypes := #[45] }), none⟩,
  ⟨(some 8), (Op.move (Operand.const (Value.int IntKind.i64 0))), none⟩]
attribute [go_sem] r91_1
def r91_7 : List PO := [⟨(some 4), (Op.assign (Operand.const (Value.int IntKind.i64 (-1)))), none⟩]
attribute [go_sem] r91_7
def c91 : PC := (.seq (.reg r91_0) (.seq (.seq (.reg r91_1) (.block 0 (.pre ⟨[0, 1, 7, 8], [], []⟩ (.loop k91_1b)))) (.seq (.reg r91_7) .ret)))
def i91 : FnI := ⟨19, [(ResultVar.tmp 4)], c91, 0, [[1], [0]], [[0]], false, false, 0, false⟩
-- slices.ContainsFunc[[][]int,[]int]
def r53_0 : List PO := [⟨(some 4), (Op.assign (Operand.const (Value.bool false))), none⟩]
attribute [go_sem] r53_0
def r53_1 : List PO := [⟨(some 5), (Op.move (Operand.tmp 0)), none⟩,
  ⟨(some 6), (Op.move (Operand.tmp 1)), none⟩,
  ⟨(some 7), (Op.call { callee := (Callee.value (Operand.func 91)), args := #[(Operand.tmp 5), (Operand.tmp 6)], argTypes := #[45, 65] }), none⟩,
  ⟨(some 8), (Op.binOp BinOp.geq 3 (Operand.tmp 7) (Operand.const (Value.int IntKind.i64 0)) 3), none⟩,
  ⟨(some 4), (Op.assign (Operand.tmp 8)), none⟩]
attribute [go_sem] r53_1
def c53 : PC := (.seq (.reg r53_0) (.seq (.reg r53_1) .ret))
def i53 : FnI := ⟨9, [(ResultVar.tmp 4)], c53, 0, [[1], [0]], [[0]], false, false, 0, false⟩
-- slices.Equal[[]int,int]
def r55_4 : List PO := [⟨(some 14), (Op.binOp BinOp.lss 3 (Operand.tmp 13) (Operand.tmp 12) 3), none⟩]
attribute [go_sem] r55_4
def r55_5 : List PO := [⟨(some 15), (Op.move (Operand.tmp 13)), none⟩,
  ⟨(some 5), (Op.assign (Operand.tmp 15)), none⟩]
attribute [go_sem] r55_5
def r55_6 : List PO := [⟨(some 16), (Op.move (Operand.tmp 0)), none⟩,
  ⟨(some 17), (Op.move (Operand.tmp 5)), none⟩,
  ⟨(some 18), (Op.indexAddr 31 (Operand.tmp 16) (Operand.tmp 17)), none⟩,
  ⟨(some 19), (Op.load 3 (Operand.tmp 18)), none⟩,
  ⟨(some 20), (Op.move (Operand.tmp 1)), none⟩,
  ⟨(some 21), (Op.move (Operand.tmp 5)), none⟩,
  ⟨(some 22), (Op.indexAddr 31 (Operand.tmp 20) (Operand.tmp 21)), none⟩,
  ⟨(some 23), (Op.load 3 (Operand.tmp 22)), none⟩,
  ⟨(some 24), (Op.binOp BinOp.neq 3 (Operand.tmp 19) (Operand.tmp 23) 3), none⟩]
attribute [go_sem] r55_6
def r55_7 : List PO := [⟨(some 4), (Op.assign (Operand.const (Value.bool false))), none⟩]
attribute [go_sem] r55_7
def r55_8 : List PO := [⟨(some 25), (Op.binOp BinOp.add 3 (Operand.tmp 13) (Operand.const (Value.int IntKind.i64 1)) 3), none⟩,
  ⟨(some 13), (Op.move (Operand.tmp 25)), none⟩]
attribute [go_sem] r55_8
def k55_1b : PC := (.seq (.reg r55_4) (.seq (.cond (Operand.tmp 14) .skip (.pre ⟨[], [], []⟩ (.exit 0))) (.seq (.block 1 (.seq (.reg r55_5) (.seq (.fz r55_6) (.cond (Operand.tmp 24) (.seq (.reg r55_7) (.pre ⟨[4], [], []⟩ .ret)) .skip)))) (.post (.reg r55_8) ⟨[0, 1, 12, 13], [], []⟩))))
def r55_0 : List PO := [⟨(some 4), (Op.assign (Operand.const (Value.bool false))), none⟩]
attribute [go_sem] r55_0
def r55_1 : List PO := [⟨(some 6), (Op.move (Operand.tmp 0)), none⟩,
  ⟨(some 7), (Op.call { callee := (Callee.builtin Builtin.len), args := #[(Operand.tmp 6)], argTypes := #[31] }), none⟩,
  ⟨(some 8), (Op.move (Operand.tmp 1)), none⟩,
  ⟨(some 9), (Op.call { callee := (Callee.builtin Builtin.len), args := #[(Operand.tmp 8)], argTypes := #[31] }), none⟩,
  ⟨(some 10), (Op.binOp BinOp.neq 3 (Operand.tmp 7) (Operand.tmp 9) 3), none⟩]
attribute [go_sem] r55_1
def r55_2 : List PO := [⟨(some 4), (Op.assign (Operand.const (Value.bool false))), none⟩]
attribute [go_sem] r55_2
def r55_3 : List PO := [⟨(some 11), (Op.move (Operand.tmp 0)), none⟩,
  ⟨(some 12), (Op.call { callee := (Callee.builtin Builtin.len), args := #[(Operand.tmp 11)], argTypes := #[31] }), none⟩,
  ⟨(some 13), (Op.move (Operand.const (Value.int IntKind.i64 0))), none⟩]
attribute [go_sem] r55_3
def r55_9 : List PO := [⟨(some 4), (Op.assign (Operand.const (Value.bool true))), none⟩]
attribute [go_sem] r55_9
def c55 : PC := (.seq (.reg r55_0) (.seq (.seq (.reg r55_1) (.cond (Operand.tmp 10) (.seq (.reg r55_2) .ret) .skip)) (.seq (.seq (.reg r55_3) (.block 0 (.pre ⟨[0, 1, 12, 13], [], []⟩ (.loop k55_1b)))) (.seq (.reg r55_9) .ret))))
def i55 : FnI := ⟨26, [(ResultVar.tmp 4)], c55, 0, [[1], [1]], [[0]], false, false, 0, false⟩
-- loop.example/g00344/impl.isWay$1
def r90_0 : List PO := [⟨(some 3), (Op.assign (Operand.const (Value.bool false))), none⟩]
attribute [go_sem] r90_0
def r90_1 : List PO := [⟨(some 4), (Op.move (Operand.tmp 0)), none⟩,
  ⟨(some 5), (Op.load 31 (Operand.tmp 1)), none⟩,
  ⟨(some 6), (Op.slice 31 (Operand.tmp 5) (some (Operand.const (Value.int IntKind.i64 1))) none none), none⟩,
  ⟨(some 7), (Op.call { callee := (Callee.value (Operand.func 55)), args := #[(Operand.tmp 4), (Operand.tmp 6)], argTypes := #[31, 31] }), none⟩,
  ⟨(some 3), (Op.assign (Operand.tmp 7)), none⟩]
attribute [go_sem] r90_1
def c90 : PC := (.seq (.reg r90_0) (.seq (.reg r90_1) .ret))
def i90 : FnI := ⟨8, [(ResultVar.tmp 3)], c90, 0, [[1], [0]], [[0]], false, false, 0, false⟩
-- loop.example/g00344/impl.isWay
def r52_2 : List PO := [⟨(some 13), (Op.move (Operand.tmp 7)), none⟩,
  ⟨(some 14), (Op.binOp BinOp.lss 3 (Operand.tmp 13) (Operand.const (Value.int IntKind.i64 1)) 3), none⟩,
  ⟨(some 15), (Op.move (Operand.tmp 14)), none⟩,
  ⟨(some 16), (Op.load 31 (Operand.tmp 5)), (some (15, false))⟩,
  ⟨(some 17), (Op.indexAddr 31 (Operand.tmp 16) (Operand.const (Value.int IntKind.i64 0))), (some (15, false))⟩,
  ⟨(some 18), (Op.load 3 (Operand.tmp 17)), (some (15, false))⟩,
  ⟨(some 19), (Op.move (Operand.tmp 1)), (some (15, false))⟩,
  ⟨(some 20), (Op.binOp BinOp.neq 3 (Operand.tmp 18) (Operand.tmp 19) 3), (some (15, false))⟩,
  ⟨(some 21), (Op.pick (Operand.tmp 15) (Operand.const (Value.bool true)) (Operand.tmp 20)), none⟩,
  ⟨(some 22), (Op.move (Operand.tmp 21)), none⟩,
  ⟨(some 23), (Op.load 31 (Operand.tmp 5)), (some (22, false))⟩,
  ⟨(some 24), (Op.move (Operand.tmp 7)), (some (22, false))⟩,
  ⟨(some 25), (Op.indexAddr 31 (Operand.tmp 23) (Operand.tmp 24)), (some (22, false))⟩,
  ⟨(some 26), (Op.load 3 (Operand.tmp 25)), (some (22, false))⟩,
  ⟨(some 27), (Op.binOp BinOp.neq 3 (Operand.tmp 26) (Operand.const (Value.int IntKind.i64 0)) 3), (some (22, false))⟩,
  ⟨(some 28), (Op.pick (Operand.tmp 22) (Operand.const (Value.bool true)) (Operand.tmp 27)), none⟩]
attribute [go_sem] r52_2
def k52_1 : PC := (.post (.reg r52_2) ⟨[3, 5, 7, 28], [.old 0, .old 1], []⟩)
def r52_7 : List PO := [⟨(some 36), (Op.move (Operand.tmp 8)), none⟩,
  ⟨(some 37), (Op.move (Operand.tmp 7)), none⟩,
  ⟨(some 38), (Op.binOp BinOp.lss 3 (Operand.tmp 36) (Operand.tmp 37) 3), none⟩,
  ⟨(some 39), (Op.move (Operand.tmp 38)), none⟩,
  ⟨(some 40), (Op.move (Operand.tmp 9)), (some (39, true))⟩,
  ⟨(some 41), (Op.fieldAddr 27 (Operand.tmp 3) 0), (some (39, true))⟩,
  ⟨(some 42), (Op.load 22 (Operand.tmp 41)), (some (39, true))⟩,
  ⟨(some 43), (Op.call { callee := (Callee.builtin Builtin.len), args := #[(Operand.tmp 42)], argTypes := #[22] }), (some (39, true))⟩,
  ⟨(some 44), (Op.call { callee := (Callee.value (Operand.func 51)), args := #[(Operand.tmp 40), (Operand.const (Value.int IntKind.i64 1)), (Operand.tmp 43)], argTypes := #[3, 3, 3] }), (some (39, true))⟩,
  ⟨(some 45), (Op.unOp UnOp.not 4 (Operand.tmp 44)), (some (39, true))⟩,
  ⟨(some 46), (Op.pick (Operand.tmp 39) (Operand.tmp 45) (Operand.const (Value.bool false))), none⟩,
  ⟨(some 47), (Op.move (Operand.tmp 46)), none⟩,
  ⟨(some 48), (Op.load 31 (Operand.tmp 5)), (some (47, false))⟩,
  ⟨(some 49), (Op.move (Operand.tmp 8)), (some (47, false))⟩,
  ⟨(some 50), (Op.slice 31 (Operand.tmp 48) none (some (Operand.tmp 49)) none), (some (47, false))⟩,
  ⟨(some 51), (Op.move (Operand.tmp 9)), (some (47, false))⟩,
  ⟨(some 52), (Op.call { callee := (Callee.value (Operand.func 89)), args := #[(Operand.tmp 50), (Operand.tmp 51)], argTypes := #[31, 3] }), (some (47, false))⟩,
  ⟨(some 53), (Op.pick (Operand.tmp 47) (Operand.const (Value.bool true)) (Operand.tmp 52)), none⟩]
attribute [go_sem] r52_7
def k52_4 : PC := (.post (.reg r52_7) ⟨[3, 5, 7, 29, 30, 31, 53], [.old 0, .old 1], []⟩)
def r52_5 : List PO := [⟨(some 32), (Op.binOp BinOp.lss 3 (Operand.tmp 31) (Operand.tmp 30) 3), none⟩]
attribute [go_sem] r52_5
def r52_6 : List PO := [⟨(some 33), (Op.move (Operand.tmp 31)), none⟩,
  ⟨(some 34), (Op.indexAddr 31 (Operand.tmp 29) (Operand.tmp 31)), none⟩,
  ⟨(some 35), (Op.load 3 (Operand.tmp 34)), none⟩,
  ⟨(some 8), (Op.assign (Operand.tmp 33)), none⟩,
  ⟨(some 9), (Op.assign (Operand.tmp 35)), none⟩]
attribute [go_sem] r52_6
def r52_8 : List PO := [⟨(some 6), (Op.assign (Operand.const (Value.bool false))), none⟩]
attribute [go_sem] r52_8
def r52_9 : List PO := [⟨(some 54), (Op.binOp BinOp.add 3 (Operand.tmp 31) (Operand.const (Value.int IntKind.i64 1)) 3), none⟩,
  ⟨(some 31), (Op.move (Operand.tmp 54)), none⟩]
attribute [go_sem] r52_9
def k52_2b : PC := (.seq (.reg r52_5) (.seq (.cond (Operand.tmp 32) .skip (.pre ⟨[3, 5, 7], [.old 0, .old 1], []⟩ (.exit 0))) (.seq (.block 1 (.seq (.reg r52_6) (.seq (.pre ⟨[3, 5, 7, 8, 9, 29, 30, 31], [.old 0, .old 1], []⟩ k52_4) (.cond (Operand.tmp 53) (.seq (.reg r52_8) (.pre ⟨[6], [], []⟩ .ret)) .skip)))) (.post (.reg r52_9) ⟨[3, 5, 7, 29, 30, 31], [.old 0, .old 1], []⟩))))
def r52_10 : List PO := [⟨(some 55), (Op.move (Operand.tmp 7)), none⟩,
  ⟨(some 56), (Op.binOp BinOp.eql 3 (Operand.tmp 55) (Operand.const (Value.int IntKind.i64 1)) 3), none⟩,
  ⟨(some 57), (Op.move (Operand.tmp 56)), none⟩,
  ⟨(some 58), (Op.fieldAddr 27 (Operand.tmp 3) 0), (some (57, false))⟩,
  ⟨(some 59), (Op.load 22 (Operand.tmp 58)), (some (57, false))⟩,
  ⟨(some 60), (Op.load 31 (Operand.tmp 5)), (some (57, false))⟩,
  ⟨(some 61), (Op.indexAddr 31 (Operand.tmp 60) (Operand.const (Value.int IntKind.i64 1))), (some (57, false))⟩,
  ⟨(some 62), (Op.load 3 (Operand.tmp 61)), (some (57, false))⟩,
  ⟨(some 63), (Op.binOp BinOp.sub 3 (Operand.tmp 62) (Operand.const (Value.int IntKind.i64 1)) 3), (some (57, false))⟩,
  ⟨(some 64), (Op.indexAddr 22 (Operand.tmp 59) (Operand.tmp 63)), (some (57, false))⟩,
  ⟨(some 65), (Op.load 45 (Operand.tmp 64)), (some (57, false))⟩,
  ⟨(some 66), (Op.makeFunc (Fn.func 90) #[] #[(Operand.tmp 5)]), (some (57, false))⟩,
  ⟨(some 67), (Op.call { callee := (Callee.value (Operand.func 53)), args := #[(Operand.tmp 65), (Operand.tmp 66)], argTypes := #[45, 65] }), (some (57, false))⟩,
  ⟨(some 68), (Op.pick (Operand.tmp 57) (Operand.const (Value.bool true)) (Operand.tmp 67)), none⟩,
  ⟨(some 6), (Op.assign (Operand.tmp 68)), none⟩]
attribute [go_sem] r52_10
def k52_5 : PC := (.post (.fz r52_10) ⟨[6], [], []⟩)
def r52_0 : List PO := [⟨(some 3), (Op.box 27 (Operand.tmp 0)), none⟩,
  ⟨(some 5), (Op.box 31 (Operand.tmp 2)), none⟩,
  ⟨(some 6), (Op.assign (Operand.const (Value.bool false))), none⟩]
attribute [go_sem] r52_0
def r52_1 : List PO := [⟨(some 10), (Op.load 31 (Operand.tmp 5)), none⟩,
  ⟨(some 11), (Op.call { callee := (Callee.builtin Builtin.len), args := #[(Operand.tmp 10)], argTypes := #[31] }), none⟩,
  ⟨(some 12), (Op.binOp BinOp.sub 3 (Operand.tmp 11) (Operand.const (Value.int IntKind.i64 1)) 3), none⟩,
  ⟨(some 7), (Op.assign (Operand.tmp 12)), none⟩]
attribute [go_sem] r52_1
def r52_3 : List PO := [⟨(some 6), (Op.assign (Operand.const (Value.bool false))), none⟩]
attribute [go_sem] r52_3
def r52_4 : List PO := [⟨(some 29), (Op.load 31 (Operand.tmp 5)), none⟩,
  ⟨(some 30), (Op.call { callee := (Callee.builtin Builtin.len), args := #[(Operand.tmp 29)], argTypes := #[31] }), none⟩,
  ⟨(some 31), (Op.move (Operand.const (Value.int IntKind.i64 0))), none⟩]
attribute [go_sem] r52_4
def c52 : PC := (.seq (.reg r52_0) (.seq (.reg r52_1) (.seq (.seq (.pre ⟨[1, 3, 5, 7], [.old 0, .old 1], []⟩ k52_1) (.cond (Operand.tmp 28) (.seq (.reg r52_3) .ret) .skip)) (.seq (.seq (.reg r52_4) (.block 0 (.pre ⟨[3, 5, 7, 29, 30, 31], [.old 0, .old 1], []⟩ (.loop k52_2b)))) (.seq (.pre ⟨[3, 5, 7], [.old 0, .old 1], []⟩ k52_5) .ret)))))
def i52 : FnI := ⟨69, [(ResultVar.tmp 6)], c52, 0, [[1], [0], [1]], [[0]], false, false, 0, false⟩
-- loop.example/g00344/impl.GoodSpp$1
def r54_0 : List PO := [⟨(some 3), (Op.assign (Operand.const (Value.bool false))), none⟩]
attribute [go_sem] r54_0
def r54_1 : List PO := [⟨(some 4), (Op.move (Operand.tmp 0)), none⟩,
  ⟨(some 5), (Op.load 31 (Operand.tmp 1)), none⟩,
  ⟨(some 6), (Op.call { callee := (Callee.value (Operand.func 55)), args := #[(Operand.tmp 4), (Operand.tmp 5)], argTypes := #[31, 31] }), none⟩,
  ⟨(some 3), (Op.assign (Operand.tmp 6)), none⟩]
attribute [go_sem] r54_1
def c54 : PC := (.seq (.reg r54_0) (.seq (.reg r54_1) .ret))
def i54 : FnI := ⟨7, [(ResultVar.tmp 3)], c54, 0, [[1], [0]], [[0]], false, false, 0, false⟩
-- loop.example/g00344/impl.GoodSpp
def r16_11 : List PO := [⟨(some 30), (Op.load 31 (Operand.tmp 6)), none⟩,
  ⟨(some 31), (Op.call { callee := (Callee.builtin Builtin.len), args := #[(Operand.tmp 30)], argTypes := #[31] }), none⟩,
  ⟨(some 32), (Op.binOp BinOp.gtr 3 (Operand.tmp 31) (Operand.const (Value.int IntKind.i64 6)) 3), none⟩,
  ⟨(some 33), (Op.move (Operand.tmp 32)), none⟩,
  ⟨(some 34), (Op.load 27 (Operand.tmp 1)), (some (33, false))⟩,
  ⟨(some 35), (Op.move (Operand.tmp 3)), (some (33, false))⟩,
  ⟨(some 36), (Op.binOp BinOp.add 3 (Operand.tmp 35) (Operand.const (Value.int IntKind.i64 1)) 3), (some (33, false))⟩,
  ⟨(some 37), (Op.load 31 (Operand.tmp 6)), (some (33, false))⟩,
  ⟨(some 38), (Op.call { callee := (Callee.value (Operand.func 52)), args := #[(Operand.tmp 34), (Operand.tmp 36), (Operand.tmp 37)], argTypes := #[27, 3, 31] }), (some (33, false))⟩,
  ⟨(some 39), (Op.unOp UnOp.not 4 (Operand.tmp 38)), (some (33, false))⟩,
  ⟨(some 40), (Op.pick (Operand.tmp 33) (Operand.const (Value.bool true)) (Operand.tmp 39)), none⟩,
  ⟨(some 41), (Op.move (Operand.tmp 40)), none⟩,
  ⟨(some 42), (Op.move (Operand.tmp 4)), (some (41, false))⟩,
  ⟨(some 43), (Op.move (Operand.tmp 5)), (some (41, false))⟩,
  ⟨(some 44), (Op.slice 45 (Operand.tmp 42) none (some (Operand.tmp 43)) none), (some (41, false))⟩,
  ⟨(some 45), (Op.makeFunc (Fn.func 54) #[] #[(Operand.tmp 6)]), (some (41, false))⟩,
  ⟨(some 46), (Op.call { callee := (Callee.value (Operand.func 53)), args := #[(Operand.tmp 44), (Operand.tmp 45)], argTypes := #[45, 65] }), (some (41, false))⟩,
  ⟨(some 47), (Op.pick (Operand.tmp 41) (Operand.const (Value.bool true)) (Operand.tmp 46)), none⟩]
attribute [go_sem] r16_11
def k16_7 : PC := (.post (.reg r16_11) ⟨[1, 3, 4, 13, 14, 15, 23, 24, 25, 47], [.old 0], []⟩)
def r16_9 : List PO := [⟨(some 26), (Op.binOp BinOp.lss 3 (Operand.tmp 25) (Operand.tmp 24) 3), none⟩]
attribute [go_sem] r16_9
def r16_10 : List PO := [⟨(some 27), (Op.move (Operand.tmp 25)), none⟩,
  ⟨(some 28), (Op.indexAddr 45 (Operand.tmp 23) (Operand.tmp 25)), none⟩,
  ⟨(some 29), (Op.load 31 (Operand.tmp 28)), none⟩,
  ⟨(some 6), (Op.alloc 31), none⟩,
  ⟨(some 5), (Op.assign (Operand.tmp 27)), none⟩,
  ⟨none, (Op.store 31 (Operand.tmp 6) (Operand.tmp 29)), none⟩]
attribute [go_sem] r16_10
def r16_12 : List PO := [⟨(some 2), (Op.assign (Operand.const (Value.bool false))), none⟩]
attribute [go_sem] r16_12
def r16_13 : List PO := [⟨(some 48), (Op.binOp BinOp.add 3 (Operand.tmp 25) (Operand.const (Value.int IntKind.i64 1)) 3), none⟩,
  ⟨(some 25), (Op.move (Operand.tmp 48)), none⟩]
attribute [go_sem] r16_13
def k16_5b : PC := (.seq (.reg r16_9) (.seq (.cond (Operand.tmp 26) .skip (.pre ⟨[1, 13, 14, 15], [.old 0], []⟩ (.exit 2))) (.seq (.block 3 (.seq (.reg r16_10) (.seq (.pre ⟨[1, 3, 4, 5, 6, 13, 14, 15, 23, 24, 25], [.old 0, .old 1], []⟩ k16_7) (.cond (Operand.tmp 47) (.seq (.reg r16_12) (.pre ⟨[2], [], []⟩ .ret)) .skip)))) (.post (.reg r16_13) ⟨[1, 3, 4, 13, 14, 15, 23, 24, 25], [.old 0], []⟩))))
def r16_4 : List PO := [⟨(some 16), (Op.binOp BinOp.lss 3 (Operand.tmp 15) (Operand.tmp 14) 3), none⟩]
attribute [go_sem] r16_4
def r16_5 : List PO := [⟨(some 17), (Op.move (Operand.tmp 15)), none⟩,
  ⟨(some 18), (Op.indexAddr 22 (Operand.tmp 13) (Operand.tmp 15)), none⟩,
  ⟨(some 19), (Op.load 45 (Operand.tmp 18)), none⟩,
  ⟨(some 3), (Op.assign (Operand.tmp 17)), none⟩,
  ⟨(some 4), (Op.assign (Operand.tmp 19)), none⟩]
attribute [go_sem] r16_5
def r16_6 : List PO := [⟨(some 20), (Op.move (Operand.tmp 4)), none⟩,
  ⟨(some 21), (Op.call { callee := (Callee.builtin Builtin.len), args := #[(Operand.tmp 20)], argTypes := #[45] }), none⟩,
  ⟨(some 22), (Op.binOp BinOp.gtr 3 (Operand.tmp 21) (Operand.const (Value.int IntKind.i64 6)) 3), none⟩]
attribute [go_sem] r16_6
def r16_7 : List PO := [⟨(some 2), (Op.assign (Operand.const (Value.bool false))), none⟩]
attribute [go_sem] r16_7
def r16_8 : List PO := [⟨(some 23), (Op.move (Operand.tmp 4)), none⟩,
  ⟨(some 24), (Op.call { callee := (Callee.builtin Builtin.len), args := #[(Operand.tmp 23)], argTypes := #[45] }), none⟩,
  ⟨(some 25), (Op.move (Operand.const (Value.int IntKind.i64 0))), none⟩]
attribute [go_sem] r16_8
def r16_14 : List PO := [⟨(some 49), (Op.binOp BinOp.add 3 (Operand.tmp 15) (Operand.const (Value.int IntKind.i64 1)) 3), none⟩,
  ⟨(some 15), (Op.move (Operand.tmp 49)), none⟩]
attribute [go_sem] r16_14
def k16_1b : PC := (.seq (.reg r16_4) (.seq (.cond (Operand.tmp 16) .skip (.pre ⟨[], [], []⟩ (.exit 0))) (.seq (.block 1 (.seq (.reg r16_5) (.seq (.seq (.reg r16_6) (.cond (Operand.tmp 22) (.seq (.reg r16_7) (.pre ⟨[2], [], []⟩ .ret)) .skip)) (.seq (.reg r16_8) (.block 2 (.pre ⟨[1, 3, 4, 13, 14, 15, 23, 24, 25], [.old 0], []⟩ (.loop k16_5b))))))) (.post (.reg r16_14) ⟨[1, 13, 14, 15], [.old 0], []⟩))))
def r16_0 : List PO := [⟨(some 1), (Op.box 27 (Operand.tmp 0)), none⟩,
  ⟨(some 2), (Op.assign (Operand.const (Value.bool false))), none⟩]
attribute [go_sem] r16_0
def r16_1 : List PO := [⟨(some 7), (Op.fieldAddr 27 (Operand.tmp 1) 0), none⟩,
  ⟨(some 8), (Op.load 22 (Operand.tmp 7)), none⟩,
  ⟨(some 9), (Op.call { callee := (Callee.builtin Builtin.len), args := #[(Operand.tmp 8)], argTypes := #[22] }), none⟩,
  ⟨(some 10), (Op.call { callee := (Callee.value (Operand.func 51)), args := #[(Operand.tmp 9), (Operand.const (Value.int IntKind.i64 1)), (Operand.const (Value.int IntKind.i64 5))], argTypes := #[3, 3, 3] }), none⟩,
  ⟨(some 11), (Op.unOp UnOp.not 4 (Operand.tmp 10)), none⟩]
attribute [go_sem] r16_1
def r16_2 : List PO := [⟨(some 2), (Op.assign (Operand.const (Value.bool false))), none⟩]
attribute [go_sem] r16_2
def r16_3 : List PO := [⟨(some 12), (Op.fieldAddr 27 (Operand.tmp 1) 0), none⟩,
  ⟨(some 13), (Op.load 22 (Operand.tmp 12)), none⟩,
  ⟨(some 14), (Op.call { callee := (Callee.builtin Builtin.len), args := #[(Operand.tmp 13)], argTypes := #[22] }), none⟩,
  ⟨(some 15), (Op.move (Operand.const (Value.int IntKind.i64 0))), none⟩]
attribute [go_sem] r16_3
def r16_15 : List PO := [⟨(some 2), (Op.assign (Operand.const (Value.bool true))), none⟩]
attribute [go_sem] r16_15
def c16 : PC := (.seq (.reg r16_0) (.seq (.seq (.reg r16_1) (.cond (Operand.tmp 11) (.seq (.reg r16_2) .ret) .skip)) (.seq (.seq (.reg r16_3) (.block 0 (.pre ⟨[1, 13, 14, 15], [.old 0], []⟩ (.loop k16_1b)))) (.seq (.reg r16_15) .ret))))
def i16 : FnI := ⟨50, [(ResultVar.tmp 2)], c16, 0, [[1]], [[0]], false, false, 0, false⟩
-- loop.example/g00344/impl.bestFor$1
def r92_4 : List PO := [⟨(some 13), (Op.load 31 (Operand.tmp 1)), none⟩,
  ⟨(some 14), (Op.move (Operand.tmp 5)), none⟩,
  ⟨(some 15), (Op.indexAddr 31 (Operand.tmp 13) (Operand.tmp 14)), none⟩,
  ⟨(some 16), (Op.load 3 (Operand.tmp 15)), none⟩,
  ⟨(some 17), (Op.binOp BinOp.geq 3 (Operand.tmp 16) (Operand.const (Value.int IntKind.i64 0)) 3), none⟩,
  ⟨(some 18), (Op.move (Operand.tmp 17)), none⟩,
  ⟨(some 19), (Op.fieldAddr 27 (Operand.tmp 2) 0), (some (18, true))⟩,
  ⟨(some 20), (Op.load 22 (Operand.tmp 19)), (some (18, true))⟩,
  ⟨(some 21), (Op.move (Operand.tmp 5)), (some (18, true))⟩,
  ⟨(some 22), (Op.indexAddr 22 (Operand.tmp 20) (Operand.tmp 21)), (some (18, true))⟩,
  ⟨(some 23), (Op.load 45 (Operand.tmp 22)), (some (18, true))⟩,
  ⟨(some 24), (Op.load 31 (Operand.tmp 1)), (some (18, true))⟩,
  ⟨(some 25), (Op.move (Operand.tmp 5)), (some (18, true))⟩,
  ⟨(some 26), (Op.indexAddr 31 (Operand.tmp 24) (Operand.tmp 25)), (some (18, true))⟩,
  ⟨(some 27), (Op.load 3 (Operand.tmp 26)), (some (18, true))⟩,
  ⟨(some 28), (Op.indexAddr 45 (Operand.tmp 23) (Operand.tmp 27)), (some (18, true))⟩,
  ⟨(some 29), (Op.load 31 (Operand.tmp 28)), (some (18, true))⟩,
  ⟨(some 30), (Op.move (Operand.tmp 0)), (some (18, true))⟩,
  ⟨(some 31), (Op.slice 31 (Operand.tmp 30) (some (Operand.const (Value.int IntKind.i64 1))) none none), (some (18, true))⟩,
  ⟨(some 32), (Op.call { callee := (Callee.value (Operand.func 55)), args := #[(Operand.tmp 29), (Operand.tmp 31)], argTypes := #[31, 31] }), (some (18, true))⟩,
  ⟨(some 33), (Op.pick (Operand.tmp 18) (Operand.tmp 32) (Operand.const (Value.bool false))), none⟩,
  ⟨(some 4), (Op.assign (Operand.tmp 33)), none⟩]
attribute [go_sem] r92_4
def k92_1 : PC := (.post (.fz r92_4) ⟨[4], [], []⟩)
def r92_0 : List PO := [⟨(some 4), (Op.assign (Operand.const (Value.bool false))), none⟩]
attribute [go_sem] r92_0
def r92_1 : List PO := [⟨(some 6), (Op.move (Operand.tmp 0)), none⟩,
  ⟨(some 7), (Op.call { callee := (Callee.builtin Builtin.len), args := #[(Operand.tmp 6)], argTypes := #[31] }), none⟩,
  ⟨(some 8), (Op.binOp BinOp.eql 3 (Operand.tmp 7) (Operand.const (Value.int IntKind.i64 2)) 3), none⟩]
attribute [go_sem] r92_1
def r92_2 : List PO := [⟨(some 4), (Op.assign (Operand.const (Value.bool true))), none⟩]
attribute [go_sem] r92_2
def r92_3 : List PO := [⟨(some 9), (Op.move (Operand.tmp 0)), none⟩,
  ⟨(some 10), (Op.indexAddr 31 (Operand.tmp 9) (Operand.const (Value.int IntKind.i64 1))), none⟩,
  ⟨(some 11), (Op.load 3 (Operand.tmp 10)), none⟩,
  ⟨(some 12), (Op.binOp BinOp.sub 3 (Operand.tmp 11) (Operand.const (Value.int IntKind.i64 1)) 3), none⟩,
  ⟨(some 5), (Op.assign (Operand.tmp 12)), none⟩]
attribute [go_sem] r92_3
def c92 : PC := (.seq (.reg r92_0) (.seq (.seq (.reg r92_1) (.cond (Operand.tmp 8) (.seq (.reg r92_2) .ret) .skip)) (.seq (.reg r92_3) (.seq (.pre ⟨[0, 1, 2, 5], [], []⟩ k92_1) .ret))))
def i92 : FnI := ⟨34, [(ResultVar.tmp 4)], c92, 0, [[1], [0], [0]], [[0]], false, false, 0, false⟩
-- loop.example/g00344/impl.bestFor
def r60_0 : List PO := [⟨(some 3), (Op.box 27 (Operand.tmp 0)), none⟩,
  ⟨(some 4), (Op.box 31 (Operand.tmp 1)), none⟩,
  ⟨(some 6), (Op.assign (Operand.const (Value.int IntKind.i64 0))), none⟩]
attribute [go_sem] r60_0
def r60_1 : List PO := [⟨(some 7), (Op.fieldAddr 27 (Operand.tmp 3) 0), none⟩,
  ⟨(some 8), (Op.load 22 (Operand.tmp 7)), none⟩,
  ⟨(some 9), (Op.move (Operand.tmp 2)), none⟩,
  ⟨(some 10), (Op.binOp BinOp.sub 3 (Operand.tmp 9) (Operand.const (Value.int IntKind.i64 1)) 3), none⟩,
  ⟨(some 11), (Op.indexAddr 22 (Operand.tmp 8) (Operand.tmp 10)), none⟩,
  ⟨(some 12), (Op.load 45 (Operand.tmp 11)), none⟩,
  ⟨(some 13), (Op.makeFunc (Fn.func 92) #[] #[(Operand.tmp 4), (Operand.tmp 3)]), none⟩,
  ⟨(some 14), (Op.call { callee := (Callee.value (Operand.func 91)), args := #[(Operand.tmp 12), (Operand.tmp 13)], argTypes := #[45, 65] }), none⟩,
  ⟨(some 6), (Op.assign (Operand.tmp 14)), none⟩]
attribute [go_sem] r60_1
def c60 : PC := (.seq (.reg r60_0) (.seq (.reg r60_1) .ret))
def i60 : FnI := ⟨15, [(ResultVar.tmp 6)], c60, 0, [[1], [1], [0]], [[0]], false, false, 0, false⟩
-- loop.example/g00344/impl.isStable
def r62_2 : List PO := [⟨(some 10), (Op.binOp BinOp.lss 3 (Operand.tmp 9) (Operand.tmp 8) 3), none⟩]
attribute [go_sem] r62_2
def r62_3 : List PO := [⟨(some 11), (Op.move (Operand.tmp 9)), none⟩,
  ⟨(some 12), (Op.indexAddr 31 (Operand.tmp 7) (Operand.tmp 9)), none⟩,
  ⟨(some 13), (Op.load 3 (Operand.tmp 12)), none⟩,
  ⟨(some 5), (Op.assign (Operand.tmp 11)), none⟩,
  ⟨(some 6), (Op.assign (Operand.tmp 13)), none⟩]
attribute [go_sem] r62_3
def r62_4 : List PO := [⟨(some 14), (Op.load 27 (Operand.tmp 2)), none⟩,
  ⟨(some 15), (Op.move (Operand.tmp 1)), none⟩,
  ⟨(some 16), (Op.move (Operand.tmp 5)), none⟩,
  ⟨(some 17), (Op.binOp BinOp.add 3 (Operand.tmp 16) (Operand.const (Value.int IntKind.i64 1)) 3), none⟩,
  ⟨(some 18), (Op.call { callee := (Callee.value (Operand.func 60)), args := #[(Operand.tmp 14), (Operand.tmp 15), (Operand.tmp 17)], argTypes := #[27, 31, 3] }), none⟩,
  ⟨(some 19), (Op.move (Operand.tmp 6)), none⟩,
  ⟨(some 20), (Op.binOp BinOp.neq 3 (Operand.tmp 18) (Operand.tmp 19) 3), none⟩]
attribute [go_sem] r62_4
def r62_5 : List PO := [⟨(some 4), (Op.assign (Operand.const (Value.bool false))), none⟩]
attribute [go_sem] r62_5
def r62_6 : List PO := [⟨(some 21), (Op.binOp BinOp.add 3 (Operand.tmp 9) (Operand.const (Value.int IntKind.i64 1)) 3), none⟩,
  ⟨(some 9), (Op.move (Operand.tmp 21)), none⟩]
attribute [go_sem] r62_6
def k62_1b : PC := (.seq (.reg r62_2) (.seq (.cond (Operand.tmp 10) .skip (.pre ⟨[], [], []⟩ (.exit 0))) (.seq (.block 1 (.seq (.reg r62_3) (.seq (.reg r62_4) (.cond (Operand.tmp 20) (.seq (.reg r62_5) (.pre ⟨[4], [], []⟩ .ret)) .skip)))) (.post (.reg r62_6) ⟨[1, 2, 7, 8, 9], [.old 0], []⟩))))
def r62_0 : List PO := [⟨(some 2), (Op.box 27 (Operand.tmp 0)), none⟩,
  ⟨(some 4), (Op.assign (Operand.const (Value.bool false))), none⟩]
attribute [go_sem] r62_0
def r62_1 : List PO := [⟨(some 7), (Op.move (Operand.tmp 1)), none⟩,
  ⟨(some 8), (Op.call { callee := (Callee.builtin Builtin.len), args := #[(Operand.tmp 7)], argTypes := #[31] }), none⟩,
  ⟨(some 9), (Op.move (Operand.const (Value.int IntKind.i64 0))), none⟩]
attribute [go_sem] r62_1
def r62_7 : List PO := [⟨(some 4), (Op.assign (Operand.const (Value.bool true))), none⟩]
attribute [go_sem] r62_7
def c62 : PC := (.seq (.reg r62_0) (.seq (.seq (.reg r62_1) (.block 0 (.pre ⟨[1, 2, 7, 8, 9], [.old 0], []⟩ (.loop k62_1b)))) (.seq (.reg r62_7) .ret)))
def i62 : FnI := ⟨22, [(ResultVar.tmp 4)], c62, 0, [[1], [1]], [[0]], false, false, 0, false⟩
-- slices.Clone[[]int,int]
def r96_0 : List PO := [⟨(some 2), (Op.assign (Operand.const (Value.slice none 0 0))), none⟩]
attribute [go_sem] r96_0
def r96_1 : List PO := [⟨(some 3), (Op.move (Operand.tmp 0)), none⟩,
  ⟨(some 4), (Op.binOp BinOp.eql 31 (Operand.tmp 3) (Operand.const (Value.slice none 0 0)) 31), none⟩]
def r96_2 : List PO := [⟨(some 2), (Op.assign (Operand.const (Value.slice none 0 0))), none⟩]
attribute [go_sem] r96_2
def r96_3 : List PO := [⟨(some 5), (Op.buildSlice 31 0 #[]), none⟩,
  ⟨(some 6), (Op.move (Operand.tmp 0)), none⟩,
  ⟨(some 7), (Op.call { callee := (Callee.builtin Builtin.append), args := #[(Operand.tmp 5), (Operand.tmp 6)], argTypes := #[31, 31] }), none⟩,
  ⟨(some 2), (Op.assign (Operand.tmp 7)), none⟩]
attribute [go_sem] r96_3
def c96 : PC := (.seq (.reg r96_0) (.amb [⟨(some 3), (Op.move (Operand.tmp 0)), none⟩, ⟨(some 4), (Op.binOp BinOp.eql 31 (Operand.tmp 3) (Operand.const (Value.slice none 0 0)) 31), none⟩] (Operand.tmp 4) (.seq (.seq (.reg r96_2) (.pre ⟨[2], [.nilT 2 0 1], []⟩ .ret)) .bad) (.seq .skip (.seq (.reg r96_3) (.pre ⟨[2], [.old 1], []⟩ .ret)))))
def i96 : FnI := ⟨8, [(ResultVar.tmp 2)], c96, 0, [[1]], [[1]], false, false, 0, false⟩
-- loop.example/g00344/impl.stableFrom
def r74_4 : List PO := [⟨(some 19), (Op.move (Operand.tmp 2)), none⟩,
  ⟨(some 20), (Op.move (Operand.tmp 1)), none⟩,
  ⟨(some 21), (Op.call { callee := (Callee.value (Operand.func 96)), args := #[(Operand.tmp 20)], argTypes := #[31] }), none⟩,
  ⟨(some 22), (Op.buildSlice 45 1 #[(0, (Operand.tmp 21))]), none⟩,
  ⟨(some 23), (Op.call { callee := (Callee.builtin Builtin.append), args := #[(Operand.tmp 19), (Operand.tmp 22)], argTypes := #[45, 45] }), none⟩,
  ⟨(some 2), (Op.assign (Operand.tmp 23)), none⟩]
attribute [go_sem] r74_4
def k74_1 : PC := (.cond (Operand.tmp 18) (.post (.reg r74_4) ⟨[2], [.old 6], [0, 1]⟩) (.post .skip ⟨[2], [.old 3], [0, 1]⟩))
def r74_7 : List PO := [⟨(some 25), (Op.move (Operand.tmp 8)), none⟩,
  ⟨(some 26), (Op.fieldAddr 27 (Operand.tmp 3) 0), none⟩,
  ⟨(some 27), (Op.load 22 (Operand.tmp 26)), none⟩,
  ⟨(some 28), (Op.move (Operand.tmp 7)), none⟩,
  ⟨(some 29), (Op.indexAddr 22 (Operand.tmp 27) (Operand.tmp 28)), none⟩,
  ⟨(some 30), (Op.load 45 (Operand.tmp 29)), none⟩,
  ⟨(some 31), (Op.call { callee := (Callee.builtin Builtin.len), args := #[(Operand.tmp 30)], argTypes := #[45] }), none⟩,
  ⟨(some 32), (Op.binOp BinOp.lss 3 (Operand.tmp 25) (Operand.tmp 31) 3), none⟩]
attribute [go_sem] r74_7
def r74_9 : List PO := [⟨(some 35), (Op.load 27 (Operand.tmp 3)), none⟩,
  ⟨(some 36), (Op.move (Operand.tmp 1)), none⟩,
  ⟨(some 37), (Op.call { callee := (Callee.value (Operand.func 96)), args := #[(Operand.tmp 36)], argTypes := #[31] }), none⟩,
  ⟨(some 38), (Op.move (Operand.tmp 8)), none⟩,
  ⟨(some 39), (Op.buildSlice 31 1 #[(0, (Operand.tmp 38))]), none⟩,
  ⟨(some 40), (Op.call { callee := (Callee.builtin Builtin.append), args := #[(Operand.tmp 37), (Operand.tmp 39)], argTypes := #[31, 31] }), none⟩,
  ⟨(some 41), (Op.move (Operand.tmp 2)), none⟩,
  ⟨(some 42), (Op.call { callee := (Callee.value (Operand.func 74)), args := #[(Operand.tmp 35), (Operand.tmp 40), (Operand.tmp 41)], argTypes := #[27, 31, 45] }), none⟩,
  ⟨(some 2), (Op.assign (Operand.tmp 42)), none⟩]
attribute [go_sem] r74_9
def x74_9 : FxI := ⟨[2, 4, 5, 7], [none, none, none, none, some 0, none, none, none, none], 1, [[], [2], [2, 4], [2, 4, 5], [2, 4, 5, 7], [4]], [(0, 4)], [(0, 1, 1), (0, 2, 2), (0, 3, 3), (0, 5, 5), (2, 5, 2), (4, 0, 5)]⟩
attribute [go_sem] x74_9
def r74_8 : List PO := [⟨(some 33), (Op.move (Operand.tmp 8)), none⟩,
  ⟨(some 34), (Op.binOp BinOp.add 3 (Operand.tmp 33) (Operand.const (Value.int IntKind.i64 1)) 3), none⟩,
  ⟨(some 8), (Op.assign (Operand.tmp 34)), none⟩]
attribute [go_sem] r74_8
def k74_2b : PC := (.seq (.seq (.reg r74_7) (.cond (Operand.tmp 32) .skip (.pre ⟨[2], [.old 3], [0, 1]⟩ (.exit 0)))) (.seq (.block 1 (.fx r74_9 x74_9)) (.post (.reg r74_8) ⟨[1, 2, 3, 7, 8], [.old 2, .old 8, .old 4], [0, 1]⟩)))
def r74_0 : List PO := [⟨(some 3), (Op.box 27 (Operand.tmp 0)), none⟩,
  ⟨(some 6), (Op.assign (Operand.const (Value.slice none 0 0))), none⟩]
attribute [go_sem] r74_0
def r74_1 : List PO := [⟨(some 9), (Op.move (Operand.tmp 1)), none⟩,
  ⟨(some 10), (Op.call { callee := (Callee.builtin Builtin.len), args := #[(Operand.tmp 9)], argTypes := #[31] }), none⟩,
  ⟨(some 7), (Op.assign (Operand.tmp 10)), none⟩]
attribute [go_sem] r74_1
def r74_2 : List PO := [⟨(some 11), (Op.move (Operand.tmp 7)), none⟩,
  ⟨(some 12), (Op.fieldAddr 27 (Operand.tmp 3) 0), none⟩,
  ⟨(some 13), (Op.load 22 (Operand.tmp 12)), none⟩,
  ⟨(some 14), (Op.call { callee := (Callee.builtin Builtin.len), args := #[(Operand.tmp 13)], argTypes := #[22] }), none⟩,
  ⟨(some 15), (Op.binOp BinOp.eql 3 (Operand.tmp 11) (Operand.tmp 14) 3), none⟩]
attribute [go_sem] r74_2
def r74_3 : List PO := [⟨(some 16), (Op.load 27 (Operand.tmp 3)), none⟩,
  ⟨(some 17), (Op.move (Operand.tmp 1)), none⟩,
  ⟨(some 18), (Op.call { callee := (Callee.value (Operand.func 62)), args := #[(Operand.tmp 16), (Operand.tmp 17)], argTypes := #[27, 31] }), none⟩]
attribute [go_sem] r74_3
def r74_5 : List PO := [⟨(some 24), (Op.move (Operand.tmp 2)), none⟩,
  ⟨(some 6), (Op.assign (Operand.tmp 24)), none⟩]
attribute [go_sem] r74_5
def r74_6 : List PO := [⟨(some 8), (Op.assign (Operand.const (Value.int IntKind.i64 (-1)))), none⟩]
attribute [go_sem] r74_6
def r74_10 : List PO := [⟨(some 43), (Op.move (Operand.tmp 2)), none⟩,
  ⟨(some 6), (Op.assign (Operand.tmp 43)), none⟩]
attribute [go_sem] r74_10
def c74 : PC := (.seq (.reg r74_0) (.seq (.reg r74_1) (.seq (.seq (.reg r74_2) (.cond (Operand.tmp 15) (.seq (.seq (.reg r74_3) (.pre ⟨[1, 2, 18], [.old 0, .old 1], [0, 1]⟩ k74_1)) (.seq (.reg r74_5) (.pre ⟨[6], [.old 2], [0, 1]⟩ .ret))) .skip)) (.seq (.seq (.reg r74_6) (.block 0 (.pre ⟨[1, 2, 3, 7, 8], [.old 0, .old 1, .old 2], [0, 1]⟩ (.loop k74_2b)))) (.seq (.reg r74_10) (.pre ⟨[6], [.old 2], [0, 1]⟩ .ret))))))
def i74 : FnI := ⟨44, [(ResultVar.tmp 6)], c74, 3, [[1], [1], [1]], [[1]], false, true, 2, false⟩
-- loop.example/g00344/impl.StableOnes
def r32_0 : List PO := [⟨(some 1), (Op.box 27 (Operand.tmp 0)), none⟩,
  ⟨(some 2), (Op.assign (Operand.const (Value.slice none 0 0))), none⟩,
  ⟨(some 3), (Op.assign (Operand.const (Value.bool false))), none⟩]
attribute [go_sem] r32_0
def r32_1 : List PO := [⟨(some 4), (Op.load 27 (Operand.tmp 1)), none⟩,
  ⟨(some 5), (Op.call { callee := (Callee.value (Operand.func 16)), args := #[(Operand.tmp 4)], argTypes := #[27] }), none⟩,
  ⟨(some 6), (Op.unOp UnOp.not 4 (Operand.tmp 5)), none⟩]
attribute [go_sem] r32_1
def r32_2 : List PO := [⟨(some 2), (Op.assign (Operand.const (Value.slice none 0 0))), none⟩,
  ⟨(some 3), (Op.assign (Operand.const (Value.bool false))), none⟩]
attribute [go_sem] r32_2
def r32_3 : List PO := [⟨(some 7), (Op.load 27 (Operand.tmp 1)), none⟩,
  ⟨(some 8), (Op.call { callee := (Callee.value (Operand.func 74)), args := #[(Operand.tmp 7), (Operand.const (Value.slice none 0 0)), (Operand.const (Value.slice none 0 0))], argTypes := #[27, 31, 45] }), none⟩,
  ⟨(some 2), (Op.assign (Operand.tmp 8)), none⟩,
  ⟨(some 3), (Op.assign (Operand.const (Value.bool true))), none⟩]
attribute [go_sem] r32_3
def c32 : PC := (.seq (.reg r32_0) (.seq (.seq (.reg r32_1) (.cond (Operand.tmp 6) (.seq (.reg r32_2) .ret) .skip)) (.seq (.reg r32_3) .ret)))
def i32 : FnI := ⟨9, [(ResultVar.tmp 2), (ResultVar.tmp 3)], c32, 0, [[1]], [[1], [0]], false, false, 0, false⟩
-- loop.example/g00344/laws.eqIntS
def r21_4 : List PO := [⟨(some 11), (Op.move (Operand.tmp 5)), none⟩,
  ⟨(some 12), (Op.move (Operand.tmp 0)), none⟩,
  ⟨(some 13), (Op.call { callee := (Callee.builtin Builtin.len), args := #[(Operand.tmp 12)], argTypes := #[31] }), none⟩,
  ⟨(some 14), (Op.binOp BinOp.lss 3 (Operand.tmp 11) (Operand.tmp 13) 3), none⟩]
attribute [go_sem] r21_4
def r21_6 : List PO := [⟨(some 17), (Op.move (Operand.tmp 0)), none⟩,
  ⟨(some 18), (Op.move (Operand.tmp 5)), none⟩,
  ⟨(some 19), (Op.indexAddr 31 (Operand.tmp 17) (Operand.tmp 18)), none⟩,
  ⟨(some 20), (Op.load 3 (Operand.tmp 19)), none⟩,
  ⟨(some 21), (Op.move (Operand.tmp 1)), none⟩,
  ⟨(some 22), (Op.move (Operand.tmp 5)), none⟩,
  ⟨(some 23), (Op.indexAddr 31 (Operand.tmp 21) (Operand.tmp 22)), none⟩,
  ⟨(some 24), (Op.load 3 (Operand.tmp 23)), none⟩,
  ⟨(some 25), (Op.binOp BinOp.neq 3 (Operand.tmp 20) (Operand.tmp 24) 3), none⟩]
attribute [go_sem] r21_6
def r21_7 : List PO := [⟨(some 4), (Op.assign (Operand.const (Value.bool false))), none⟩]
attribute [go_sem] r21_7
def r21_5 : List PO := [⟨(some 15), (Op.move (Operand.tmp 5)), none⟩,
  ⟨(some 16), (Op.binOp BinOp.add 3 (Operand.tmp 15) (Operand.const (Value.int IntKind.i64 1)) 3), none⟩,
  ⟨(some 5), (Op.assign (Operand.tmp 16)), none⟩]
attribute [go_sem] r21_5
def k21_1b : PC := (.seq (.seq (.reg r21_4) (.cond (Operand.tmp 14) .skip (.pre ⟨[], [], []⟩ (.exit 0)))) (.seq (.block 1 (.seq (.fz r21_6) (.cond (Operand.tmp 25) (.seq (.reg r21_7) (.pre ⟨[4], [], []⟩ .ret)) .skip))) (.post (.reg r21_5) ⟨[0, 1, 5], [], []⟩)))
def r21_0 : List PO := [⟨(some 4), (Op.assign (Operand.const (Value.bool false))), none⟩]
attribute [go_sem] r21_0
def r21_1 : List PO := [⟨(some 6), (Op.move (Operand.tmp 0)), none⟩,
  ⟨(some 7), (Op.call { callee := (Callee.builtin Builtin.len), args := #[(Operand.tmp 6)], argTypes := #[31] }), none⟩,
  ⟨(some 8), (Op.move (Operand.tmp 1)), none⟩,
  ⟨(some 9), (Op.call { callee := (Callee.builtin Builtin.len), args := #[(Operand.tmp 8)], argTypes := #[31] }), none⟩,
  ⟨(some 10), (Op.binOp BinOp.neq 3 (Operand.tmp 7) (Operand.tmp 9) 3), none⟩]
attribute [go_sem] r21_1
def r21_2 : List PO := [⟨(some 4), (Op.assign (Operand.const (Value.bool false))), none⟩]
attribute [go_sem] r21_2
def r21_3 : List PO := [⟨(some 5), (Op.assign (Operand.const (Value.int IntKind.i64 0))), none⟩]
attribute [go_sem] r21_3
def r21_8 : List PO := [⟨(some 4), (Op.assign (Operand.const (Value.bool true))), none⟩]
attribute [go_sem] r21_8
def c21 : PC := (.seq (.reg r21_0) (.seq (.seq (.reg r21_1) (.cond (Operand.tmp 10) (.seq (.reg r21_2) .ret) .skip)) (.seq (.seq (.reg r21_3) (.block 0 (.pre ⟨[0, 1, 5], [], []⟩ (.loop k21_1b)))) (.seq (.reg r21_8) .ret))))
def i21 : FnI := ⟨26, [(ResultVar.tmp 4)], c21, 0, [[1], [1]], [[0]], false, false, 0, false⟩
-- loop.example/g00344/laws.eqIntSS
def r33_4 : List PO := [⟨(some 11), (Op.move (Operand.tmp 5)), none⟩,
  ⟨(some 12), (Op.move (Operand.tmp 0)), none⟩,
  ⟨(some 13), (Op.call { callee := (Callee.builtin Builtin.len), args := #[(Operand.tmp 12)], argTypes := #[45] }), none⟩,
  ⟨(some 14), (Op.binOp BinOp.lss 3 (Operand.tmp 11) (Operand.tmp 13) 3), none⟩]
attribute [go_sem] r33_4
def r33_6 : List PO := [⟨(some 17), (Op.move (Operand.tmp 0)), none⟩,
  ⟨(some 18), (Op.move (Operand.tmp 5)), none⟩,
  ⟨(some 19), (Op.indexAddr 45 (Operand.tmp 17) (Operand.tmp 18)), none⟩,
  ⟨(some 20), (Op.load 31 (Operand.tmp 19)), none⟩,
  ⟨(some 21), (Op.move (Operand.tmp 1)), none⟩,
  ⟨(some 22), (Op.move (Operand.tmp 5)), none⟩,
  ⟨(some 23), (Op.indexAddr 45 (Operand.tmp 21) (Operand.tmp 22)), none⟩,
  ⟨(some 24), (Op.load 31 (Operand.tmp 23)), none⟩,
  ⟨(some 25), (Op.call { callee := (Callee.value (Operand.func 21)), args := #[(Operand.tmp 20), (Operand.tmp 24)], argTypes := #[31, 31] }), none⟩,
  ⟨(some 26), (Op.unOp UnOp.not 4 (Operand.tmp 25)), none⟩]
attribute [go_sem] r33_6
def r33_7 : List PO := [⟨(some 4), (Op.assign (Operand.const (Value.bool false))), none⟩]
attribute [go_sem] r33_7
def r33_5 : List PO := [⟨(some 15), (Op.move (Operand.tmp 5)), none⟩,
  ⟨(some 16), (Op.binOp BinOp.add 3 (Operand.tmp 15) (Operand.const (Value.int IntKind.i64 1)) 3), none⟩,
  ⟨(some 5), (Op.assign (Operand.tmp 16)), none⟩]
attribute [go_sem] r33_5
def k33_1b : PC := (.seq (.seq (.reg r33_4) (.cond (Operand.tmp 14) .skip (.pre ⟨[], [], []⟩ (.exit 0)))) (.seq (.block 1 (.seq (.fz r33_6) (.cond (Operand.tmp 26) (.seq (.reg r33_7) (.pre ⟨[4], [], []⟩ .ret)) .skip))) (.post (.reg r33_5) ⟨[0, 1, 5], [], []⟩)))
def r33_0 : List PO := [⟨(some 4), (Op.assign (Operand.const (Value.bool false))), none⟩]
attribute [go_sem] r33_0
def r33_1 : List PO := [⟨(some 6), (Op.move (Operand.tmp 0)), none⟩,
  ⟨(some 7), (Op.call { callee := (Callee.builtin Builtin.len), args := #[(Operand.tmp 6)], argTypes := #[45] }), none⟩,
  ⟨(some 8), (Op.move (Operand.tmp 1)), none⟩,
  ⟨(some 9), (Op.call { callee := (Callee.builtin Builtin.len), args := #[(Operand.tmp 8)], argTypes := #[45] }), none⟩,
  ⟨(some 10), (Op.binOp BinOp.neq 3 (Operand.tmp 7) (Operand.tmp 9) 3), none⟩]
attribute [go_sem] r33_1
def r33_2 : List PO := [⟨(some 4), (Op.assign (Operand.const (Value.bool false))), none⟩]
attribute [go_sem] r33_2
def r33_3 : List PO := [⟨(some 5), (Op.assign (Operand.const (Value.int IntKind.i64 0))), none⟩]
attribute [go_sem] r33_3
def r33_8 : List PO := [⟨(some 4), (Op.assign (Operand.const (Value.bool true))), none⟩]
attribute [go_sem] r33_8
def c33 : PC := (.seq (.reg r33_0) (.seq (.seq (.reg r33_1) (.cond (Operand.tmp 10) (.seq (.reg r33_2) .ret) .skip)) (.seq (.seq (.reg r33_3) (.block 0 (.pre ⟨[0, 1, 5], [], []⟩ (.loop k33_1b)))) (.seq (.reg r33_8) .ret))))
def i33 : FnI := ⟨27, [(ResultVar.tmp 4)], c33, 0, [[1], [1]], [[0]], false, false, 0, false⟩
-- loop.example/g00344/laws.eqIntSSS
def r56_4 : List PO := [⟨(some 11), (Op.move (Operand.tmp 5)), none⟩,
  ⟨(some 12), (Op.move (Operand.tmp 0)), none⟩,
  ⟨(some 13), (Op.call { callee := (Callee.builtin Builtin.len), args := #[(Operand.tmp 12)], argTypes := #[22] }), none⟩,
  ⟨(some 14), (Op.binOp BinOp.lss 3 (Operand.tmp 11) (Operand.tmp 13) 3), none⟩]
attribute [go_sem] r56_4
def r56_6 : List PO := [⟨(some 17), (Op.move (Operand.tmp 0)), none⟩,
  ⟨(some 18), (Op.move (Operand.tmp 5)), none⟩,
  ⟨(some 19), (Op.indexAddr 22 (Operand.tmp 17) (Operand.tmp 18)), none⟩,
  ⟨(some 20), (Op.load 45 (Operand.tmp 19)), none⟩,
  ⟨(some 21), (Op.move (Operand.tmp 1)), none⟩,
  ⟨(some 22), (Op.move (Operand.tmp 5)), none⟩,
  ⟨(some 23), (Op.indexAddr 22 (Operand.tmp 21) (Operand.tmp 22)), none⟩,
  ⟨(some 24), (Op.load 45 (Operand.tmp 23)), none⟩,
  ⟨(some 25), (Op.call { callee := (Callee.value (Operand.func 33)), args := #[(Operand.tmp 20), (Operand.tmp 24)], argTypes := #[45, 45] }), none⟩,
  ⟨(some 26), (Op.unOp UnOp.not 4 (Operand.tmp 25)), none⟩]
attribute [go_sem] r56_6
def r56_7 : List PO := [⟨(some 4), (Op.assign (Operand.const (Value.bool false))), none⟩]
attribute [go_sem] r56_7
def r56_5 : List PO := [⟨(some 15), (Op.move (Operand.tmp 5)), none⟩,
  ⟨(some 16), (Op.binOp BinOp.add 3 (Operand.tmp 15) (Operand.const (Value.int IntKind.i64 1)) 3), none⟩,
  ⟨(some 5), (Op.assign (Operand.tmp 16)), none⟩]
attribute [go_sem] r56_5
def k56_1b : PC := (.seq (.seq (.reg r56_4) (.cond (Operand.tmp 14) .skip (.pre ⟨[], [], []⟩ (.exit 0)))) (.seq (.block 1 (.seq (.fz r56_6) (.cond (Operand.tmp 26) (.seq (.reg r56_7) (.pre ⟨[4], [], []⟩ .ret)) .skip))) (.post (.reg r56_5) ⟨[0, 1, 5], [], []⟩)))
def r56_0 : List PO := [⟨(some 4), (Op.assign (Operand.const (Value.bool false))), none⟩]
attribute [go_sem] r56_0
def r56_1 : List PO := [⟨(some 6), (Op.move (Operand.tmp 0)), none⟩,
  ⟨(some 7), (Op.call { callee := (Callee.builtin Builtin.len), args := #[(Operand.tmp 6)], argTypes := #[22] }), none⟩,
  ⟨(some 8), (Op.move (Operand.tmp 1)), none⟩,
  ⟨(some 9), (Op.call { callee := (Callee.builtin Builtin.len), args := #[(Operand.tmp 8)], argTypes := #[22] }), none⟩,
  ⟨(some 10), (Op.binOp BinOp.neq 3 (Operand.tmp 7) (Operand.tmp 9) 3), none⟩]
attribute [go_sem] r56_1
def r56_2 : List PO := [⟨(some 4), (Op.assign (Operand.const (Value.bool false))), none⟩]
attribute [go_sem] r56_2
def r56_3 : List PO := [⟨(some 5), (Op.assign (Operand.const (Value.int IntKind.i64 0))), none⟩]
attribute [go_sem] r56_3
def r56_8 : List PO := [⟨(some 4), (Op.assign (Operand.const (Value.bool true))), none⟩]
attribute [go_sem] r56_8
def c56 : PC := (.seq (.reg r56_0) (.seq (.seq (.reg r56_1) (.cond (Operand.tmp 10) (.seq (.reg r56_2) .ret) .skip)) (.seq (.seq (.reg r56_3) (.block 0 (.pre ⟨[0, 1, 5], [], []⟩ (.loop k56_1b)))) (.seq (.reg r56_8) .ret))))
def i56 : FnI := ⟨27, [(ResultVar.tmp 4)], c56, 0, [[1], [1]], [[0]], false, false, 0, false⟩
-- loop.example/g00344/laws.eqSpp
def r17_0 : List PO := [⟨(some 2), (Op.box 27 (Operand.tmp 0)), none⟩,
  ⟨(some 3), (Op.box 27 (Operand.tmp 1)), none⟩,
  ⟨(some 4), (Op.assign (Operand.const (Value.bool false))), none⟩]
attribute [go_sem] r17_0
def r17_1 : List PO := [⟨(some 5), (Op.fieldAddr 27 (Operand.tmp 2) 0), none⟩,
  ⟨(some 6), (Op.load 22 (Operand.tmp 5)), none⟩,
  ⟨(some 7), (Op.fieldAddr 27 (Operand.tmp 3) 0), none⟩,
  ⟨(some 8), (Op.load 22 (Operand.tmp 7)), none⟩,
  ⟨(some 9), (Op.call { callee := (Callee.value (Operand.func 56)), args := #[(Operand.tmp 6), (Operand.tmp 8)], argTypes := #[22, 22] }), none⟩,
  ⟨(some 10), (Op.unOp UnOp.not 4 (Operand.tmp 9)), none⟩]
attribute [go_sem] r17_1
def r17_2 : List PO := [⟨(some 4), (Op.assign (Operand.const (Value.bool false))), none⟩]
attribute [go_sem] r17_2
def r17_3 : List PO := [⟨(some 4), (Op.assign (Operand.const (Value.bool true))), none⟩]
attribute [go_sem] r17_3
def c17 : PC := (.seq (.reg r17_0) (.seq (.seq (.reg r17_1) (.cond (Operand.tmp 10) (.seq (.reg r17_2) .ret) .skip)) (.seq (.reg r17_3) .ret)))
def i17 : FnI := ⟨11, [(ResultVar.tmp 4)], c17, 0, [[1], [1]], [[0]], false, false, 0, false⟩
-- loop.example/g00344/laws.markIntS
def r29_2 : List PO := [⟨(some 6), (Op.move (Operand.tmp 5)), none⟩,
  ⟨(some 7), (Op.move (Operand.tmp 0)), none⟩,
  ⟨(some 8), (Op.call { callee := (Callee.builtin Builtin.len), args := #[(Operand.tmp 7)], argTypes := #[31] }), none⟩,
  ⟨(some 9), (Op.binOp BinOp.lss 3 (Operand.tmp 6) (Operand.tmp 8) 3), none⟩]
attribute [go_sem] r29_2
def r29_4 : List PO := [⟨(some 12), (Op.move (Operand.tmp 0)), none⟩,
  ⟨(some 13), (Op.move (Operand.tmp 5)), none⟩,
  ⟨(some 14), (Op.move (Operand.tmp 1)), none⟩,
  ⟨(some 15), (Op.indexAddr 31 (Operand.tmp 12) (Operand.tmp 13)), none⟩,
  ⟨none, (Op.store 3 (Operand.tmp 15) (Operand.tmp 14)), none⟩]
attribute [go_sem] r29_4
def r29_5 : List PO := [⟨(some 16), (Op.move (Operand.tmp 1)), none⟩,
  ⟨(some 17), (Op.binOp BinOp.add 3 (Operand.tmp 16) (Operand.const (Value.int IntKind.i64 1)) 3), none⟩,
  ⟨(some 1), (Op.assign (Operand.tmp 17)), none⟩]
attribute [go_sem] r29_5
def r29_3 : List PO := [⟨(some 10), (Op.move (Operand.tmp 5)), none⟩,
  ⟨(some 11), (Op.binOp BinOp.add 3 (Operand.tmp 10) (Operand.const (Value.int IntKind.i64 1)) 3), none⟩,
  ⟨(some 5), (Op.assign (Operand.tmp 11)), none⟩]
attribute [go_sem] r29_3
def k29_1b : PC := (.seq (.seq (.reg r29_2) (.cond (Operand.tmp 9) .skip (.pre ⟨[1], [], []⟩ (.exit 0)))) (.seq (.block 1 (.seq (.reg r29_4) (.reg r29_5))) (.post (.reg r29_3) ⟨[0, 1, 5], [], []⟩)))
def r29_0 : List PO := [⟨(some 4), (Op.assign (Operand.const (Value.int IntKind.i64 0))), none⟩]
attribute [go_sem] r29_0
def r29_1 : List PO := [⟨(some 5), (Op.assign (Operand.const (Value.int IntKind.i64 0))), none⟩]
attribute [go_sem] r29_1
def r29_6 : List PO := [⟨(some 18), (Op.move (Operand.tmp 1)), none⟩,
  ⟨(some 4), (Op.assign (Operand.tmp 18)), none⟩]
attribute [go_sem] r29_6
def c29 : PC := (.seq (.reg r29_0) (.seq (.seq (.reg r29_1) (.block 0 (.pre ⟨[0, 1, 5], [], []⟩ (.loop k29_1b)))) (.seq (.reg r29_6) (.pre ⟨[4], [], []⟩ .ret))))
def i29 : FnI := ⟨19, [(ResultVar.tmp 4)], c29, 3, [[1], [0]], [[0]], false, true, 1, false⟩
-- loop.example/g00344/laws.markIntSS
def r34_2 : List PO := [⟨(some 6), (Op.move (Operand.tmp 5)), none⟩,
  ⟨(some 7), (Op.move (Operand.tmp 0)), none⟩,
  ⟨(some 8), (Op.call { callee := (Callee.builtin Builtin.len), args := #[(Operand.tmp 7)], argTypes := #[45] }), none⟩,
  ⟨(some 9), (Op.binOp BinOp.lss 3 (Operand.tmp 6) (Operand.tmp 8) 3), none⟩]
attribute [go_sem] r34_2
def r34_4 : List PO := [⟨(some 12), (Op.move (Operand.tmp 0)), none⟩,
  ⟨(some 13), (Op.move (Operand.tmp 5)), none⟩,
  ⟨(some 14), (Op.indexAddr 45 (Operand.tmp 12) (Operand.tmp 13)), none⟩,
  ⟨(some 15), (Op.load 31 (Operand.tmp 14)), none⟩,
  ⟨(some 16), (Op.move (Operand.tmp 1)), none⟩,
  ⟨(some 17), (Op.call { callee := (Callee.value (Operand.func 29)), args := #[(Operand.tmp 15), (Operand.tmp 16)], argTypes := #[31, 3] }), none⟩,
  ⟨(some 1), (Op.assign (Operand.tmp 17)), none⟩]
attribute [go_sem] r34_4
def r34_3 : List PO := [⟨(some 10), (Op.move (Operand.tmp 5)), none⟩,
  ⟨(some 11), (Op.binOp BinOp.add 3 (Operand.tmp 10) (Operand.const (Value.int IntKind.i64 1)) 3), none⟩,
  ⟨(some 5), (Op.assign (Operand.tmp 11)), none⟩]
attribute [go_sem] r34_3
def k34_1b : PC := (.seq (.seq (.reg r34_2) (.cond (Operand.tmp 9) .skip (.pre ⟨[1], [], []⟩ (.exit 0)))) (.seq (.block 1 (.nest r34_4 3 2)) (.post (.reg r34_3) ⟨[0, 1, 5], [], []⟩)))
def r34_0 : List PO := [⟨(some 4), (Op.assign (Operand.const (Value.int IntKind.i64 0))), none⟩]
attribute [go_sem] r34_0
def r34_1 : List PO := [⟨(some 5), (Op.assign (Operand.const (Value.int IntKind.i64 0))), none⟩]
attribute [go_sem] r34_1
def r34_5 : List PO := [⟨(some 18), (Op.move (Operand.tmp 1)), none⟩,
  ⟨(some 4), (Op.assign (Operand.tmp 18)), none⟩]
attribute [go_sem] r34_5
def c34 : PC := (.seq (.reg r34_0) (.seq (.seq (.reg r34_1) (.block 0 (.pre ⟨[0, 1, 5], [], []⟩ (.loop k34_1b)))) (.seq (.reg r34_5) (.pre ⟨[4], [], []⟩ .ret))))
def i34 : FnI := ⟨19, [(ResultVar.tmp 4)], c34, 3, [[1], [0]], [[0]], false, true, 1, true⟩
-- loop.example/g00344/laws.markIntSSS
def r72_2 : List PO := [⟨(some 6), (Op.move (Operand.tmp 5)), none⟩,
  ⟨(some 7), (Op.move (Operand.tmp 0)), none⟩,
  ⟨(some 8), (Op.call { callee := (Callee.builtin Builtin.len), args := #[(Operand.tmp 7)], argTypes := #[22] }), none⟩,
  ⟨(some 9), (Op.binOp BinOp.lss 3 (Operand.tmp 6) (Operand.tmp 8) 3), none⟩]
attribute [go_sem] r72_2
def r72_4 : List PO := [⟨(some 12), (Op.move (Operand.tmp 0)), none⟩,
  ⟨(some 13), (Op.move (Operand.tmp 5)), none⟩,
  ⟨(some 14), (Op.indexAddr 22 (Operand.tmp 12) (Operand.tmp 13)), none⟩,
  ⟨(some 15), (Op.load 45 (Operand.tmp 14)), none⟩,
  ⟨(some 16), (Op.move (Operand.tmp 1)), none⟩,
  ⟨(some 17), (Op.call { callee := (Callee.value (Operand.func 34)), args := #[(Operand.tmp 15), (Operand.tmp 16)], argTypes := #[45, 3] }), none⟩,
  ⟨(some 1), (Op.assign (Operand.tmp 17)), none⟩]
attribute [go_sem] r72_4
def r72_3 : List PO := [⟨(some 10), (Op.move (Operand.tmp 5)), none⟩,
  ⟨(some 11), (Op.binOp BinOp.add 3 (Operand.tmp 10) (Operand.const (Value.int IntKind.i64 1)) 3), none⟩,
  ⟨(some 5), (Op.assign (Operand.tmp 11)), none⟩]
attribute [go_sem] r72_3
def k72_1b : PC := (.seq (.seq (.reg r72_2) (.cond (Operand.tmp 9) .skip (.pre ⟨[1], [], []⟩ (.exit 0)))) (.seq (.block 1 (.nest r72_4 3 2)) (.post (.reg r72_3) ⟨[0, 1, 5], [], []⟩)))
def r72_0 : List PO := [⟨(some 4), (Op.assign (Operand.const (Value.int IntKind.i64 0))), none⟩]
attribute [go_sem] r72_0
def r72_1 : List PO := [⟨(some 5), (Op.assign (Operand.const (Value.int IntKind.i64 0))), none⟩]
attribute [go_sem] r72_1
def r72_5 : List PO := [⟨(some 18), (Op.move (Operand.tmp 1)), none⟩,
  ⟨(some 4), (Op.assign (Operand.tmp 18)), none⟩]
attribute [go_sem] r72_5
def c72 : PC := (.seq (.reg r72_0) (.seq (.seq (.reg r72_1) (.block 0 (.pre ⟨[0, 1, 5], [], []⟩ (.loop k72_1b)))) (.seq (.reg r72_5) (.pre ⟨[4], [], []⟩ .ret))))
def i72 : FnI := ⟨19, [(ResultVar.tmp 4)], c72, 3, [[1], [0]], [[0]], false, true, 1, true⟩
-- loop.example/g00344/laws.markSpp
def r28_0 : List PO := [⟨(some 2), (Op.box 27 (Operand.tmp 0)), none⟩,
  ⟨(some 4), (Op.assign (Operand.const (Value.int IntKind.i64 0))), none⟩]
attribute [go_sem] r28_0
def r28_1 : List PO := [⟨(some 5), (Op.fieldAddr 27 (Operand.tmp 2) 0), none⟩,
  ⟨(some 6), (Op.load 22 (Operand.tmp 5)), none⟩,
  ⟨(some 7), (Op.move (Operand.tmp 1)), none⟩,
  ⟨(some 8), (Op.call { callee := (Callee.value (Operand.func 72)), args := #[(Operand.tmp 6), (Operand.tmp 7)], argTypes := #[22, 3] }), none⟩,
  ⟨(some 1), (Op.assign (Operand.tmp 8)), none⟩]
attribute [go_sem] r28_1
def r28_2 : List PO := [⟨(some 9), (Op.move (Operand.tmp 1)), none⟩,
  ⟨(some 4), (Op.assign (Operand.tmp 9)), none⟩]
attribute [go_sem] r28_2
def c28 : PC := (.seq (.reg r28_0) (.seq (.reg r28_1) (.seq (.reg r28_2) (.pre ⟨[4], [], []⟩ .ret))))
def i28 : FnI := ⟨10, [(ResultVar.tmp 4)], c28, 3, [[1], [0]], [[0]], false, true, 1, true⟩
-- loop.example/g00344/laws.heldIntS
def r30_2 : List PO := [⟨(some 6), (Op.move (Operand.tmp 5)), none⟩,
  ⟨(some 7), (Op.move (Operand.tmp 0)), none⟩,
  ⟨(some 8), (Op.call { callee := (Callee.builtin Builtin.len), args := #[(Operand.tmp 7)], argTypes := #[31] }), none⟩,
  ⟨(some 9), (Op.binOp BinOp.lss 3 (Operand.tmp 6) (Operand.tmp 8) 3), none⟩]
attribute [go_sem] r30_2
def r30_4 : List PO := [⟨(some 12), (Op.move (Operand.tmp 0)), none⟩,
  ⟨(some 13), (Op.move (Operand.tmp 5)), none⟩,
  ⟨(some 14), (Op.indexAddr 31 (Operand.tmp 12) (Operand.tmp 13)), none⟩,
  ⟨(some 15), (Op.load 3 (Operand.tmp 14)), none⟩,
  ⟨(some 16), (Op.move (Operand.tmp 1)), none⟩,
  ⟨(some 17), (Op.binOp BinOp.neq 3 (Operand.tmp 15) (Operand.tmp 16) 3), none⟩]
attribute [go_sem] r30_4
def r30_5 : List PO := [⟨(some 4), (Op.assign (Operand.const (Value.int IntKind.i64 (-1)))), none⟩]
attribute [go_sem] r30_5
def r30_6 : List PO := [⟨(some 18), (Op.move (Operand.tmp 1)), none⟩,
  ⟨(some 19), (Op.binOp BinOp.add 3 (Operand.tmp 18) (Operand.const (Value.int IntKind.i64 1)) 3), none⟩,
  ⟨(some 1), (Op.assign (Operand.tmp 19)), none⟩]
attribute [go_sem] r30_6
def r30_3 : List PO := [⟨(some 10), (Op.move (Operand.tmp 5)), none⟩,
  ⟨(some 11), (Op.binOp BinOp.add 3 (Operand.tmp 10) (Operand.const (Value.int IntKind.i64 1)) 3), none⟩,
  ⟨(some 5), (Op.assign (Operand.tmp 11)), none⟩]
attribute [go_sem] r30_3
def k30_1b : PC := (.seq (.seq (.reg r30_2) (.cond (Operand.tmp 9) .skip (.pre ⟨[1], [], []⟩ (.exit 0)))) (.seq (.block 1 (.seq (.seq (.reg r30_4) (.cond (Operand.tmp 17) (.seq (.reg r30_5) (.pre ⟨[4], [], []⟩ .ret)) .skip)) (.reg r30_6))) (.post (.reg r30_3) ⟨[0, 1, 5], [], []⟩)))
def r30_0 : List PO := [⟨(some 4), (Op.assign (Operand.const (Value.int IntKind.i64 0))), none⟩]
attribute [go_sem] r30_0
def r30_1 : List PO := [⟨(some 5), (Op.assign (Operand.const (Value.int IntKind.i64 0))), none⟩]
attribute [go_sem] r30_1
def r30_7 : List PO := [⟨(some 20), (Op.move (Operand.tmp 1)), none⟩,
  ⟨(some 4), (Op.assign (Operand.tmp 20)), none⟩]
attribute [go_sem] r30_7
def c30 : PC := (.seq (.reg r30_0) (.seq (.seq (.reg r30_1) (.block 0 (.pre ⟨[0, 1, 5], [], []⟩ (.loop k30_1b)))) (.seq (.reg r30_7) .ret)))
def i30 : FnI := ⟨21, [(ResultVar.tmp 4)], c30, 0, [[1], [0]], [[0]], false, false, 0, false⟩
-- loop.example/g00344/laws.heldIntSS
def r35_2 : List PO := [⟨(some 6), (Op.move (Operand.tmp 5)), none⟩,
  ⟨(some 7), (Op.move (Operand.tmp 0)), none⟩,
  ⟨(some 8), (Op.call { callee := (Callee.builtin Builtin.len), args := #[(Operand.tmp 7)], argTypes := #[45] }), none⟩,
  ⟨(some 9), (Op.binOp BinOp.lss 3 (Operand.tmp 6) (Operand.tmp 8) 3), none⟩]
attribute [go_sem] r35_2
def r35_4 : List PO := [⟨(some 12), (Op.move (Operand.tmp 0)), none⟩,
  ⟨(some 13), (Op.move (Operand.tmp 5)), none⟩,
  ⟨(some 14), (Op.indexAddr 45 (Operand.tmp 12) (Operand.tmp 13)), none⟩,
  ⟨(some 15), (Op.load 31 (Operand.tmp 14)), none⟩,
  ⟨(some 16), (Op.move (Operand.tmp 1)), none⟩,
  ⟨(some 17), (Op.call { callee := (Callee.value (Operand.func 30)), args := #[(Operand.tmp 15), (Operand.tmp 16)], argTypes := #[31, 3] }), none⟩,
  ⟨(some 1), (Op.assign (Operand.tmp 17)), none⟩]
attribute [go_sem] r35_4
def r35_5 : List PO := [⟨(some 18), (Op.move (Operand.tmp 1)), none⟩,
  ⟨(some 19), (Op.binOp BinOp.lss 3 (Operand.tmp 18) (Operand.const (Value.int IntKind.i64 0)) 3), none⟩]
attribute [go_sem] r35_5
def r35_6 : List PO := [⟨(some 4), (Op.assign (Operand.const (Value.int IntKind.i64 (-1)))), none⟩]
attribute [go_sem] r35_6
def r35_3 : List PO := [⟨(some 10), (Op.move (Operand.tmp 5)), none⟩,
  ⟨(some 11), (Op.binOp BinOp.add 3 (Operand.tmp 10) (Operand.const (Value.int IntKind.i64 1)) 3), none⟩,
  ⟨(some 5), (Op.assign (Operand.tmp 11)), none⟩]
attribute [go_sem] r35_3
def k35_1b : PC := (.seq (.seq (.reg r35_2) (.cond (Operand.tmp 9) .skip (.pre ⟨[1], [], []⟩ (.exit 0)))) (.seq (.block 1 (.seq (.reg r35_4) (.seq (.reg r35_5) (.cond (Operand.tmp 19) (.seq (.reg r35_6) (.pre ⟨[4], [], []⟩ .ret)) .skip)))) (.post (.reg r35_3) ⟨[0, 1, 5], [], []⟩)))
def r35_0 : List PO := [⟨(some 4), (Op.assign (Operand.const (Value.int IntKind.i64 0))), none⟩]
attribute [go_sem] r35_0
def r35_1 : List PO := [⟨(some 5), (Op.assign (Operand.const (Value.int IntKind.i64 0))), none⟩]
attribute [go_sem] r35_1
def r35_7 : List PO := [⟨(some 20), (Op.move (Operand.tmp 1)), none⟩,
  ⟨(some 4), (Op.assign (Operand.tmp 20)), none⟩]
attribute [go_sem] r35_7
def c35 : PC := (.seq (.reg r35_0) (.seq (.seq (.reg r35_1) (.block 0 (.pre ⟨[0, 1, 5], [], []⟩ (.loop k35_1b)))) (.seq (.reg r35_7) .ret)))
def i35 : FnI := ⟨21, [(ResultVar.tmp 4)], c35, 0, [[1], [0]], [[0]], false, false, 0, false⟩
-- loop.example/g00344/laws.FnExactStableOnes
def r8_8 : List PO := [⟨(some 32), (Op.move (Operand.tmp 7)), none⟩,
  ⟨(some 33), (Op.move (Operand.tmp 4)), none⟩,
  ⟨(some 34), (Op.call { callee := (Callee.value (Operand.func 33)), args := #[(Operand.tmp 32), (Operand.tmp 33)], argTypes := #[45, 45] }), none⟩,
  ⟨(some 35), (Op.unOp UnOp.not 4 (Operand.tmp 34)), none⟩,
  ⟨(some 36), (Op.move (Operand.tmp 35)), none⟩,
  ⟨(some 37), (Op.move (Operand.tmp 8)), (some (36, false))⟩,
  ⟨(some 38), (Op.move (Operand.tmp 5)), (some (36, false))⟩,
  ⟨(some 39), (Op.binOp BinOp.neq 4 (Operand.tmp 37) (Operand.tmp 38) 4), (some (36, false))⟩,
  ⟨(some 40), (Op.pick (Operand.tmp 36) (Operand.const (Value.bool true)) (Operand.tmp 39)), none⟩]
attribute [go_sem] r8_8
def k8_1 : PC := (.post (.reg r8_8) ⟨[1, 4, 5, 6, 7, 8, 40], [.old 0, .old 1, .old 2, .old 3, .old 4], []⟩)
def r8_14 : List PO := [⟨(some 49), (Op.move (Operand.tmp 9)), none⟩,
  ⟨(some 50), (Op.binOp BinOp.lss 3 (Operand.tmp 49) (Operand.const (Value.int IntKind.i64 0)) 3), none⟩,
  ⟨(some 51), (Op.move (Operand.tmp 50)), none⟩,
  ⟨(some 52), (Op.move (Operand.tmp 7)), (some (51, false))⟩,
  ⟨(some 53), (Op.move (Operand.tmp 4)), (some (51, false))⟩,
  ⟨(some 54), (Op.call { callee := (Callee.value (Operand.func 33)), args := #[(Operand.tmp 52), (Operand.tmp 53)], argTypes := #[45, 45] }), (some (51, false))⟩,
  ⟨(some 55), (Op.unOp UnOp.not 4 (Operand.tmp 54)), (some (51, false))⟩,
  ⟨(some 56), (Op.pick (Operand.tmp 51) (Operand.const (Value.bool true)) (Operand.tmp 55)), none⟩,
  ⟨(some 57), (Op.move (Operand.tmp 56)), none⟩,
  ⟨(some 58), (Op.move (Operand.tmp 8)), (some (57, false))⟩,
  ⟨(some 59), (Op.move (Operand.tmp 5)), (some (57, false))⟩,
  ⟨(some 60), (Op.binOp BinOp.neq 4 (Operand.tmp 58) (Operand.tmp 59) 4), (some (57, false))⟩,
  ⟨(some 61), (Op.pick (Operand.tmp 57) (Operand.const (Value.bool true)) (Operand.tmp 60)), none⟩]
attribute [go_sem] r8_14
def k8_2 : PC := (.post (.reg r8_14) ⟨[1, 4, 5, 7, 61], [.old 0, .old 1, .old 2], []⟩)
def r8_25 : List PO := [⟨(some 79), (Op.move (Operand.tmp 12)), none⟩,
  ⟨(some 80), (Op.move (Operand.tmp 4)), none⟩,
  ⟨(some 81), (Op.call { callee := (Callee.value (Operand.func 33)), args := #[(Operand.tmp 79), (Operand.tmp 80)], argTypes := #[45, 45] }), none⟩,
  ⟨(some 82), (Op.unOp UnOp.not 4 (Operand.tmp 81)), none⟩,
  ⟨(some 83), (Op.move (Operand.tmp 82)), none⟩,
  ⟨(some 84), (Op.move (Operand.tmp 13)), (some (83, false))⟩,
  ⟨(some 85), (Op.move (Operand.tmp 5)), (some (83, false))⟩,
  ⟨(some 86), (Op.binOp BinOp.neq 4 (Operand.tmp 84) (Operand.tmp 85) 4), (some (83, false))⟩,
  ⟨(some 87), (Op.pick (Operand.tmp 83) (Operand.const (Value.bool true)) (Operand.tmp 86)), none⟩]
attribute [go_sem] r8_25
def k8_3 : PC := (.post (.reg r8_25) ⟨[7, 10, 87], [.old 1], []⟩)
def r8_0 : List PO := [⟨(some 1), (Op.box 24 (Operand.tmp 0)), none⟩,
  ⟨(some 2), (Op.assign (Operand.const (Value.bool false))), none⟩]
attribute [go_sem] r8_0
def r8_1 : List PO := [⟨(some 3), (Op.assign (Operand.const (Value.int IntKind.i64 1048576))), none⟩]
attribute [go_sem] r8_1
def r8_2 : List PO := [⟨(some 14), (Op.load 24 (Operand.tmp 1)), none⟩,
  ⟨(some 15), (Op.move (Operand.tmp 3)), none⟩,
  ⟨(some 16), (Op.call { callee := (Callee.value (Operand.func 13)), args := #[(Operand.tmp 14), (Operand.tmp 15)], argTypes := #[24, 3] }), none⟩,
  ⟨(some 3), (Op.assign (Operand.tmp 16)), none⟩]
attribute [go_sem] r8_2
def r8_3 : List PO := [⟨(some 17), (Op.move (Operand.tmp 3)), none⟩,
  ⟨(some 18), (Op.binOp BinOp.lss 3 (Operand.tmp 17) (Operand.const (Value.int IntKind.i64 0)) 3), none⟩]
attribute [go_sem] r8_3
def r8_4 : List PO := [⟨(some 2), (Op.assign (Operand.const (Value.bool true))), none⟩]
attribute [go_sem] r8_4
def r8_5 : List PO := [⟨(some 20), (Op.load 24 (Operand.tmp 1)), none⟩,
  ⟨(some 21), (Op.call { callee := (Callee.value (Operand.func 15)), args := #[(Operand.tmp 20)], argTypes := #[24] }), none⟩,
  ⟨(some 22), (Op.call { callee := (Callee.value (Operand.func 31)), args := #[(Operand.tmp 21)], argTypes := #[27] }), none⟩,
  ⟨(some 19), (Op.move (Operand.tmp 22)), none⟩,
  ⟨(some 23), (Op.extract (Operand.tmp 19) 0), none⟩,
  ⟨(some 24), (Op.extract (Operand.tmp 19) 1), none⟩,
  ⟨(some 4), (Op.assign (Operand.tmp 23)), none⟩,
  ⟨(some 5), (Op.assign (Operand.tmp 24)), none⟩]
attribute [go_sem] r8_5
def r8_6 : List PO := [⟨(some 25), (Op.load 24 (Operand.tmp 1)), none⟩,
  ⟨(some 26), (Op.call { callee := (Callee.value (Operand.func 15)), args := #[(Operand.tmp 25)], argTypes := #[24] }), none⟩,
  ⟨(some 6), (Op.alloc 27), none⟩,
  ⟨none, (Op.store 27 (Operand.tmp 6) (Operand.tmp 26)), none⟩]
attribute [go_sem] r8_6
def r8_7 : List PO := [⟨(some 28), (Op.load 27 (Operand.tmp 6)), none⟩,
  ⟨(some 29), (Op.call { callee := (Callee.value (Operand.func 32)), args := #[(Operand.tmp 28)], argTypes := #[27] }), none⟩,
  ⟨(some 27), (Op.move (Operand.tmp 29)), none⟩,
  ⟨(some 30), (Op.extract (Operand.tmp 27) 0), none⟩,
  ⟨(some 31), (Op.extract (Operand.tmp 27) 1), none⟩,
  ⟨(some 7), (Op.assign (Operand.tmp 30)), none⟩,
  ⟨(some 8), (Op.assign (Operand.tmp 31)), none⟩]
attribute [go_sem] r8_7
def r8_9 : List PO := [⟨(some 2), (Op.assign (Operand.const (Value.bool false))), none⟩]
attribute [go_sem] r8_9
def r8_10 : List PO := [⟨(some 41), (Op.load 27 (Operand.tmp 6)), none⟩,
  ⟨(some 42), (Op.load 24 (Operand.tmp 1)), none⟩,
  ⟨(some 43), (Op.call { callee := (Callee.value (Operand.func 15)), args := #[(Operand.tmp 42)], argTypes := #[24] }), none⟩,
  ⟨(some 44), (Op.call { callee := (Callee.value (Operand.func 17)), args := #[(Operand.tmp 41), (Operand.tmp 43)], argTypes := #[27, 27] }), none⟩,
  ⟨(some 45), (Op.unOp UnOp.not 4 (Operand.tmp 44)), none⟩]
attribute [go_sem] r8_10
def r8_11 : List PO := [⟨(some 2), (Op.assign (Operand.const (Value.bool false))), none⟩]
attribute [go_sem] r8_11
def r8_12 : List PO := [⟨(some 9), (Op.assign (Operand.const (Value.int IntKind.i64 1))), none⟩]
attribute [go_sem] r8_12
def r8_13 : List PO := [⟨(some 46), (Op.load 27 (Operand.tmp 6)), none⟩,
  ⟨(some 47), (Op.move (Operand.tmp 9)), none⟩,
  ⟨(some 48), (Op.call { callee := (Callee.value (Operand.func 28)), args := #[(Operand.tmp 46), (Operand.tmp 47)], argTypes := #[27, 3] }), none⟩,
  ⟨(some 9), (Op.assign (Operand.tmp 48)), none⟩]
attribute [go_sem] r8_13
def r8_15 : List PO := [⟨(some 2), (Op.assign (Operand.const (Value.bool false))), none⟩]
attribute [go_sem] r8_15
def r8_16 : List PO := [⟨(some 10), (Op.assign (Operand.const (Value.int IntKind.i64 1))), none⟩]
attribute [go_sem] r8_16
def r8_17 : List PO := [⟨(some 62), (Op.move (Operand.tmp 7)), none⟩,
  ⟨(some 63), (Op.move (Operand.tmp 10)), none⟩,
  ⟨(some 64), (Op.call { callee := (Callee.value (Operand.func 34)), args := #[(Operand.tmp 62), (Operand.tmp 63)], argTypes := #[45, 3] }), none⟩,
  ⟨(some 10), (Op.assign (Operand.tmp 64)), none⟩]
attribute [go_sem] r8_17
def r8_18 : List PO := [⟨(some 11), (Op.assign (Operand.const (Value.int IntKind.i64 1))), none⟩]
attribute [go_sem] r8_18
def r8_19 : List PO := [⟨(some 65), (Op.move (Operand.tmp 7)), none⟩,
  ⟨(some 66), (Op.move (Operand.tmp 11)), none⟩,
  ⟨(some 67), (Op.call { callee := (Callee.value (Operand.func 35)), args := #[(Operand.tmp 65), (Operand.tmp 66)], argTypes := #[45, 3] }), none⟩,
  ⟨(some 11), (Op.assign (Operand.tmp 67)), none⟩]
attribute [go_sem] r8_19
def r8_20 : List PO := [⟨(some 68), (Op.move (Operand.tmp 11)), none⟩,
  ⟨(some 69), (Op.binOp BinOp.lss 3 (Operand.tmp 68) (Operand.const (Value.int IntKind.i64 0)) 3), none⟩]
attribute [go_sem] r8_20
def r8_21 : List PO := [⟨(some 2), (Op.assign (Operand.const (Value.bool false))), none⟩]
attribute [go_sem] r8_21
def r8_22 : List PO := [⟨(some 70), (Op.move (Operand.tmp 11)), none⟩,
  ⟨(some 71), (Op.move (Operand.tmp 10)), none⟩,
  ⟨(some 72), (Op.binOp BinOp.neq 3 (Operand.tmp 70) (Operand.tmp 71) 3), none⟩]
attribute [go_sem] r8_22
def r8_23 : List PO := [⟨(some 2), (Op.assign (Operand.const (Value.bool false))), none⟩]
attribute [go_sem] r8_23
def r8_24 : List PO := [⟨(some 74), (Op.load 24 (Operand.tmp 1)), none⟩,
  ⟨(some 75), (Op.call { callee := (Callee.value (Operand.func 15)), args := #[(Operand.tmp 74)], argTypes := #[24] }), none⟩,
  ⟨(some 76), (Op.call { callee := (Callee.value (Operand.func 32)), args := #[(Operand.tmp 75)], argTypes := #[27] }), none⟩,
  ⟨(some 73), (Op.move (Operand.tmp 76)), none⟩,
  ⟨(some 77), (Op.extract (Operand.tmp 73) 0), none⟩,
  ⟨(some 78), (Op.extract (Operand.tmp 73) 1), none⟩,
  ⟨(some 12), (Op.assign (Operand.tmp 77)), none⟩,
  ⟨(some 13), (Op.assign (Operand.tmp 78)), none⟩]
attribute [go_sem] r8_24
def r8_26 : List PO := [⟨(some 2), (Op.assign (Operand.const (Value.bool false))), none⟩]
attribute [go_sem] r8_26
def r8_27 : List PO := [⟨(some 11), (Op.assign (Operand.const (Value.int IntKind.i64 1))), none⟩]
attribute [go_sem] r8_27
def r8_28 : List PO := [⟨(some 88), (Op.move (Operand.tmp 7)), none⟩,
  ⟨(some 89), (Op.move (Operand.tmp 11)), none⟩,
  ⟨(some 90), (Op.call { callee := (Callee.value (Operand.func 35)), args := #[(Operand.tmp 88), (Operand.tmp 89)], argTypes := #[45, 3] }), none⟩,
  ⟨(some 11), (Op.assign (Operand.tmp 90)), none⟩]
attribute [go_sem] r8_28
def r8_29 : List PO := [⟨(some 91), (Op.move (Operand.tmp 11)), none⟩,
  ⟨(some 92), (Op.binOp BinOp.lss 3 (Operand.tmp 91) (Operand.const (Value.int IntKind.i64 0)) 3), none⟩]
attribute [go_sem] r8_29
def r8_31 : List PO := [⟨(some 93), (Op.move (Operand.tmp 11)), none⟩,
  ⟨(some 94), (Op.move (Operand.tmp 10)), none⟩,
  ⟨(some 95), (Op.binOp BinOp.neq 3 (Operand.tmp 93) (Operand.tmp 94) 3), none⟩]
attribute [go_sem] r8_31
def r8_33 : List PO := [⟨(some 2), (Op.assign (Operand.const (Value.bool true))), none⟩]
attribute [go_sem] r8_33
def c8 : PC := (.seq (.reg r8_0) (.seq (.reg r8_1) (.seq (.reg r8_2) (.seq (.seq (.reg r8_3) (.cond (Operand.tmp 18) (.seq (.reg r8_4) .ret) .skip)) (.seq (.reg r8_5) (.seq (.reg r8_6) (.seq (.reg r8_7) (.seq (.seq (.pre ⟨[1, 4, 5, 6, 7, 8], [.old 0, .old 2, .old 4, .old 3, .old 5], []⟩ k8_1) (.cond (Operand.tmp 40) (.seq (.reg r8_9) .ret) .skip)) (.seq (.seq (.fz r8_10) (.cond (Operand.tmp 45) (.seq (.reg r8_11) .ret) .skip)) (.seq (.reg r8_12) (.seq (.reg r8_13) (.seq (.seq (.pre ⟨[1, 4, 5, 7, 8, 9], [.old 0, .old 1, .old 4], []⟩ k8_2) (.cond (Operand.tmp 61) (.seq (.reg r8_15) .ret) .skip)) (.seq (.reg r8_16) (.seq (.reg r8_17) (.seq (.reg r8_18) (.seq (.reg r8_19) (.seq (.seq (.reg r8_20) (.cond (Operand.tmp 69) (.seq (.reg r8_21) .ret) .skip)) (.seq (.seq (.reg r8_22) (.cond (Operand.tmp 72) (.seq (.reg r8_23) .ret) .skip)) (.seq (.reg r8_24) (.seq (.seq (.pre ⟨[4, 5, 7, 10, 12, 13], [.old 1, .old 2, .old 4], []⟩ k8_3) (.cond (Operand.tmp 87) (.seq (.reg r8_26) .ret) .skip)) (.seq (.reg r8_27) (.seq (.reg r8_28) (.seq (.seq (.reg r8_29) (.cond (Operand.tmp 92) .bad .skip)) (.seq (.seq (.reg r8_31) (.cond (Operand.tmp 95) .bad .skip)) (.seq (.reg r8_33) .ret)))))))))))))))))))))))))
def i8 : FnI := ⟨96, [(ResultVar.tmp 2)], c8, 0, [[1]], [[0]], false, false, 0, true⟩
def tys : List (Nat × TyI) := [(3, ⟨1, 8, false, [.int .i64 0], [0], 0, [], .int .i64, false⟩),
  (4, ⟨1, 1, false, [.bool false], [0], 0, [], .bool, false⟩),
  (22, ⟨1, 24, false, [.nil], [1], 45, [], .other, false⟩),
  (24, ⟨1, 24, true, [.nil], [1], 0, [(0, 1, false)], .other, false⟩),
  (27, ⟨1, 24, true, [.nil], [1], 0, [(0, 1, false)], .other, false⟩),
  (31, ⟨1, 24, false, [.nil], [1], 3, [], .other, false⟩),
  (45, ⟨1, 24, false, [.nil], [1], 31, [], .other, false⟩)]
def fns : List (Nat × FnI) := [(8, i8), (13, i13), (14, i14), (15, i15), (16, i16), (17, i17), (19, i19), (21, i21), (28, i28), (29, i29), (30, i30), (31, i31), (32, i32), (33, i33), (34, i34), (35, i35), (46, i46), (47, i47), (48, i48), (49, i49), (50, i50), (51, i51), (52, i52), (53, i53), (54, i54), (55, i55), (56, i56), (58, i58), (60, i60), (61, i61), (62, i62), (72, i72), (73, i73), (74, i74), (79, i79), (86, i86), (87, i87), (88, i88), (89, i89), (90, i90), (91, i91), (92, i92), (96, i96), (100, i100), (101, i101)]
def T : Tab := mkTab tys fns
theorem soft0 : T.soft = false := rfl
theorem ty3 : T.ty 3 = some ⟨1, 8, false, [.int .i64 0], [0], 0, [], .int .i64, false⟩ := rfl
theorem base3 : T.baseOf 3 = Bs.int .i64 := rfl
theorem ty4 : T.ty 4 = some ⟨1, 1, false, [.bool false], [0], 0, [], .bool, false⟩ := rfl
theorem base4 : T.baseOf 4 = Bs.bool := rfl
theorem ty22 : T.ty 22 = some ⟨1, 24, false, [.nil], [1], 45, [], .other, false⟩ := rfl
theorem base22 : T.baseOf 22 = Bs.other := rfl
theorem elem22 : T.elemOf 22 = some ⟨1, 24, false, [.nil], [1], 31, [], .other, false⟩ := rfl
theorem ty24 : T.ty 24 = some ⟨1, 24, true, [.nil], [1], 0, [(0, 1, false)], .other, false⟩ := rfl
theorem base24 : T.baseOf 24 = Bs.other := rfl
theorem ty27 : T.ty 27 = some ⟨1, 24, true, [.nil], [1], 0, [(0, 1, false)], .other, false⟩ := rfl
theorem base27 : T.baseOf 27 = Bs.other := rfl
theorem ty31 : T.ty 31 = some ⟨1, 24, false, [.nil], [1], 3, [], .other, false⟩ := rfl
theorem base31 : T.baseOf 31 = Bs.other := rfl
theorem elem31 : T.elemOf 31 = some ⟨1, 8, false, [.int .i64 0], [0], 0, [], .int .i64, false⟩ := rfl
theorem ty45 : T.ty 45 = some ⟨1, 24, false, [.nil], [1], 31, [], .other, false⟩ := rfl
theorem base45 : T.baseOf 45 = Bs.other := rfl
theorem elem45 : T.elemOf 45 = some ⟨1, 24, false, [.nil], [1], 3, [], .other, false⟩ := rfl
attribute [go_sem] soft0 ty3 base3 ty4 base4 ty22 base22 elem22 ty24 base24 ty27 base27 ty31 base31 elem31 ty45 base45 elem45
theorem ok8 : FnOk Try.prog (8, i8) := ⟨Try.f8, _, Try.func8, rfl, by kernel_rfl, rfl, rfl, by kernel_rfl⟩
theorem ok13 : FnOk Try.prog (13, i13) := ⟨Try.f13, _, Try.func13, rfl, by kernel_rfl, rfl, rfl, by kernel_rfl⟩
theorem ok14 : FnOk Try.prog (14, i14) := ⟨Try.f14, _, Try.func14, rfl, by kernel_rfl, rfl, rfl, by kernel_rfl⟩
theorem ok15 : FnOk Try.prog (15, i15) := ⟨Try.f15, _, Try.func15, rfl, by kernel_rfl, rfl, rfl, by kernel_rfl⟩
theorem ok16 : FnOk Try.prog (16, i16) := ⟨Try.f16, _, Try.func16, rfl, by kernel_rfl, rfl, rfl, by kernel_rfl⟩
theorem ok17 : FnOk Try.prog (17, i17) := ⟨Try.f17, _, Try.func17, rfl, by kernel_rfl, rfl, rfl, by kernel_rfl⟩
theorem ok19 : FnOk Try.prog (19, i19) := ⟨Try.f19, _, Try.func19, rfl, by kernel_rfl, rfl, rfl, by kernel_rfl⟩
theorem ok21 : FnOk Try.prog (21, i21) := ⟨Try.f21, _, Try.func21, rfl, by kernel_rfl, rfl, rfl, by kernel_rfl⟩
theorem ok28 : FnOk Try.prog (28, i28) := ⟨Try.f28, _, Try.func28, rfl, by kernel_rfl, rfl, rfl, by kernel_rfl⟩
theorem ok29 : FnOk Try.prog (29, i29) := ⟨Try.f29, _, Try.func29, rfl, by kernel_rfl, rfl, rfl, by kernel_rfl⟩
theorem ok30 : FnOk Try.prog (30, i30) := ⟨Try.f30, _, Try.func30, rfl, by kernel_rfl, rfl, rfl, by kernel_rfl⟩
theorem ok31 : FnOk Try.prog (31, i31) := ⟨Try.f31, _, Try.func31, rfl, by kernel_rfl, rfl, rfl, by kernel_rfl⟩
theorem ok32 : FnOk Try.prog (32, i32) := ⟨Try.f32, _, Try.func32, rfl, by kernel_rfl, rfl, rfl, by kernel_rfl⟩
theorem ok33 : FnOk Try.prog (33, i33) := ⟨Try.f33, _, Try.func33, rfl, by kernel_rfl, rfl, rfl, by kernel_rfl⟩
theorem ok34 : FnOk Try.prog (34, i34) := ⟨Try.f34, _, Try.func34, rfl, by kernel_rfl, rfl, rfl, by kernel_rfl⟩
theorem ok35 : FnOk Try.prog (35, i35) := ⟨Try.f35, _, Try.func35, rfl, by kernel_rfl, rfl, rfl, by kernel_rfl⟩
theorem ok46 : FnOk Try.prog (46, i46) := ⟨Try.f46, _, Try.func46, rfl, by kernel_rfl, rfl, rfl, by kernel_rfl⟩
theorem ok47 : FnOk Try.prog (47, i47) := ⟨Try.f47, _, Try.func47, rfl, by kernel_rfl, rfl, rfl, by kernel_rfl⟩
theorem ok48 : FnOk Try.prog (48, i48) := ⟨Try.f48, _, Try.func48, rfl, by kernel_rfl, rfl, rfl, by kernel_rfl⟩
theorem ok49 : FnOk Try.prog (49, i49) := ⟨Try.f49, _, Try.func49, rfl, by kernel_rfl, rfl, rfl, by kernel_rfl⟩
theorem ok50 : FnOk Try.prog (50, i50) := ⟨Try.f50, _, Try.func50, rfl, by kernel_rfl, rfl, rfl, by kernel_rfl⟩
theorem ok51 : FnOk Try.prog (51, i51) := ⟨Try.f51, _, Try.func51, rfl, by kernel_rfl, rfl, rfl, by kernel_rfl⟩
theorem ok52 : FnOk Try.prog (52, i52) := ⟨Try.f52, _, Try.func52, rfl, by kernel_rfl, rfl, rfl, by kernel_rfl⟩
theorem ok53 : FnOk Try.prog (53, i53) := ⟨Try.f53, _, Try.func53, rfl, by kernel_rfl, rfl, rfl, by kernel_rfl⟩
theorem ok54 : FnOk Try.prog (54, i54) := ⟨Try.f54, _, Try.func54, rfl, by kernel_rfl, rfl, rfl, by kernel_rfl⟩
theorem ok55 : FnOk Try.prog (55, i55) := ⟨Try.f55, _, Try.func55, rfl, by kernel_rfl, rfl, rfl, by kernel_rfl⟩
theorem ok56 : FnOk Try.prog (56, i56) := ⟨Try.f56, _, Try.func56, rfl, by kernel_rfl, rfl, rfl, by kernel_rfl⟩
theorem ok58 : FnOk Try.prog (58, i58) := ⟨Try.f58, _, Try.func58, rfl, by kernel_rfl, rfl, rfl, by kernel_rfl⟩
theorem ok60 : FnOk Try.prog (60, i60) := ⟨Try.f60, _, Try.func60, rfl, by kernel_rfl, rfl, rfl, by kernel_rfl⟩
theorem ok61 : FnOk Try.prog (61, i61) := ⟨Try.f61, _, Try.func61, rfl, by kernel_rfl, rfl, rfl, by kernel_rfl⟩
theorem ok62 : FnOk Try.prog (62, i62) := ⟨Try.f62, _, Try.func62, rfl, by kernel_rfl, rfl, rfl, by kernel_rfl⟩
theorem ok72 : FnOk Try.prog (72, i72) := ⟨Try.f72, _, Try.func72, rfl, by kernel_rfl, rfl, rfl, by kernel_rfl⟩
theorem ok73 : FnOk Try.prog (73, i73) := ⟨Try.f73, _, Try.func73, rfl, by kernel_rfl, rfl, rfl, by kernel_rfl⟩
theorem ok74 : FnOk Try.prog (74, i74) := ⟨Try.f74, _, Try.func74, rfl, by kernel_rfl, rfl, rfl, by kernel_rfl⟩
theorem ok79 : FnOk Try.prog (79, i79) := ⟨Try.f79, _, Try.func79, rfl, by kernel_rfl, rfl, rfl, by kernel_rfl⟩
theorem ok86 : FnOk Try.prog (86, i86) := ⟨Try.f86, _, Try.func86, rfl, by kernel_rfl, rfl, rfl, by kernel_rfl⟩
theorem ok87 : FnOk Try.prog (87, i87) := ⟨Try.f87, _, Try.func87, rfl, by kernel_rfl, rfl, rfl, by kernel_rfl⟩
theorem ok88 : FnOk Try.prog (88, i88) := ⟨Try.f88, _, Try.func88, rfl, by kernel_rfl, rfl, rfl, by kernel_rfl⟩
theorem ok89 : FnOk Try.prog (89, i89) := ⟨Try.f89, _, Try.func89, rfl, by kernel_rfl, rfl, rfl, by kernel_rfl⟩
theorem ok90 : FnOk Try.prog (90, i90) := ⟨Try.f90, _, Try.func90, rfl, by kernel_rfl, rfl, rfl, by kernel_rfl⟩
theorem ok91 : FnOk Try.prog (91, i91) := ⟨Try.f91, _, Try.func91, rfl, by kernel_rfl, rfl, rfl, by kernel_rfl⟩
theorem ok92 : FnOk Try.prog (92, i92) := ⟨Try.f92, _, Try.func92, rfl, by kernel_rfl, rfl, rfl, by kernel_rfl⟩
theorem ok96 : FnOk Try.prog (96, i96) := ⟨Try.f96, _, Try.func96, rfl, by kernel_rfl, rfl, rfl, by kernel_rfl⟩
theorem ok100 : FnOk Try.prog (100, i100) := ⟨Try.f100, _, Try.func100, rfl, by kernel_rfl, rfl, rfl, by kernel_rfl⟩
theorem ok101 : FnOk Try.prog (101, i101) := ⟨Try.f101, _, Try.func101, rfl, by kernel_rfl, rfl, rfl, by kernel_rfl⟩
theorem tab : TabOk Try.prog T := tabOk_of (by kernel_rfl) (.cons ok8 (.cons ok13 (.cons ok14 (.cons ok15 (.cons ok16 (.cons ok17 (.cons ok19 (.cons ok21 (.cons ok28 (.cons ok29 (.cons ok30 (.cons ok31 (.cons ok32 (.cons ok33 (.cons ok34 (.cons ok35 (.cons ok46 (.cons ok47 (.cons ok48 (.cons ok49 (.cons ok50 (.cons ok51 (.cons ok52 (.cons ok53 (.cons ok54 (.cons ok55 (.cons ok56 (.cons ok58 (.cons ok60 (.cons ok61 (.cons ok62 (.cons ok72 (.cons ok73 (.cons ok74 (.cons ok79 (.cons ok86 (.cons ok87 (.cons ok88 (.cons ok89 (.cons ok90 (.cons ok91 (.cons ok92 (.cons ok96 (.cons ok100 (.cons ok101 (.nil))))))))))))))))))))))))))))))))))))))))))))))
theorem fn8 : T.fn 8 = some i8 := rfl
theorem fn13 : T.fn 13 = some i13 := rfl
theorem fn14 : T.fn 14 = some i14 := rfl
theorem fn15 : T.fn 15 = some i15 := rfl
theorem fn16 : T.fn 16 = some i16 := rfl
theorem fn17 : T.fn 17 = some i17 := rfl
theorem fn19 : T.fn 19 = some i19 := rfl
theorem fn21 : T.fn 21 = some i21 := rfl
theorem fn28 : T.fn 28 = some i28 := rfl
theorem fn29 : T.fn 29 = some i29 := rfl
theorem fn30 : T.fn 30 = some i30 := rfl
theorem fn31 : T.fn 31 = some i31 := rfl
theorem fn32 : T.fn 32 = some i32 := rfl
theorem fn33 : T.fn 33 = some i33 := rfl
theorem fn34 : T.fn 34 = some i34 := rfl
theorem fn35 : T.fn 35 = some i35 := rfl
theorem fn46 : T.fn 46 = some i46 := rfl
theorem fn47 : T.fn 47 = some i47 := rfl
theorem fn48 : T.fn 48 = some i48 := rfl
theorem fn49 : T.fn 49 = some i49 := rfl
theorem fn50 : T.fn 50 = some i50 := rfl
theorem fn51 : T.fn 51 = some i51 := rfl
theorem fn52 : T.fn 52 = some i52 := rfl
theorem fn53 : T.fn 53 = some i53 := rfl
theorem fn54 : T.fn 54 = some i54 := rfl
theorem fn55 : T.fn 55 = some i55 := rfl
theorem fn56 : T.fn 56 = some i56 := rfl
theorem fn58 : T.fn 58 = some i58 := rfl
theorem fn60 : T.fn 60 = some i60 := rfl
theorem fn61 : T.fn 61 = some i61 := rfl
theorem fn62 : T.fn 62 = some i62 := rfl
theorem fn72 : T.fn 72 = some i72 := rfl
theorem fn73 : T.fn 73 = some i73 := rfl
theorem fn74 : T.fn 74 = some i74 := rfl
theorem fn79 : T.fn 79 = some i79 := rfl
theorem fn86 : T.fn 86 = some i86 := rfl
theorem fn87 : T.fn 87 = some i87 := rfl
theorem fn88 : T.fn 88 = some i88 := rfl
theorem fn89 : T.fn 89 = some i89 := rfl
theorem fn90 : T.fn 90 = some i90 := rfl
theorem fn91 : T.fn 91 = some i91 := rfl
theorem fn92 : T.fn 92 = some i92 := rfl
theorem fn96 : T.fn 96 = some i96 := rfl
theorem fn100 : T.fn 100 = some i100 := rfl
theorem fn101 : T.fn 101 = some i101 := rfl
theorem fns8 : (T.at true).fn 8 = some i8 := rfl
theorem fns13 : (T.at true).fn 13 = some i13 := rfl
theorem fns14 : (T.at true).fn 14 = some i14 := rfl
theorem fns15 : (T.at true).fn 15 = some i15 := rfl
theorem fns16 : (T.at true).fn 16 = some i16 := rfl
theorem fns17 : (T.at true).fn 17 = some i17 := rfl
theorem fns19 : (T.at true).fn 19 = some i19 := rfl
theorem fns21 : (T.at true).fn 21 = some i21 := rfl
theorem fns28 : (T.at true).fn 28 = some i28 := rfl
theorem fns29 : (T.at true).fn 29 = some i29 := rfl
theorem fns30 : (T.at true).fn 30 = some i30 := rfl
theorem fns31 : (T.at true).fn 31 = some i31 := rfl
theorem fns32 : (T.at true).fn 32 = some i32 := rfl
theorem fns33 : (T.at true).fn 33 = some i33 := rfl
theorem fns34 : (T.at true).fn 34 = some i34 := rfl
theorem fns35 : (T.at true).fn 35 = some i35 := rfl
theorem fns46 : (T.at true).fn 46 = some i46 := rfl
theorem fns47 : (T.at true).fn 47 = some i47 := rfl
theorem fns48 : (T.at true).fn 48 = some i48 := rfl
theorem fns49 : (T.at true).fn 49 = some i49 := rfl
theorem fns50 : (T.at true).fn 50 = some i50 := rfl
theorem fns51 : (T.at true).fn 51 = some i51 := rfl
theorem fns52 : (T.at true).fn 52 = some i52 := rfl
theorem fns53 : (T.at true).fn 53 = some i53 := rfl
theorem fns54 : (T.at true).fn 54 = some i54 := rfl
theorem fns55 : (T.at true).fn 55 = some i55 := rfl
theorem fns56 : (T.at true).fn 56 = some i56 := rfl
theorem fns58 : (T.at true).fn 58 = some i58 := rfl
theorem fns60 : (T.at true).fn 60 = some i60 := rfl
theorem fns61 : (T.at true).fn 61 = some i61 := rfl
theorem fns62 : (T.at true).fn 62 = some i62 := rfl
theorem fns72 : (T.at true).fn 72 = some i72 := rfl
theorem fns73 : (T.at true).fn 73 = some i73 := rfl
theorem fns74 : (T.at true).fn 74 = some i74 := rfl
theorem fns79 : (T.at true).fn 79 = some i79 := rfl
theorem fns86 : (T.at true).fn 86 = some i86 := rfl
theorem fns87 : (T.at true).fn 87 = some i87 := rfl
theorem fns88 : (T.at true).fn 88 = some i88 := rfl
theorem fns89 : (T.at true).fn 89 = some i89 := rfl
theorem fns90 : (T.at true).fn 90 = some i90 := rfl
theorem fns91 : (T.at true).fn 91 = some i91 := rfl
theorem fns92 : (T.at true).fn 92 = some i92 := rfl
theorem fns96 : (T.at true).fn 96 = some i96 := rfl
theorem fns100 : (T.at true).fn 100 = some i100 := rfl
theorem fns101 : (T.at true).fn 101 = some i101 := rfl
end Go.Pi.Ytpfoleebeamgpaa.StableOnes
