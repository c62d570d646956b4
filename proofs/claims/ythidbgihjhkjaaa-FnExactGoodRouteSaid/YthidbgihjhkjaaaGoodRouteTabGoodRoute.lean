/- What functions of the program answer, and that the law answers true at every input; no condition -/
import Derived.Test.YthidbgihjhkjaaaProg
import Derived.Test.YthidbgihjhkjaaaPiC
set_option linter.all false
/- The program's tables for Pi: types and functions, as they stand in the loaded program. -/
namespace Go.Pi.Ythidbgihjhkjaaa.GoodRoute
open Go Go.Proofs Go.Pi
set_option maxRecDepth 100000

-- loop.example/g00344/laws.FnExactGoodRoute
def r3_0 : List PO := [⟨(some 1), (Op.box 28 (Operand.tmp 0)), none⟩,
  ⟨(some 2), (Op.assign (Operand.const (Value.bool false))), none⟩]
def r3_1 : List PO := [⟨(some 3), (Op.assign (Operand.const (Value.int IntKind.i64 1048576))), none⟩]
def r3_2 : List PO := [⟨(some 7), (Op.load 28 (Operand.tmp 1)), none⟩,
  ⟨(some 8), (Op.move (Operand.tmp 3)), none⟩,
  ⟨(some 9), (Op.call { callee := (Callee.value (Operand.func 8)), args := #[(Operand.tmp 7), (Operand.tmp 8)], argTypes := #[28, 3] }), none⟩,
  ⟨(some 3), (Op.assign (Operand.tmp 9)), none⟩]
def r3_3 : List PO := [⟨(some 10), (Op.move (Operand.tmp 3)), none⟩,
  ⟨(some 11), (Op.binOp BinOp.lss 3 (Operand.tmp 10) (Operand.const (Value.int IntKind.i64 0)) 3), none⟩]
def r3_4 : List PO := [⟨(some 2), (Op.assign (Operand.const (Value.bool true))), none⟩]
def r3_5 : List PO := [⟨(some 12), (Op.load 28 (Operand.tmp 1)), none⟩,
  ⟨(some 13), (Op.call { callee := (Callee.value (Operand.func 10)), args := #[(Operand.tmp 12)], argTypes := #[28] }), none⟩,
  ⟨(some 14), (Op.call { callee := (Callee.value (Operand.func 9)), args := #[(Operand.tmp 13)], argTypes := #[34] }), none⟩,
  ⟨(some 4), (Op.assign (Operand.tmp 14)), none⟩]
def r3_6 : List PO := [⟨(some 15), (Op.load 28 (Operand.tmp 1)), none⟩,
  ⟨(some 16), (Op.call { callee := (Callee.value (Operand.func 10)), args := #[(Operand.tmp 15)], argTypes := #[28] }), none⟩,
  ⟨(some 5), (Op.alloc 34), none⟩,
  ⟨none, (Op.store 34 (Operand.tmp 5) (Operand.tmp 16)), none⟩]
def r3_7 : List PO := [⟨(some 17), (Op.load 34 (Operand.tmp 5)), none⟩,
  ⟨(some 18), (Op.call { callee := (Callee.value (Operand.func 11)), args := #[(Operand.tmp 17)], argTypes := #[34] }), none⟩,
  ⟨(some 6), (Op.assign (Operand.tmp 18)), none⟩]
def r3_8 : List PO := [⟨(some 19), (Op.move (Operand.tmp 6)), none⟩,
  ⟨(some 20), (Op.move (Operand.tmp 4)), none⟩,
  ⟨(some 21), (Op.binOp BinOp.neq 4 (Operand.tmp 19) (Operand.tmp 20) 4), none⟩]
def r3_9 : List PO := [⟨(some 2), (Op.assign (Operand.const (Value.bool false))), none⟩]
def r3_10 : List PO := [⟨(some 22), (Op.load 34 (Operand.tmp 5)), none⟩,
  ⟨(some 23), (Op.load 28 (Operand.tmp 1)), none⟩,
  ⟨(some 24), (Op.call { callee := (Callee.value (Operand.func 10)), args := #[(Operand.tmp 23)], argTypes := #[28] }), none⟩,
  ⟨(some 25), (Op.call { callee := (Callee.value (Operand.func 12)), args := #[(Operand.tmp 22), (Operand.tmp 24)], argTypes := #[34, 34] }), none⟩,
  ⟨(some 26), (Op.unOp UnOp.not 4 (Operand.tmp 25)), none⟩]
def r3_11 : List PO := [⟨(some 2), (Op.assign (Operand.const (Value.bool false))), none⟩]
def r3_12 : List PO := [⟨(some 2), (Op.assign (Operand.const (Value.bool true))), none⟩]
def c3 : PC := (.seq (.reg r3_0) (.seq (.reg r3_1) (.seq (.reg r3_2) (.seq (.seq (.reg r3_3) (.cond (Operand.tmp 11) (.seq (.reg r3_4) .ret) .skip)) (.seq (.reg r3_5) (.seq (.reg r3_6) (.seq (.reg r3_7) (.seq (.seq (.reg r3_8) (.cond (Operand.tmp 21) (.seq (.reg r3_9) .ret) .skip)) (.seq (.seq (.fz r3_10) (.cond (Operand.tmp 26) (.seq (.reg r3_11) .ret) .skip)) (.seq (.reg r3_12) .ret))))))))))
def i3 : FnI := ⟨27, [(ResultVar.tmp 2)], c3, 0, [[0, 0, 0, 1, 0, 0, 0, 1]], [[0]], false⟩
-- loop.example/g00344/laws.szRoute
def r8_0 : List PO := [⟨(some 2), (Op.box 28 (Operand.tmp 0)), none⟩,
  ⟨(some 4), (Op.assign (Operand.const (Value.int IntKind.i64 0))), none⟩]
def r8_1 : List PO := [⟨(some 5), (Op.fieldAddr 28 (Operand.tmp 2) 1), none⟩,
  ⟨(some 6), (Op.load 26 (Operand.tmp 5)), none⟩,
  ⟨(some 7), (Op.move (Operand.tmp 1)), none⟩,
  ⟨(some 8), (Op.call { callee := (Callee.value (Operand.func 32)), args := #[(Operand.tmp 6), (Operand.tmp 7)], argTypes := #[26, 3] }), none⟩,
  ⟨(some 1), (Op.assign (Operand.tmp 8)), none⟩]
def r8_2 : List PO := [⟨(some 9), (Op.move (Operand.tmp 1)), none⟩,
  ⟨(some 10), (Op.binOp BinOp.lss 3 (Operand.tmp 9) (Operand.const (Value.int IntKind.i64 0)) 3), none⟩]
def r8_3 : List PO := [⟨(some 4), (Op.assign (Operand.const (Value.int IntKind.i64 (-1)))), none⟩]
def r8_4 : List PO := [⟨(some 11), (Op.move (Operand.tmp 1)), none⟩,
  ⟨(some 4), (Op.assign (Operand.tmp 11)), none⟩]
def c8 : PC := (.seq (.reg r8_0) (.seq (.reg r8_1) (.seq (.seq (.reg r8_2) (.cond (Operand.tmp 10) (.seq (.reg r8_3) .ret) .skip)) (.seq (.reg r8_4) .ret))))
def i8 : FnI := ⟨12, [(ResultVar.tmp 4)], c8, 0, [[0, 0, 0, 1, 0, 0, 0, 1], [0]], [[0]], false⟩
-- loop.example/g00344/spec.GoodRoute
def r9_0 : List PO := [⟨(some 1), (Op.box 34 (Operand.tmp 0)), none⟩,
  ⟨(some 2), (Op.assign (Operand.const (Value.bool false))), none⟩]
def r9_1 : List PO := [⟨(some 3), (Op.fieldAddr 34 (Operand.tmp 1) 0), none⟩,
  ⟨(some 4), (Op.load 31 (Operand.tmp 3)), none⟩,
  ⟨(some 5), (Op.call { callee := (Callee.value (Operand.func 33)), args := #[(Operand.tmp 4)], argTypes := #[31] }), none⟩,
  ⟨(some 6), (Op.move (Operand.tmp 5)), none⟩,
  ⟨(some 7), (Op.fieldAddr 34 (Operand.tmp 1) 1), (some (6, true))⟩,
  ⟨(some 8), (Op.load 32 (Operand.tmp 7)), (some (6, true))⟩,
  ⟨(some 9), (Op.call { callee := (Callee.value (Operand.func 34)), args := #[(Operand.tmp 8)], argTypes := #[32] }), (some (6, true))⟩,
  ⟨(some 10), (Op.pick (Operand.tmp 6) (Operand.tmp 9) (Operand.const (Value.bool false))), none⟩,
  ⟨(some 2), (Op.assign (Operand.tmp 10)), none⟩]
def c9 : PC := (.seq (.reg r9_0) (.seq (.reg r9_1) .ret))
def i9 : FnI := ⟨11, [(ResultVar.tmp 2)], c9, 0, [[0, 0, 0, 1, 0, 0, 0, 1]], [[0]], false⟩
-- loop.example/g00344/laws.toRoute
def r10_0 : List PO := [⟨(some 1), (Op.box 28 (Operand.tmp 0)), none⟩,
  ⟨(some 2), (Op.alloc 34), none⟩]
def r10_1 : List PO := [⟨(some 3), (Op.alloc 34), none⟩]
def r10_2 : List PO := [⟨(some 4), (Op.fieldAddr 28 (Operand.tmp 1) 0), none⟩,
  ⟨(some 5), (Op.load 23 (Operand.tmp 4)), none⟩,
  ⟨(some 6), (Op.call { callee := (Callee.value (Operand.func 35)), args := #[(Operand.tmp 5)], argTypes := #[23] }), none⟩,
  ⟨(some 7), (Op.fieldAddr 34 (Operand.tmp 3) 0), none⟩,
  ⟨none, (Op.store 31 (Operand.tmp 7) (Operand.tmp 6)), none⟩]
def r10_3 : List PO := [⟨(some 8), (Op.fieldAddr 28 (Operand.tmp 1) 1), none⟩,
  ⟨(some 9), (Op.load 26 (Operand.tmp 8)), none⟩,
  ⟨(some 10), (Op.call { callee := (Callee.value (Operand.func 36)), args := #[(Operand.tmp 9)], argTypes := #[26] }), none⟩,
  ⟨(some 11), (Op.fieldAddr 34 (Operand.tmp 3) 1), none⟩,
  ⟨none, (Op.store 32 (Operand.tmp 11) (Operand.tmp 10)), none⟩]
def r10_4 : List PO := [⟨(some 12), (Op.load 34 (Operand.tmp 3)), none⟩,
  ⟨none, (Op.store 34 (Operand.tmp 2) (Operand.tmp 12)), none⟩]
def c10 : PC := (.seq (.reg r10_0) (.seq (.reg r10_1) (.seq (.reg r10_2) (.seq (.reg r10_3) (.seq (.reg r10_4) .ret)))))
def i10 : FnI := ⟨13, [(ResultVar.cell 2 34)], c10, 0, [[0, 0, 0, 1, 0, 0, 0, 1]], [[0, 0, 0, 1, 0, 0, 0, 1]], false⟩
-- loop.example/g00344/impl.GoodRoute
def r11_0 : List PO := [⟨(some 1), (Op.box 34 (Operand.tmp 0)), none⟩,
  ⟨(some 2), (Op.assign (Operand.const (Value.bool false))), none⟩]
def r11_1 : List PO := [⟨(some 3), (Op.fieldAddr 34 (Operand.tmp 1) 0), none⟩,
  ⟨(some 4), (Op.load 31 (Operand.tmp 3)), none⟩,
  ⟨(some 5), (Op.call { callee := (Callee.value (Operand.func 37)), args := #[(Operand.tmp 4)], argTypes := #[31] }), none⟩,
  ⟨(some 6), (Op.move (Operand.tmp 5)), none⟩,
  ⟨(some 7), (Op.fieldAddr 34 (Operand.tmp 1) 1), (some (6, true))⟩,
  ⟨(some 8), (Op.load 32 (Operand.tmp 7)), (some (6, true))⟩,
  ⟨(some 9), (Op.call { callee := (Callee.value (Operand.func 38)), args := #[(Operand.tmp 8)], argTypes := #[32] }), (some (6, true))⟩,
  ⟨(some 10), (Op.pick (Operand.tmp 6) (Operand.tmp 9) (Operand.const (Value.bool false))), none⟩,
  ⟨(some 2), (Op.assign (Operand.tmp 10)), none⟩]
def c11 : PC := (.seq (.reg r11_0) (.seq (.reg r11_1) .ret))
def i11 : FnI := ⟨11, [(ResultVar.tmp 2)], c11, 0, [[0, 0, 0, 1, 0, 0, 0, 1]], [[0]], false⟩
-- loop.example/g00344/laws.eqRoute
def r12_0 : List PO := [⟨(some 2), (Op.box 34 (Operand.tmp 0)), none⟩,
  ⟨(some 3), (Op.box 34 (Operand.tmp 1)), none⟩,
  ⟨(some 4), (Op.assign (Operand.const (Value.bool false))), none⟩]
def r12_1 : List PO := [⟨(some 5), (Op.fieldAddr 34 (Operand.tmp 2) 0), none⟩,
  ⟨(some 6), (Op.load 31 (Operand.tmp 5)), none⟩,
  ⟨(some 7), (Op.fieldAddr 34 (Operand.tmp 3) 0), none⟩,
  ⟨(some 8), (Op.load 31 (Operand.tmp 7)), none⟩,
  ⟨(some 9), (Op.call { callee := (Callee.value (Operand.func 39)), args := #[(Operand.tmp 6), (Operand.tmp 8)], argTypes := #[31, 31] }), none⟩,
  ⟨(some 10), (Op.unOp UnOp.not 4 (Operand.tmp 9)), none⟩]
def r12_2 : List PO := [⟨(some 4), (Op.assign (Operand.const (Value.bool false))), none⟩]
def r12_3 : List PO := [⟨(some 11), (Op.fieldAddr 34 (Operand.tmp 2) 1), none⟩,
  ⟨(some 12), (Op.load 32 (Operand.tmp 11)), none⟩,
  ⟨(some 13), (Op.fieldAddr 34 (Operand.tmp 3) 1), none⟩,
  ⟨(some 14), (Op.load 32 (Operand.tmp 13)), none⟩,
  ⟨(some 15), (Op.call { callee := (Callee.value (Operand.func 40)), args := #[(Operand.tmp 12), (Operand.tmp 14)], argTypes := #[32, 32] }), none⟩,
  ⟨(some 16), (Op.unOp UnOp.not 4 (Operand.tmp 15)), none⟩]
def r12_4 : List PO := [⟨(some 4), (Op.assign (Operand.const (Value.bool false))), none⟩]
def r12_5 : List PO := [⟨(some 4), (Op.assign (Operand.const (Value.bool true))), none⟩]
def c12 : PC := (.seq (.reg r12_0) (.seq (.seq (.reg r12_1) (.cond (Operand.tmp 10) (.seq (.reg r12_2) .ret) .skip)) (.seq (.seq (.reg r12_3) (.cond (Operand.tmp 16) (.seq (.reg r12_4) .ret) .skip)) (.seq (.reg r12_5) .ret))))
def i12 : FnI := ⟨17, [(ResultVar.tmp 4)], c12, 0, [[0, 0, 0, 1, 0, 0, 0, 1], [0, 0, 0, 1, 0, 0, 0, 1]], [[0]], false⟩
-- loop.example/g00344/laws.szAttrs
def r32_0 : List PO := [⟨(some 2), (Op.box 26 (Operand.tmp 0)), none⟩,
  ⟨(some 4), (Op.assign (Operand.const (Value.int IntKind.i64 0))), none⟩]
def r32_1 : List PO := [⟨(some 5), (Op.fieldAddr 26 (Operand.tmp 2) 1), none⟩,
  ⟨(some 6), (Op.load 24 (Operand.tmp 5)), none⟩,
  ⟨(some 7), (Op.move (Operand.tmp 1)), none⟩,
  ⟨(some 8), (Op.call { callee := (Callee.value (Operand.func 70)), args := #[(Operand.tmp 6), (Operand.tmp 7)], argTypes := #[24, 3] }), none⟩,
  ⟨(some 1), (Op.assign (Operand.tmp 8)), none⟩]
def r32_2 : List PO := [⟨(some 9), (Op.move (Operand.tmp 1)), none⟩,
  ⟨(some 10), (Op.binOp BinOp.lss 3 (Operand.tmp 9) (Operand.const (Value.int IntKind.i64 0)) 3), none⟩]
def r32_3 : List PO := [⟨(some 4), (Op.assign (Operand.const (Value.int IntKind.i64 (-1)))), none⟩]
def r32_4 : List PO := [⟨(some 11), (Op.fieldAddr 26 (Operand.tmp 2) 5), none⟩,
  ⟨(some 12), (Op.load 24 (Operand.tmp 11)), none⟩,
  ⟨(some 13), (Op.move (Operand.tmp 1)), none⟩,
  ⟨(some 14), (Op.call { callee := (Callee.value (Operand.func 70)), args := #[(Operand.tmp 12), (Operand.tmp 13)], argTypes := #[24, 3] }), none⟩,
  ⟨(some 1), (Op.assign (Operand.tmp 14)), none⟩]
def r32_5 : List PO := [⟨(some 15), (Op.move (Operand.tmp 1)), none⟩,
  ⟨(some 16), (Op.binOp BinOp.lss 3 (Operand.tmp 15) (Operand.const (Value.int IntKind.i64 0)) 3), none⟩]
def r32_6 : List PO := [⟨(some 4), (Op.assign (Operand.const (Value.int IntKind.i64 (-1)))), none⟩]
def r32_7 : List PO := [⟨(some 17), (Op.move (Operand.tmp 1)), none⟩,
  ⟨(some 4), (Op.assign (Operand.tmp 17)), none⟩]
def c32 : PC := (.seq (.reg r32_0) (.seq (.reg r32_1) (.seq (.seq (.reg r32_2) (.cond (Operand.tmp 10) (.seq (.reg r32_3) .ret) .skip)) (.seq (.reg r32_4) (.seq (.seq (.reg r32_5) (.cond (Operand.tmp 16) (.seq (.reg r32_6) .ret) .skip)) (.seq (.reg r32_7) .ret))))))
def i32 : FnI := ⟨18, [(ResultVar.tmp 4)], c32, 0, [[0, 1, 0, 0, 0, 1], [0]], [[0]], false⟩
-- loop.example/g00344/spec.GoodPrefix
def r33_0 : List PO := [⟨(some 1), (Op.box 31 (Operand.tmp 0)), none⟩,
  ⟨(some 2), (Op.assign (Operand.const (Value.bool false))), none⟩]
def r33_1 : List PO := [⟨(some 3), (Op.fieldAddr 31 (Operand.tmp 1) 1), none⟩,
  ⟨(some 4), (Op.load 3 (Operand.tmp 3)), none⟩,
  ⟨(some 5), (Op.call { callee := (Callee.value (Operand.func 71)), args := #[(Operand.tmp 4), (Operand.const (Value.int IntKind.i64 0)), (Operand.const (Value.int IntKind.i64 32))], argTypes := #[3, 3, 3] }), none⟩,
  ⟨(some 6), (Op.move (Operand.tmp 5)), none⟩,
  ⟨(some 7), (Op.fieldAddr 31 (Operand.tmp 1) 0), (some (6, true))⟩,
  ⟨(some 8), (Op.load 3 (Operand.tmp 7)), (some (6, true))⟩,
  ⟨(some 9), (Op.call { callee := (Callee.value (Operand.func 72)), args := #[(Operand.tmp 8)], argTypes := #[3] }), (some (6, true))⟩,
  ⟨(some 10), (Op.pick (Operand.tmp 6) (Operand.tmp 9) (Operand.const (Value.bool false))), none⟩,
  ⟨(some 11), (Op.move (Operand.tmp 10)), none⟩,
  ⟨(some 12), (Op.fieldAddr 31 (Operand.tmp 1) 0), (some (11, true))⟩,
  ⟨(some 13), (Op.load 3 (Operand.tmp 12)), (some (11, true))⟩,
  ⟨(some 14), (Op.load 31 (Operand.tmp 1)), (some (11, true))⟩,
  ⟨(some 15), (Op.call { callee := (Callee.value (Operand.func 73)), args := #[(Operand.tmp 14)], argTypes := #[31] }), (some (11, true))⟩,
  ⟨(some 16), (Op.binOp BinOp.rem 3 (Operand.tmp 13) (Operand.tmp 15) 3), (some (11, true))⟩,
  ⟨(some 17), (Op.binOp BinOp.eql 3 (Operand.tmp 16) (Operand.const (Value.int IntKind.i64 0)) 3), (some (11, true))⟩,
  ⟨(some 18), (Op.pick (Operand.tmp 11) (Operand.tmp 17) (Operand.const (Value.bool false))), none⟩,
  ⟨(some 2), (Op.assign (Operand.tmp 18)), none⟩]
def c33 : PC := (.seq (.reg r33_0) (.seq (.fz r33_1) .ret))
def i33 : FnI := ⟨19, [(ResultVar.tmp 2)], c33, 0, [[0, 0]], [[0]], false⟩
-- loop.example/g00344/spec.GoodAttrs
def r34_0 : List PO := [⟨(some 1), (Op.box 32 (Operand.tmp 0)), none⟩,
  ⟨(some 2), (Op.assign (Operand.const (Value.bool false))), none⟩]
def r34_1 : List PO := [⟨(some 7), (Op.fieldAddr 32 (Operand.tmp 1) 1), none⟩,
  ⟨(some 8), (Op.load 24 (Operand.tmp 7)), none⟩,
  ⟨(some 9), (Op.call { callee := (Callee.builtin Builtin.len), args := #[(Operand.tmp 8)], argTypes := #[24] }), none⟩,
  ⟨(some 10), (Op.move (Operand.const (Value.int IntKind.i64 0))), none⟩]
def r34_2 : List PO := [⟨(some 11), (Op.binOp BinOp.lss 3 (Operand.tmp 10) (Operand.tmp 9) 3), none⟩]
def r34_3 : List PO := [⟨(some 12), (Op.indexAddr 24 (Operand.tmp 8) (Operand.tmp 10)), none⟩,
  ⟨(some 13), (Op.load 3 (Operand.tmp 12)), none⟩,
  ⟨(some 4), (Op.assign (Operand.tmp 13)), none⟩]
def r34_4 : List PO := [⟨(some 14), (Op.move (Operand.tmp 4)), none⟩,
  ⟨(some 15), (Op.call { callee := (Callee.value (Operand.func 71)), args := #[(Operand.tmp 14), (Operand.const (Value.int IntKind.i64 1)), (Operand.const (Value.int IntKind.i64 65535))], argTypes := #[3, 3, 3] }), none⟩,
  ⟨(some 16), (Op.unOp UnOp.not 4 (Operand.tmp 15)), none⟩]
def r34_5 : List PO := [⟨(some 2), (Op.assign (Operand.const (Value.bool false))), none⟩]
def r34_6 : List PO := [⟨(some 17), (Op.binOp BinOp.add 3 (Operand.tmp 10) (Operand.const (Value.int IntKind.i64 1)) 3), none⟩,
  ⟨(some 10), (Op.move (Operand.tmp 17)), none⟩]
def l34_0 : PC := (.seq (.reg r34_2) (.seq (.cond (Operand.tmp 11) .skip (.exit 0)) (.seq (.block 1 (.seq (.reg r34_3) (.seq (.reg r34_4) (.cond (Operand.tmp 16) (.seq (.reg r34_5) .ret) .skip)))) (.reg r34_6))))
def r34_7 : List PO := [⟨(some 18), (Op.fieldAddr 32 (Operand.tmp 1) 5), none⟩,
  ⟨(some 19), (Op.load 24 (Operand.tmp 18)), none⟩,
  ⟨(some 20), (Op.call { callee := (Callee.builtin Builtin.len), args := #[(Operand.tmp 19)], argTypes := #[24] }), none⟩,
  ⟨(some 21), (Op.move (Operand.const (Value.int IntKind.i64 0))), none⟩]
def r34_8 : List PO := [⟨(some 22), (Op.binOp BinOp.lss 3 (Operand.tmp 21) (Operand.tmp 20) 3), none⟩]
def r34_9 : List PO := [⟨(some 23), (Op.move (Operand.tmp 21)), none⟩,
  ⟨(some 24), (Op.indexAddr 24 (Operand.tmp 19) (Operand.tmp 21)), none⟩,
  ⟨(some 25), (Op.load 3 (Operand.tmp 24)), none⟩,
  ⟨(some 5), (Op.assign (Operand.tmp 23)), none⟩,
  ⟨(some 6), (Op.assign (Operand.tmp 25)), none⟩]
def r34_10 : List PO := [⟨(some 26), (Op.move (Operand.tmp 6)), none⟩,
  ⟨(some 27), (Op.call { callee := (Callee.value (Operand.func 71)), args := #[(Operand.tmp 26), (Operand.const (Value.int IntKind.i64 0)), (Operand.const (Value.int IntKind.i64 1000000))], argTypes := #[3, 3, 3] }), none⟩,
  ⟨(some 28), (Op.unOp UnOp.not 4 (Operand.tmp 27)), none⟩,
  ⟨(some 29), (Op.move (Operand.tmp 28)), none⟩,
  ⟨(some 30), (Op.move (Operand.tmp 5)), (some (29, false))⟩,
  ⟨(some 31), (Op.binOp BinOp.gtr 3 (Operand.tmp 30) (Operand.const (Value.int IntKind.i64 0)) 3), (some (29, false))⟩,
  ⟨(some 32), (Op.move (Operand.tmp 31)), (some (29, false))⟩,
  ⟨(some 33), (Op.fieldAddr 32 (Operand.tmp 1) 5), (some (32, true))⟩,
  ⟨(some 34), (Op.load 24 (Operand.tmp 33)), (some (32, true))⟩,
  ⟨(some 35), (Op.move (Operand.tmp 5)), (some (32, true))⟩,
  ⟨(some 36), (Op.binOp BinOp.sub 3 (Operand.tmp 35) (Operand.const (Value.int IntKind.i64 1)) 3), (some (32, true))⟩,
  ⟨(some 37), (Op.indexAddr 24 (Operand.tmp 34) (Operand.tmp 36)), (some (32, true))⟩,
  ⟨(some 38), (Op.load 3 (Operand.tmp 37)), (some (32, true))⟩,
  ⟨(some 39), (Op.move (Operand.tmp 6)), (some (32, true))⟩,
  ⟨(some 40), (Op.binOp BinOp.geq 3 (Operand.tmp 38) (Operand.tmp 39) 3), (some (32, true))⟩,
  ⟨(some 41), (Op.pick (Operand.tmp 32) (Operand.tmp 40) (Operand.const (Value.bool false))), (some (29, false))⟩,
  ⟨(some 42), (Op.pick (Operand.tmp 29) (Operand.const (Value.bool true)) (Operand.tmp 41)), none⟩]
def r34_11 : List PO := [⟨(some 2), (Op.assign (Operand.const (Value.bool false))), none⟩]
def r34_12 : List PO := [⟨(some 43), (Op.binOp BinOp.add 3 (Operand.tmp 21) (Operand.const (Value.int IntKind.i64 1)) 3), none⟩,
  ⟨(some 21), (Op.move (Operand.tmp 43)), none⟩]
def l34_1 : PC := (.seq (.reg r34_8) (.seq (.cond (Operand.tmp 22) .skip (.exit 2)) (.seq (.block 3 (.seq (.reg r34_9) (.seq (.reg r34_10) (.cond (Operand.tmp 42) (.seq (.reg r34_11) .ret) .skip)))) (.reg r34_12))))
def r34_13 : List PO := [⟨(some 44), (Op.fieldAddr 32 (Operand.tmp 1) 0), none⟩,
  ⟨(some 45), (Op.load 3 (Operand.tmp 44)), none⟩,
  ⟨(some 46), (Op.call { callee := (Callee.value (Operand.func 71)), args := #[(Operand.tmp 45), (Operand.const (Value.int IntKind.i64 0)), (Operand.const (Value.int IntKind.i64 2))], argTypes := #[3, 3, 3] }), none⟩,
  ⟨(some 47), (Op.move (Operand.tmp 46)), none⟩,
  ⟨(some 48), (Op.fieldAddr 32 (Operand.tmp 1) 1), (some (47, true))⟩,
  ⟨(some 49), (Op.load 24 (Operand.tmp 48)), (some (47, true))⟩,
  ⟨(some 50), (Op.call { callee := (Callee.builtin Builtin.len), args := #[(Operand.tmp 49)], argTypes := #[24] }), (some (47, true))⟩,
  ⟨(some 51), (Op.binOp BinOp.leq 3 (Operand.tmp 50) (Operand.const (Value.int IntKind.i64 10)) 3), (some (47, true))⟩,
  ⟨(some 52), (Op.pick (Operand.tmp 47) (Operand.tmp 51) (Operand.const (Value.bool false))), none⟩,
  ⟨(some 53), (Op.move (Operand.tmp 52)), none⟩,
  ⟨(some 54), (Op.fieldAddr 32 (Operand.tmp 1) 2), (some (53, true))⟩,
  ⟨(some 55), (Op.load 3 (Operand.tmp 54)), (some (53, true))⟩,
  ⟨(some 56), (Op.call { callee := (Callee.value (Operand.func 72)), args := #[(Operand.tmp 55)], argTypes := #[3] }), (some (53, true))⟩,
  ⟨(some 57), (Op.pick (Operand.tmp 53) (Operand.tmp 56) (Operand.const (Value.bool false))), none⟩,
  ⟨(some 58), (Op.move (Operand.tmp 57)), none⟩,
  ⟨(some 59), (Op.fieldAddr 32 (Operand.tmp 1) 3), (some (58, true))⟩,
  ⟨(some 60), (Op.load 3 (Operand.tmp 59)), (some (58, true))⟩,
  ⟨(some 61), (Op.call { callee := (Callee.value (Operand.func 71)), args := #[(Operand.tmp 60), (Operand.const (Value.int IntKind.i64 0)), (Operand.const (Value.int IntKind.i64 1000000))], argTypes := #[3, 3, 3] }), (some (58, true))⟩,
  ⟨(some 62), (Op.pick (Operand.tmp 58) (Operand.tmp 61) (Operand.const (Value.bool false))), none⟩,
  ⟨(some 63), (Op.move (Operand.tmp 62)), none⟩,
  ⟨(some 64), (Op.fieldAddr 32 (Operand.tmp 1) 4), (some (63, true))⟩,
  ⟨(some 65), (Op.load 3 (Operand.tmp 64)), (some (63, true))⟩,
  ⟨(some 66), (Op.call { callee := (Callee.value (Operand.func 71)), args := #[(Operand.tmp 65), (Operand.const (Value.int IntKind.i64 0)), (Operand.const (Value.int IntKind.i64 1000000))], argTypes := #[3, 3, 3] }), (some (63, true))⟩,
  ⟨(some 67), (Op.pick (Operand.tmp 63) (Operand.tmp 66) (Operand.const (Value.bool false))), none⟩,
  ⟨(some 68), (Op.move (Operand.tmp 67)), none⟩,
  ⟨(some 69), (Op.fieldAddr 32 (Operand.tmp 1) 5), (some (68, true))⟩,
  ⟨(some 70), (Op.load 24 (Operand.tmp 69)), (some (68, true))⟩,
  ⟨(some 71), (Op.call { callee := (Callee.builtin Builtin.len), args := #[(Operand.tmp 70)], argTypes := #[24] }), (some (68, true))⟩,
  ⟨(some 72), (Op.binOp BinOp.leq 3 (Operand.tmp 71) (Operand.const (Value.int IntKind.i64 6)) 3), (some (68, true))⟩,
  ⟨(some 73), (Op.pick (Operand.tmp 68) (Operand.tmp 72) (Operand.const (Value.bool false))), none⟩,
  ⟨(some 2), (Op.assign (Operand.tmp 73)), none⟩]
def c34 : PC := (.seq (.reg r34_0) (.seq (.seq (.reg r34_1) (.block 0 (.loop l34_0))) (.seq (.seq (.reg r34_7) (.block 2 (.loop l34_1))) (.seq (.reg r34_13) .ret))))
def i34 : FnI := ⟨74, [(ResultVar.tmp 2)], c34, 0, [[0, 1, 0, 0, 0, 1]], [[0]], false⟩
-- loop.example/g00344/laws.toPrefix
def r35_0 : List PO := [⟨(some 1), (Op.box 23 (Operand.tmp 0)), none⟩,
  ⟨(some 2), (Op.alloc 31), none⟩]
def r35_1 : List PO := [⟨(some 3), (Op.alloc 31), none⟩]
def r35_2 : List PO := [⟨(some 4), (Op.fieldAddr 23 (Operand.tmp 1) 0), none⟩,
  ⟨(some 5), (Op.load 3 (Operand.tmp 4)), none⟩,
  ⟨(some 6), (Op.fieldAddr 31 (Operand.tmp 3) 0), none⟩,
  ⟨none, (Op.store 3 (Operand.tmp 6) (Operand.tmp 5)), none⟩]
def r35_3 : List PO := [⟨(some 7), (Op.fieldAddr 23 (Operand.tmp 1) 1), none⟩,
  ⟨(some 8), (Op.load 3 (Operand.tmp 7)), none⟩,
  ⟨(some 9), (Op.fieldAddr 31 (Operand.tmp 3) 1), none⟩,
  ⟨none, (Op.store 3 (Operand.tmp 9) (Operand.tmp 8)), none⟩]
def r35_4 : List PO := [⟨(some 10), (Op.load 31 (Operand.tmp 3)), none⟩,
  ⟨none, (Op.store 31 (Operand.tmp 2) (Operand.tmp 10)), none⟩]
def c35 : PC := (.seq (.reg r35_0) (.seq (.reg r35_1) (.seq (.reg r35_2) (.seq (.reg r35_3) (.seq (.reg r35_4) .ret)))))
def i35 : FnI := ⟨11, [(ResultVar.cell 2 31)], c35, 0, [[0, 0]], [[0, 0]], false⟩
-- loop.example/g00344/laws.toAttrs
def r36_0 : List PO := [⟨(some 1), (Op.box 26 (Operand.tmp 0)), none⟩,
  ⟨(some 2), (Op.alloc 32), none⟩]
def r36_1 : List PO := [⟨(some 3), (Op.alloc 32), none⟩]
def r36_2 : List PO := [⟨(some 4), (Op.fieldAddr 26 (Operand.tmp 1) 0), none⟩,
  ⟨(some 5), (Op.load 3 (Operand.tmp 4)), none⟩,
  ⟨(some 6), (Op.fieldAddr 32 (Operand.tmp 3) 0), none⟩,
  ⟨none, (Op.store 3 (Operand.tmp 6) (Operand.tmp 5)), none⟩]
def r36_3 : List PO := [⟨(some 7), (Op.fieldAddr 26 (Operand.tmp 1) 1), none⟩,
  ⟨(some 8), (Op.load 24 (Operand.tmp 7)), none⟩,
  ⟨(some 9), (Op.call { callee := (Callee.value (Operand.func 74)), args := #[(Operand.tmp 8)], argTypes := #[24] }), none⟩,
  ⟨(some 10), (Op.fieldAddr 32 (Operand.tmp 3) 1), none⟩,
  ⟨none, (Op.store 24 (Operand.tmp 10) (Operand.tmp 9)), none⟩]
def r36_4 : List PO := [⟨(some 11), (Op.fieldAddr 26 (Operand.tmp 1) 2), none⟩,
  ⟨(some 12), (Op.load 3 (Operand.tmp 11)), none⟩,
  ⟨(some 13), (Op.fieldAddr 32 (Operand.tmp 3) 2), none⟩,
  ⟨none, (Op.store 3 (Operand.tmp 13) (Operand.tmp 12)), none⟩]
def r36_5 : List PO := [⟨(some 14), (Op.fieldAddr 26 (Operand.tmp 1) 3), none⟩,
  ⟨(some 15), (Op.load 3 (Operand.tmp 14)), none⟩,
  ⟨(some 16), (Op.fieldAddr 32 (Operand.tmp 3) 3), none⟩,
  ⟨none, (Op.store 3 (Operand.tmp 16) (Operand.tmp 15)), none⟩]
def r36_6 : List PO := [⟨(some 17), (Op.fieldAddr 26 (Operand.tmp 1) 4), none⟩,
  ⟨(some 18), (Op.load 3 (Operand.tmp 17)), none⟩,
  ⟨(some 19), (Op.fieldAddr 32 (Operand.tmp 3) 4), none⟩,
  ⟨none, (Op.store 3 (Operand.tmp 19) (Operand.tmp 18)), none⟩]
def r36_7 : List PO := [⟨(some 20), (Op.fieldAddr 26 (Operand.tmp 1) 5), none⟩,
  ⟨(some 21), (Op.load 24 (Operand.tmp 20)), none⟩,
  ⟨(some 22), (Op.call { callee := (Callee.value (Operand.func 74)), args := #[(Operand.tmp 21)], argTypes := #[24] }), none⟩,
  ⟨(some 23), (Op.fieldAddr 32 (Operand.tmp 3) 5), none⟩,
  ⟨none, (Op.store 24 (Operand.tmp 23) (Operand.tmp 22)), none⟩]
def r36_8 : List PO := [⟨(some 24), (Op.load 32 (Operand.tmp 3)), none⟩,
  ⟨none, (Op.store 32 (Operand.tmp 2) (Operand.tmp 24)), none⟩]
def c36 : PC := (.seq (.reg r36_0) (.seq (.reg r36_1) (.seq (.reg r36_2) (.seq (.reg r36_3) (.seq (.reg r36_4) (.seq (.reg r36_5) (.seq (.reg r36_6) (.seq (.reg r36_7) (.seq (.reg r36_8) .ret)))))))))
def i36 : FnI := ⟨25, [(ResultVar.cell 2 32)], c36, 0, [[0, 1, 0, 0, 0, 1]], [[0, 1, 0, 0, 0, 1]], false⟩
-- loop.example/g00344/impl.GoodPrefix
def r37_0 : List PO := [⟨(some 1), (Op.box 31 (Operand.tmp 0)), none⟩,
  ⟨(some 2), (Op.assign (Operand.const (Value.bool false))), none⟩]
def r37_1 : List PO := [⟨(some 3), (Op.fieldAddr 31 (Operand.tmp 1) 1), none⟩,
  ⟨(some 4), (Op.load 3 (Operand.tmp 3)), none⟩,
  ⟨(some 5), (Op.call { callee := (Callee.value (Operand.func 75)), args := #[(Operand.tmp 4), (Operand.const (Value.int IntKind.i64 0)), (Operand.const (Value.int IntKind.i64 32))], argTypes := #[3, 3, 3] }), none⟩,
  ⟨(some 6), (Op.move (Operand.tmp 5)), none⟩,
  ⟨(some 7), (Op.fieldAddr 31 (Operand.tmp 1) 0), (some (6, true))⟩,
  ⟨(some 8), (Op.load 3 (Operand.tmp 7)), (some (6, true))⟩,
  ⟨(some 9), (Op.call { callee := (Callee.value (Operand.func 76)), args := #[(Operand.tmp 8)], argTypes := #[3] }), (some (6, true))⟩,
  ⟨(some 10), (Op.pick (Operand.tmp 6) (Operand.tmp 9) (Operand.const (Value.bool false))), none⟩,
  ⟨(some 11), (Op.move (Operand.tmp 10)), none⟩,
  ⟨(some 12), (Op.fieldAddr 31 (Operand.tmp 1) 0), (some (11, true))⟩,
  ⟨(some 13), (Op.load 3 (Operand.tmp 12)), (some (11, true))⟩,
  ⟨(some 14), (Op.fieldAddr 31 (Operand.tmp 1) 1), (some (11, true))⟩,
  ⟨(some 15), (Op.load 3 (Operand.tmp 14)), (some (11, true))⟩,
  ⟨(some 16), (Op.call { callee := (Callee.value (Operand.func 77)), args := #[(Operand.tmp 15)], argTypes := #[3] }), (some (11, true))⟩,
  ⟨(some 17), (Op.binOp BinOp.rem 3 (Operand.tmp 13) (Operand.tmp 16) 3), (some (11, true))⟩,
  ⟨(some 18), (Op.binOp BinOp.eql 3 (Operand.tmp 17) (Operand.const (Value.int IntKind.i64 0)) 3), (some (11, true))⟩,
  ⟨(some 19), (Op.pick (Operand.tmp 11) (Operand.tmp 18) (Operand.const (Value.bool false))), none⟩,
  ⟨(some 2), (Op.assign (Operand.tmp 19)), none⟩]
def c37 : PC := (.seq (.reg r37_0) (.seq (.fz r37_1) .ret))
def i37 : FnI := ⟨20, [(ResultVar.tmp 2)], c37, 0, [[0, 0]], [[0]], false⟩
-- loop.example/g00344/impl.GoodAttrs
def r38_0 : List PO := [⟨(some 1), (Op.box 32 (Operand.tmp 0)), none⟩,
  ⟨(some 2), (Op.assign (Operand.const (Value.bool false))), none⟩]
def r38_1 : List PO := [⟨(some 3), (Op.fieldAddr 32 (Operand.tmp 1) 0), none⟩,
  ⟨(some 4), (Op.load 3 (Operand.tmp 3)), none⟩,
  ⟨(some 5), (Op.call { callee := (Callee.value (Operand.func 75)), args := #[(Operand.tmp 4), (Operand.const (Value.int IntKind.i64 0)), (Operand.const (Value.int IntKind.i64 2))], argTypes := #[3, 3, 3] }), none⟩,
  ⟨(some 6), (Op.move (Operand.tmp 5)), none⟩,
  ⟨(some 7), (Op.fieldAddr 32 (Operand.tmp 1) 1), (some (6, true))⟩,
  ⟨(some 8), (Op.load 24 (Operand.tmp 7)), (some (6, true))⟩,
  ⟨(some 9), (Op.call { callee := (Callee.value (Operand.func 78)), args := #[(Operand.tmp 8)], argTypes := #[24] }), (some (6, true))⟩,
  ⟨(some 10), (Op.pick (Operand.tmp 6) (Operand.tmp 9) (Operand.const (Value.bool false))), none⟩,
  ⟨(some 11), (Op.move (Operand.tmp 10)), none⟩,
  ⟨(some 12), (Op.fieldAddr 32 (Operand.tmp 1) 2), (some (11, true))⟩,
  ⟨(some 13), (Op.load 3 (Operand.tmp 12)), (some (11, true))⟩,
  ⟨(some 14), (Op.call { callee := (Callee.value (Operand.func 76)), args := #[(Operand.tmp 13)], argTypes := #[3] }), (some (11, true))⟩,
  ⟨(some 15), (Op.pick (Operand.tmp 11) (Operand.tmp 14) (Operand.const (Value.bool false))), none⟩,
  ⟨(some 16), (Op.move (Operand.tmp 15)), none⟩,
  ⟨(some 17), (Op.fieldAddr 32 (Operand.tmp 1) 3), (some (16, true))⟩,
  ⟨(some 18), (Op.load 3 (Operand.tmp 17)), (some (16, true))⟩,
  ⟨(some 19), (Op.call { callee := (Callee.value (Operand.func 79)), args := #[(Operand.tmp 18)], argTypes := #[3] }), (some (16, true))⟩,
  ⟨(some 20), (Op.pick (Operand.tmp 16) (Operand.tmp 19) (Operand.const (Value.bool false))), none⟩,
  ⟨(some 21), (Op.move (Operand.tmp 20)), none⟩,
  ⟨(some 22), (Op.fieldAddr 32 (Operand.tmp 1) 4), (some (21, true))⟩,
  ⟨(some 23), (Op.load 3 (Operand.tmp 22)), (some (21, true))⟩,
  ⟨(some 24), (Op.call { callee := (Callee.value (Operand.func 79)), args := #[(Operand.tmp 23)], argTypes := #[3] }), (some (21, true))⟩,
  ⟨(some 25), (Op.pick (Operand.tmp 21) (Operand.tmp 24) (Operand.const (Value.bool false))), none⟩,
  ⟨(some 26), (Op.move (Operand.tmp 25)), none⟩,
  ⟨(some 27), (Op.fieldAddr 32 (Operand.tmp 1) 5), (some (26, true))⟩,
  ⟨(some 28), (Op.load 24 (Operand.tmp 27)), (some (26, true))⟩,
  ⟨(some 29), (Op.call { callee := (Callee.value (Operand.func 80)), args := #[(Operand.tmp 28)], argTypes := #[24] }), (some (26, true))⟩,
  ⟨(some 30), (Op.pick (Operand.tmp 26) (Operand.tmp 29) (Operand.const (Value.bool false))), none⟩,
  ⟨(some 2), (Op.assign (Operand.tmp 30)), none⟩]
def c38 : PC := (.seq (.reg r38_0) (.seq (.reg r38_1) .ret))
def i38 : FnI := ⟨31, [(ResultVar.tmp 2)], c38, 0, [[0, 1, 0, 0, 0, 1]], [[0]], false⟩
-- loop.example/g00344/laws.eqPrefix
def r39_0 : List PO := [⟨(some 2), (Op.box 31 (Operand.tmp 0)), none⟩,
  ⟨(some 3), (Op.box 31 (Operand.tmp 1)), none⟩,
  ⟨(some 4), (Op.assign (Operand.const (Value.bool false))), none⟩]
def r39_1 : List PO := [⟨(some 5), (Op.fieldAddr 31 (Operand.tmp 2) 0), none⟩,
  ⟨(some 6), (Op.load 3 (Operand.tmp 5)), none⟩,
  ⟨(some 7), (Op.fieldAddr 31 (Operand.tmp 3) 0), none⟩,
  ⟨(some 8), (Op.load 3 (Operand.tmp 7)), none⟩,
  ⟨(some 9), (Op.binOp BinOp.neq 3 (Operand.tmp 6) (Operand.tmp 8) 3), none⟩]
def r39_2 : List PO := [⟨(some 4), (Op.assign (Operand.const (Value.bool false))), none⟩]
def r39_3 : List PO := [⟨(some 10), (Op.fieldAddr 31 (Operand.tmp 2) 1), none⟩,
  ⟨(some 11), (Op.load 3 (Operand.tmp 10)), none⟩,
  ⟨(some 12), (Op.fieldAddr 31 (Operand.tmp 3) 1), none⟩,
  ⟨(some 13), (Op.load 3 (Operand.tmp 12)), none⟩,
  ⟨(some 14), (Op.binOp BinOp.neq 3 (Operand.tmp 11) (Operand.tmp 13) 3), none⟩]
def r39_4 : List PO := [⟨(some 4), (Op.assign (Operand.const (Value.bool false))), none⟩]
def r39_5 : List PO := [⟨(some 4), (Op.assign (Operand.const (Value.bool true))), none⟩]
def c39 : PC := (.seq (.reg r39_0) (.seq (.seq (.reg r39_1) (.cond (Operand.tmp 9) (.seq (.reg r39_2) .ret) .skip)) (.seq (.seq (.reg r39_3) (.cond (Operand.tmp 14) (.seq (.reg r39_4) .ret) .skip)) (.seq (.reg r39_5) .ret))))
def i39 : FnI := ⟨15, [(ResultVar.tmp 4)], c39, 0, [[0, 0], [0, 0]], [[0]], false⟩
-- loop.example/g00344/laws.eqAttrs
def r40_0 : List PO := [⟨(some 2), (Op.box 32 (Operand.tmp 0)), none⟩,
  ⟨(some 3), (Op.box 32 (Operand.tmp 1)), none⟩,
  ⟨(some 4), (Op.assign (Operand.const (Value.bool false))), none⟩]
def r40_1 : List PO := [⟨(some 5), (Op.fieldAddr 32 (Operand.tmp 2) 0), none⟩,
  ⟨(some 6), (Op.load 3 (Operand.tmp 5)), none⟩,
  ⟨(some 7), (Op.fieldAddr 32 (Operand.tmp 3) 0), none⟩,
  ⟨(some 8), (Op.load 3 (Operand.tmp 7)), none⟩,
  ⟨(some 9), (Op.binOp BinOp.neq 3 (Operand.tmp 6) (Operand.tmp 8) 3), none⟩]
def r40_2 : List PO := [⟨(some 4), (Op.assign (Operand.const (Value.bool false))), none⟩]
def r40_3 : List PO := [⟨(some 10), (Op.fieldAddr 32 (Operand.tmp 2) 1), none⟩,
  ⟨(some 11), (Op.load 24 (Operand.tmp 10)), none⟩,
  ⟨(some 12), (Op.fieldAddr 32 (Operand.tmp 3) 1), none⟩,
  ⟨(some 13), (Op.load 24 (Operand.tmp 12)), none⟩,
  ⟨(some 14), (Op.call { callee := (Callee.value (Operand.func 81)), args := #[(Operand.tmp 11), (Operand.tmp 13)], argTypes := #[24, 24] }), none⟩,
  ⟨(some 15), (Op.unOp UnOp.not 4 (Operand.tmp 14)), none⟩]
def r40_4 : List PO := [⟨(some 4), (Op.assign (Operand.const (Value.bool false))), none⟩]
def r40_5 : List PO := [⟨(some 16), (Op.fieldAddr 32 (Operand.tmp 2) 2), none⟩,
  ⟨(some 17), (Op.load 3 (Operand.tmp 16)), none⟩,
  ⟨(some 18), (Op.fieldAddr 32 (Operand.tmp 3) 2), none⟩,
  ⟨(some 19), (Op.load 3 (Operand.tmp 18)), none⟩,
  ⟨(some 20), (Op.binOp BinOp.neq 3 (Operand.tmp 17) (Operand.tmp 19) 3), none⟩]
def r40_6 : List PO := [⟨(some 4), (Op.assign (Operand.const (Value.bool false))), none⟩]
def r40_7 : List PO := [⟨(some 21), (Op.fieldAddr 32 (Operand.tmp 2) 3), none⟩,
  ⟨(some 22), (Op.load 3 (Operand.tmp 21)), none⟩,
  ⟨(some 23), (Op.fieldAddr 32 (Operand.tmp 3) 3), none⟩,
  ⟨(some 24), (Op.load 3 (Operand.tmp 23)), none⟩,
  ⟨(some 25), (Op.binOp BinOp.neq 3 (Operand.tmp 22) (Operand.tmp 24) 3), none⟩]
def r40_8 : List PO := [⟨(some 4), (Op.assign (Operand.const (Value.bool false))), none⟩]
def r40_9 : List PO := [⟨(some 26), (Op.fieldAddr 32 (Operand.tmp 2) 4), none⟩,
  ⟨(some 27), (Op.load 3 (Operand.tmp 26)), none⟩,
  ⟨(some 28), (Op.fieldAddr 32 (Operand.tmp 3) 4), none⟩,
  ⟨(some 29), (Op.load 3 (Operand.tmp 28)), none⟩,
  ⟨(some 30), (Op.binOp BinOp.neq 3 (Operand.tmp 27) (Operand.tmp 29) 3), none⟩]
def r40_10 : List PO := [⟨(some 4), (Op.assign (Operand.const (Value.bool false))), none⟩]
def r40_11 : List PO := [⟨(some 31), (Op.fieldAddr 32 (Operand.tmp 2) 5), none⟩,
  ⟨(some 32), (Op.load 24 (Operand.tmp 31)), none⟩,
  ⟨(some 33), (Op.fieldAddr 32 (Operand.tmp 3) 5), none⟩,
  ⟨(some 34), (Op.load 24 (Operand.tmp 33)), none⟩,
  ⟨(some 35), (Op.call { callee := (Callee.value (Operand.func 81)), args := #[(Operand.tmp 32), (Operand.tmp 34)], argTypes := #[24, 24] }), none⟩,
  ⟨(some 36), (Op.unOp UnOp.not 4 (Operand.tmp 35)), none⟩]
def r40_12 : List PO := [⟨(some 4), (Op.assign (Operand.const (Value.bool false))), none⟩]
def r40_13 : List PO := [⟨(some 4), (Op.assign (Operand.const (Value.bool true))), none⟩]
def c40 : PC := (.seq (.reg r40_0) (.seq (.seq (.reg r40_1) (.cond (Operand.tmp 9) (.seq (.reg r40_2) .ret) .skip)) (.seq (.seq (.reg r40_3) (.cond (Operand.tmp 15) (.seq (.reg r40_4) .ret) .skip)) (.seq (.seq (.reg r40_5) (.cond (Operand.tmp 20) (.seq (.reg r40_6) .ret) .skip)) (.seq (.seq (.reg r40_7) (.cond (Operand.tmp 25) (.seq (.reg r40_8) .ret) .skip)) (.seq (.seq (.reg r40_9) (.cond (Operand.tmp 30) (.seq (.reg r40_10) .ret) .skip)) (.seq (.seq (.reg r40_11) (.cond (Operand.tmp 36) (.seq (.reg r40_12) .ret) .skip)) (.seq (.reg r40_13) .ret))))))))
def i40 : FnI := ⟨37, [(ResultVar.tmp 4)], c40, 0, [[0, 1, 0, 0, 0, 1], [0, 1, 0, 0, 0, 1]], [[0]], false⟩
-- loop.example/g00344/laws.szIntS
def r70_0 : List PO := [⟨(some 4), (Op.assign (Operand.const (Value.int IntKind.i64 0))), none⟩]
def r70_1 : List PO := [⟨(some 5), (Op.move (Operand.tmp 1)), none⟩,
  ⟨(some 6), (Op.move (Operand.tmp 0)), none⟩,
  ⟨(some 7), (Op.call { callee := (Callee.builtin Builtin.len), args := #[(Operand.tmp 6)], argTypes := #[24] }), none⟩,
  ⟨(some 8), (Op.binOp BinOp.sub 3 (Operand.tmp 5) (Operand.tmp 7) 3), none⟩,
  ⟨(some 1), (Op.assign (Operand.tmp 8)), none⟩]
def r70_2 : List PO := [⟨(some 9), (Op.move (Operand.tmp 1)), none⟩,
  ⟨(some 10), (Op.binOp BinOp.lss 3 (Operand.tmp 9) (Operand.const (Value.int IntKind.i64 0)) 3), none⟩]
def r70_3 : List PO := [⟨(some 4), (Op.assign (Operand.const (Value.int IntKind.i64 (-1)))), none⟩]
def r70_4 : List PO := [⟨(some 11), (Op.move (Operand.tmp 1)), none⟩,
  ⟨(some 4), (Op.assign (Operand.tmp 11)), none⟩]
def c70 : PC := (.seq (.reg r70_0) (.seq (.reg r70_1) (.seq (.seq (.reg r70_2) (.cond (Operand.tmp 10) (.seq (.reg r70_3) .ret) .skip)) (.seq (.reg r70_4) .ret))))
def i70 : FnI := ⟨12, [(ResultVar.tmp 4)], c70, 0, [[1], [0]], [[0]], false⟩
-- loop.example/g00344/spec.l1In
def r71_0 : List PO := [⟨(some 6), (Op.assign (Operand.const (Value.bool false))), none⟩]
def r71_1 : List PO := [⟨(some 7), (Op.move (Operand.tmp 0)), none⟩,
  ⟨(some 8), (Op.move (Operand.tmp 1)), none⟩,
  ⟨(some 9), (Op.binOp BinOp.geq 3 (Operand.tmp 7) (Operand.tmp 8) 3), none⟩,
  ⟨(some 10), (Op.move (Operand.tmp 9)), none⟩,
  ⟨(some 11), (Op.move (Operand.tmp 0)), (some (10, true))⟩,
  ⟨(some 12), (Op.move (Operand.tmp 2)), (some (10, true))⟩,
  ⟨(some 13), (Op.binOp BinOp.leq 3 (Operand.tmp 11) (Operand.tmp 12) 3), (some (10, true))⟩,
  ⟨(some 14), (Op.pick (Operand.tmp 10) (Operand.tmp 13) (Operand.const (Value.bool false))), none⟩,
  ⟨(some 6), (Op.assign (Operand.tmp 14)), none⟩]
def c71 : PC := (.seq (.reg r71_0) (.seq (.reg r71_1) .ret))
def i71 : FnI := ⟨15, [(ResultVar.tmp 6)], c71, 0, [[0], [0], [0]], [[0]], false⟩
-- loop.example/g00344/spec.l1Addr
def r72_0 : List PO := [⟨(some 2), (Op.assign (Operand.const (Value.bool false))), none⟩]
def r72_1 : List PO := [⟨(some 3), (Op.move (Operand.tmp 0)), none⟩,
  ⟨(some 4), (Op.call { callee := (Callee.value (Operand.func 71)), args := #[(Operand.tmp 3), (Operand.const (Value.int IntKind.i64 0)), (Operand.const (Value.int IntKind.i64 4294967295))], argTypes := #[3, 3, 3] }), none⟩,
  ⟨(some 2), (Op.assign (Operand.tmp 4)), none⟩]
def c72 : PC := (.seq (.reg r72_0) (.seq (.reg r72_1) .ret))
def i72 : FnI := ⟨5, [(ResultVar.tmp 2)], c72, 0, [[0]], [[0]], false⟩
-- loop.example/g00344/spec.l1Size
def r73_0 : List PO := [⟨(some 1), (Op.box 31 (Operand.tmp 0)), none⟩,
  ⟨(some 2), (Op.assign (Operand.const (Value.int IntKind.i64 0))), none⟩]
def r73_1 : List PO := [⟨(some 3), (Op.fieldAddr 31 (Operand.tmp 1) 1), none⟩,
  ⟨(some 4), (Op.load 3 (Operand.tmp 3)), none⟩,
  ⟨(some 5), (Op.binOp BinOp.sub 3 (Operand.const (Value.int IntKind.i64 32)) (Operand.tmp 4) 3), none⟩,
  ⟨(some 6), (Op.convert 3 145 (Operand.tmp 5)), none⟩,
  ⟨(some 7), (Op.binOp BinOp.shl 3 (Operand.const (Value.int IntKind.i64 1)) (Operand.tmp 6) 145), none⟩,
  ⟨(some 2), (Op.assign (Operand.tmp 7)), none⟩]
def c73 : PC := (.seq (.reg r73_0) (.seq (.reg r73_1) .ret))
def i73 : FnI := ⟨8, [(ResultVar.tmp 2)], c73, 0, [[0, 0]], [[0]], false⟩
-- loop.example/g00344/laws.toIntS
def r74_0 : List PO := [⟨(some 2), (Op.assign (Operand.const (Value.slice none 0 0))), none⟩]
def r74_1 : List PO := [⟨(some 5), (Op.move (Operand.tmp 0)), none⟩,
  ⟨(some 6), (Op.call { callee := (Callee.builtin Builtin.len), args := #[(Operand.tmp 5)], argTypes := #[24] }), none⟩,
  ⟨(some 7), (Op.makeSlice 24 (Operand.tmp 6) (Operand.tmp 6)), none⟩,
  ⟨(some 3), (Op.assign (Operand.tmp 7)), none⟩]
def r74_2 : List PO := [⟨(some 4), (Op.assign (Operand.const (Value.int IntKind.i64 0))), none⟩]
def r74_3 : List PO := [⟨(some 8), (Op.move (Operand.tmp 4)), none⟩,
  ⟨(some 9), (Op.move (Operand.tmp 0)), none⟩,
  ⟨(some 10), (Op.call { callee := (Callee.builtin Builtin.len), args := #[(Operand.tmp 9)], argTypes := #[24] }), none⟩,
  ⟨(some 11), (Op.binOp BinOp.lss 3 (Operand.tmp 8) (Operand.tmp 10) 3), none⟩]
def r74_5 : List PO := [⟨(some 14), (Op.move (Operand.tmp 3)), none⟩,
  ⟨(some 15), (Op.move (Operand.tmp 4)), none⟩,
  ⟨(some 16), (Op.move (Operand.tmp 0)), none⟩,
  ⟨(some 17), (Op.move (Operand.tmp 4)), none⟩,
  ⟨(some 18), (Op.indexAddr 24 (Operand.tmp 16) (Operand.tmp 17)), none⟩,
  ⟨(some 19), (Op.load 3 (Operand.tmp 18)), none⟩,
  ⟨(some 20), (Op.indexAddr 24 (Operand.tmp 14) (Operand.tmp 15)), none⟩,
  ⟨none, (Op.store 3 (Operand.tmp 20) (Operand.tmp 19)), none⟩]
def r74_4 : List PO := [⟨(some 12), (Op.move (Operand.tmp 4)), none⟩,
  ⟨(some 13), (Op.binOp BinOp.add 3 (Operand.tmp 12) (Operand.const (Value.int IntKind.i64 1)) 3), none⟩,
  ⟨(some 4), (Op.assign (Operand.tmp 13)), none⟩]
def l74_0 : PC := (.seq (.seq (.reg r74_3) (.cond (Operand.tmp 11) .skip (.exit 0))) (.seq (.block 1 (.reg r74_5)) (.reg r74_4)))
def r74_6 : List PO := [⟨(some 21), (Op.move (Operand.tmp 3)), none⟩,
  ⟨(some 2), (Op.assign (Operand.tmp 21)), none⟩]
def c74 : PC := (.seq (.reg r74_0) (.seq (.reg r74_1) (.seq (.seq (.reg r74_2) (.block 0 (.loop l74_0))) (.seq (.reg r74_6) .ret))))
def i74 : FnI := ⟨22, [(ResultVar.tmp 2)], c74, 0, [[1]], [[1]], false⟩
-- loop.example/g00344/impl.within
def r75_0 : List PO := [⟨(some 6), (Op.assign (Operand.const (Value.bool false))), none⟩]
def r75_1 : List PO := [⟨(some 7), (Op.move (Operand.tmp 0)), none⟩,
  ⟨(some 8), (Op.move (Operand.tmp 1)), none⟩,
  ⟨(some 9), (Op.binOp BinOp.geq 3 (Operand.tmp 7) (Operand.tmp 8) 3), none⟩,
  ⟨(some 10), (Op.move (Operand.tmp 9)), none⟩,
  ⟨(some 11), (Op.move (Operand.tmp 0)), (some (10, true))⟩,
  ⟨(some 12), (Op.move (Operand.tmp 2)), (some (10, true))⟩,
  ⟨(some 13), (Op.binOp BinOp.leq 3 (Operand.tmp 11) (Operand.tmp 12) 3), (some (10, true))⟩,
  ⟨(some 14), (Op.pick (Operand.tmp 10) (Operand.tmp 13) (Operand.const (Value.bool false))), none⟩,
  ⟨(some 6), (Op.assign (Operand.tmp 14)), none⟩]
def c75 : PC := (.seq (.reg r75_0) (.seq (.reg r75_1) .ret))
def i75 : FnI := ⟨15, [(ResultVar.tmp 6)], c75, 0, [[0], [0], [0]], [[0]], false⟩
-- loop.example/g00344/impl.isAddr
def r76_0 : List PO := [⟨(some 2), (Op.assign (Operand.const (Value.bool false))), none⟩]
def r76_1 : List PO := [⟨(some 3), (Op.move (Operand.tmp 0)), none⟩,
  ⟨(some 4), (Op.call { callee := (Callee.value (Operand.func 75)), args := #[(Operand.tmp 3), (Operand.const (Value.int IntKind.i64 0)), (Operand.const (Value.int IntKind.i64 4294967295))], argTypes := #[3, 3, 3] }), none⟩,
  ⟨(some 2), (Op.assign (Operand.tmp 4)), none⟩]
def c76 : PC := (.seq (.reg r76_0) (.seq (.reg r76_1) .ret))
def i76 : FnI := ⟨5, [(ResultVar.tmp 2)], c76, 0, [[0]], [[0]], false⟩
-- loop.example/g00344/impl.sizeOf
def r77_0 : List PO := [⟨(some 2), (Op.assign (Operand.const (Value.int IntKind.i64 0))), none⟩]
def r77_1 : List PO := [⟨(some 3), (Op.move (Operand.tmp 0)), none⟩,
  ⟨(some 4), (Op.binOp BinOp.sub 3 (Operand.const (Value.int IntKind.i64 32)) (Operand.tmp 3) 3), none⟩,
  ⟨(some 5), (Op.binOp BinOp.shl 3 (Operand.const (Value.int IntKind.i64 1)) (Operand.tmp 4) 3), none⟩,
  ⟨(some 2), (Op.assign (Operand.tmp 5)), none⟩]
def c77 : PC := (.seq (.reg r77_0) (.seq (.reg r77_1) .ret))
def i77 : FnI := ⟨6, [(ResultVar.tmp 2)], c77, 0, [[0]], [[0]], false⟩
-- loop.example/g00344/impl.isPath
def r78_0 : List PO := [⟨(some 2), (Op.assign (Operand.const (Value.bool false))), none⟩]
def r78_1 : List PO := [⟨(some 3), (Op.move (Operand.tmp 0)), none⟩,
  ⟨(some 4), (Op.call { callee := (Callee.builtin Builtin.len), args := #[(Operand.tmp 3)], argTypes := #[24] }), none⟩,
  ⟨(some 5), (Op.binOp BinOp.leq 3 (Operand.tmp 4) (Operand.const (Value.int IntKind.i64 10)) 3), none⟩,
  ⟨(some 6), (Op.move (Operand.tmp 5)), none⟩,
  ⟨(some 7), (Op.move (Operand.tmp 0)), (some (6, true))⟩,
  ⟨(some 8), (Op.call { callee := (Callee.value (Operand.func 120)), args := #[(Operand.tmp 7), (Operand.func 121)], argTypes := #[24, 107] }), (some (6, true))⟩,
  ⟨(some 9), (Op.unOp UnOp.not 4 (Operand.tmp 8)), (some (6, true))⟩,
  ⟨(some 10), (Op.pick (Operand.tmp 6) (Operand.tmp 9) (Operand.const (Value.bool false))), none⟩,
  ⟨(some 2), (Op.assign (Operand.tmp 10)), none⟩]
def c78 : PC := (.seq (.reg r78_0) (.seq (.reg r78_1) .ret))
def i78 : FnI := ⟨11, [(ResultVar.tmp 2)], c78, 0, [[1]], [[0]], false⟩
-- loop.example/g00344/impl.isValue
def r79_0 : List PO := [⟨(some 2), (Op.assign (Operand.const (Value.bool false))), none⟩]
def r79_1 : List PO := [⟨(some 3), (Op.move (Operand.tmp 0)), none⟩,
  ⟨(some 4), (Op.call { callee := (Callee.value (Operand.func 75)), args := #[(Operand.tmp 3), (Operand.const (Value.int IntKind.i64 0)), (Operand.const (Value.int IntKind.i64 1000000))], argTypes := #[3, 3, 3] }), none⟩,
  ⟨(some 2), (Op.assign (Operand.tmp 4)), none⟩]
def c79 : PC := (.seq (.reg r79_0) (.seq (.reg r79_1) .ret))
def i79 : FnI := ⟨5, [(ResultVar.tmp 2)], c79, 0, [[0]], [[0]], false⟩
-- loop.example/g00344/impl.areComms
def r80_0 : List PO := [⟨(some 2), (Op.assign (Operand.const (Value.bool false))), none⟩]
def r80_1 : List PO := [⟨(some 5), (Op.move (Operand.tmp 0)), none⟩,
  ⟨(some 6), (Op.call { callee := (Callee.builtin Builtin.len), args := #[(Operand.tmp 5)], argTypes := #[24] }), none⟩,
  ⟨(some 7), (Op.move (Operand.const (Value.int IntKind.i64 0))), none⟩]
def r80_2 : List PO := [⟨(some 8), (Op.binOp BinOp.lss 3 (Operand.tmp 7) (Operand.tmp 6) 3), none⟩]
def r80_3 : List PO := [⟨(some 9), (Op.move (Operand.tmp 7)), none⟩,
  ⟨(some 10), (Op.indexAddr 24 (Operand.tmp 5) (Operand.tmp 7)), none⟩,
  ⟨(some 11), (Op.load 3 (Operand.tmp 10)), none⟩,
  ⟨(some 3), (Op.assign (Operand.tmp 9)), none⟩,
  ⟨(some 4), (Op.assign (Operand.tmp 11)), none⟩]
def r80_4 : List PO := [⟨(some 12), (Op.move (Operand.tmp 4)), none⟩,
  ⟨(some 13), (Op.call { callee := (Callee.value (Operand.func 79)), args := #[(Operand.tmp 12)], argTypes := #[3] }), none⟩,
  ⟨(some 14), (Op.unOp UnOp.not 4 (Operand.tmp 13)), none⟩,
  ⟨(some 15), (Op.move (Operand.tmp 14)), none⟩,
  ⟨(some 16), (Op.move (Operand.tmp 3)), (some (15, false))⟩,
  ⟨(some 17), (Op.binOp BinOp.gtr 3 (Operand.tmp 16) (Operand.const (Value.int IntKind.i64 0)) 3), (some (15, false))⟩,
  ⟨(some 18), (Op.move (Operand.tmp 17)), (some (15, false))⟩,
  ⟨(some 19), (Op.move (Operand.tmp 4)), (some (18, true))⟩,
  ⟨(some 20), (Op.move (Operand.tmp 0)), (some (18, true))⟩,
  ⟨(some 21), (Op.move (Operand.tmp 3)), (some (18, true))⟩,
  ⟨(some 22), (Op.binOp BinOp.sub 3 (Operand.tmp 21) (Operand.const (Value.int IntKind.i64 1)) 3), (some (18, true))⟩,
  ⟨(some 23), (Op.indexAddr 24 (Operand.tmp 20) (Operand.tmp 22)), (some (18, true))⟩,
  ⟨(some 24), (Op.load 3 (Operand.tmp 23)), (some (18, true))⟩,
  ⟨(some 25), (Op.binOp BinOp.leq 3 (Operand.tmp 19) (Operand.tmp 24) 3), (some (18, true))⟩,
  ⟨(some 26), (Op.pick (Operand.tmp 18) (Operand.tmp 25) (Operand.const (Value.bool false))), (some (15, false))⟩,
  ⟨(some 27), (Op.pick (Operand.tmp 15) (Operand.const (Value.bool true)) (Operand.tmp 26)), none⟩]
def r80_5 : List PO := [⟨(some 2), (Op.assign (Operand.const (Value.bool false))), none⟩]
def r80_6 : List PO := [⟨(some 28), (Op.binOp BinOp.add 3 (Operand.tmp 7) (Operand.const (Value.int IntKind.i64 1)) 3), none⟩,
  ⟨(some 7), (Op.move (Operand.tmp 28)), none⟩]
def l80_0 : PC := (.seq (.reg r80_2) (.seq (.cond (Operand.tmp 8) .skip (.exit 0)) (.seq (.block 1 (.seq (.reg r80_3) (.seq (.reg r80_4) (.cond (Operand.tmp 27) (.seq (.reg r80_5) .ret) .skip)))) (.reg r80_6))))
def r80_7 : List PO := [⟨(some 29), (Op.move (Operand.tmp 0)), none⟩,
  ⟨(some 30), (Op.call { callee := (Callee.builtin Builtin.len), args := #[(Operand.tmp 29)], argTypes := #[24] }), none⟩,
  ⟨(some 31), (Op.binOp BinOp.leq 3 (Operand.tmp 30) (Operand.const (Value.int IntKind.i64 6)) 3), none⟩,
  ⟨(some 2), (Op.assign (Operand.tmp 31)), none⟩]
def c80 : PC := (.seq (.reg r80_0) (.seq (.seq (.reg r80_1) (.block 0 (.loop l80_0))) (.seq (.reg r80_7) .ret)))
def i80 : FnI := ⟨32, [(ResultVar.tmp 2)], c80, 0, [[1]], [[0]], false⟩
-- loop.example/g00344/laws.eqIntS
def r81_0 : List PO := [⟨(some 4), (Op.assign (Operand.const (Value.bool false))), none⟩]
def r81_1 : List PO := [⟨(some 6), (Op.move (Operand.tmp 0)), none⟩,
  ⟨(some 7), (Op.call { callee := (Callee.builtin Builtin.len), args := #[(Operand.tmp 6)], argTypes := #[24] }), none⟩,
  ⟨(some 8), (Op.move (Operand.tmp 1)), none⟩,
  ⟨(some 9), (Op.call { callee := (Callee.builtin Builtin.len), args := #[(Operand.tmp 8)], argTypes := #[24] }), none⟩,
  ⟨(some 10), (Op.binOp BinOp.neq 3 (Operand.tmp 7) (Operand.tmp 9) 3), none⟩]
def r81_2 : List PO := [⟨(some 4), (Op.assign (Operand.const (Value.bool false))), none⟩]
def r81_3 : List PO := [⟨(some 5), (Op.assign (Operand.const (Value.int IntKind.i64 0))), none⟩]
def r81_4 : List PO := [⟨(some 11), (Op.move (Operand.tmp 5)), none⟩,
  ⟨(some 12), (Op.move (Operand.tmp 0)), none⟩,
  ⟨(some 13), (Op.call { callee := (Callee.builtin Builtin.len), args := #[(Operand.tmp 12)], argTypes := #[24] }), none⟩,
  ⟨(some 14), (Op.binOp BinOp.lss 3 (Operand.tmp 11) (Operand.tmp 13) 3), none⟩]
def r81_6 : List PO := [⟨(some 17), (Op.move (Operand.tmp 0)), none⟩,
  ⟨(some 18), (Op.move (Operand.tmp 5)), none⟩,
  ⟨(some 19), (Op.indexAddr 24 (Operand.tmp 17) (Operand.tmp 18)), none⟩,
  ⟨(some 20), (Op.load 3 (Operand.tmp 19)), none⟩,
  ⟨(some 21), (Op.move (Operand.tmp 1)), none⟩,
  ⟨(some 22), (Op.move (Operand.tmp 5)), none⟩,
  ⟨(some 23), (Op.indexAddr 24 (Operand.tmp 21) (Operand.tmp 22)), none⟩,
  ⟨(some 24), (Op.load 3 (Operand.tmp 23)), none⟩,
  ⟨(some 25), (Op.binOp BinOp.neq 3 (Operand.tmp 20) (Operand.tmp 24) 3), none⟩]
def r81_7 : List PO := [⟨(some 4), (Op.assign (Operand.const (Value.bool false))), none⟩]
def r81_5 : List PO := [⟨(some 15), (Op.move (Operand.tmp 5)), none⟩,
  ⟨(some 16), (Op.binOp BinOp.add 3 (Operand.tmp 15) (Operand.const (Value.int IntKind.i64 1)) 3), none⟩,
  ⟨(some 5), (Op.assign (Operand.tmp 16)), none⟩]
def l81_0 : PC := (.seq (.seq (.reg r81_4) (.cond (Operand.tmp 14) .skip (.exit 0))) (.seq (.block 1 (.seq (.fz r81_6) (.cond (Operand.tmp 25) (.seq (.reg r81_7) .ret) .skip))) (.reg r81_5)))
def r81_8 : List PO := [⟨(some 4), (Op.assign (Operand.const (Value.bool true))), none⟩]
def c81 : PC := (.seq (.reg r81_0) (.seq (.seq (.reg r81_1) (.cond (Operand.tmp 10) (.seq (.reg r81_2) .ret) .skip)) (.seq (.seq (.reg r81_3) (.block 0 (.loop l81_0))) (.seq (.reg r81_8) .ret))))
def i81 : FnI := ⟨26, [(ResultVar.tmp 4)], c81, 0, [[1], [1]], [[0]], false⟩
-- loop.example/g00344/impl.isAsn
def r91_0 : List PO := [⟨(some 2), (Op.assign (Operand.const (Value.bool false))), none⟩]
def r91_1 : List PO := [⟨(some 3), (Op.move (Operand.tmp 0)), none⟩,
  ⟨(some 4), (Op.call { callee := (Callee.value (Operand.func 75)), args := #[(Operand.tmp 3), (Operand.const (Value.int IntKind.i64 1)), (Operand.const (Value.int IntKind.i64 65535))], argTypes := #[3, 3, 3] }), none⟩,
  ⟨(some 2), (Op.assign (Operand.tmp 4)), none⟩]
def c91 : PC := (.seq (.reg r91_0) (.seq (.reg r91_1) .ret))
def i91 : FnI := ⟨5, [(ResultVar.tmp 2)], c91, 0, [[0]], [[0]], false⟩
-- slices.ContainsFunc[[]int,int]
def r120_0 : List PO := [⟨(some 4), (Op.assign (Operand.const (Value.bool false))), none⟩]
def r120_1 : List PO := [⟨(some 5), (Op.move (Operand.tmp 0)), none⟩,
  ⟨(some 6), (Op.move (Operand.tmp 1)), none⟩,
  ⟨(some 7), (Op.call { callee := (Callee.value (Operand.func 133)), args := #[(Operand.tmp 5), (Operand.tmp 6)], argTypes := #[24, 107] }), none⟩,
  ⟨(some 8), (Op.binOp BinOp.geq 3 (Operand.tmp 7) (Operand.const (Value.int IntKind.i64 0)) 3), none⟩,
  ⟨(some 4), (Op.assign (Operand.tmp 8)), none⟩]
def c120 : PC := (.seq (.reg r120_0) (.seq (.reg r120_1) .ret))
def i120 : FnI := ⟨9, [(ResultVar.tmp 4)], c120, 0, [[1], [0]], [[0]], false⟩
-- loop.example/g00344/impl.isPath$1
def r121_0 : List PO := [⟨(some 2), (Op.assign (Operand.const (Value.bool false))), none⟩]
def r121_1 : List PO := [⟨(some 3), (Op.move (Operand.tmp 0)), none⟩,
  ⟨(some 4), (Op.call { callee := (Callee.value (Operand.func 91)), args := #[(Operand.tmp 3)], argTypes := #[3] }), none⟩,
  ⟨(some 5), (Op.unOp UnOp.not 4 (Operand.tmp 4)), none⟩,
  ⟨(some 2), (Op.assign (Operand.tmp 5)), none⟩]
def c121 : PC := (.seq (.reg r121_0) (.seq (.reg r121_1) .ret))
def i121 : FnI := ⟨6, [(ResultVar.tmp 2)], c121, 0, [[0]], [[0]], false⟩
-- slices.IndexFunc[[]int,int]
def r133_0 : List PO := [⟨(some 4), (Op.assign (Operand.const (Value.int IntKind.i64 0))), none⟩]
def r133_1 : List PO := [⟨(some 6), (Op.move (Operand.tmp 0)), none⟩,
  ⟨(some 7), (Op.call { callee := (Callee.builtin Builtin.len), args := #[(Operand.tmp 6)], argTypes := #[24] }), none⟩,
  ⟨(some 8), (Op.move (Operand.const (Value.int IntKind.i64 0))), none⟩]
def r133_2 : List PO := [⟨(some 9), (Op.binOp BinOp.lss 3 (Operand.tmp 8) (Operand.tmp 7) 3), none⟩]
def r133_3 : List PO := [⟨(some 10), (Op.move (Operand.tmp 8)), none⟩,
  ⟨(some 5), (Op.assign (Operand.tmp 10)), none⟩]
def r133_4 : List PO := [⟨(some 11), (Op.move (Operand.tmp 1)), none⟩,
  ⟨(some 12), (Op.move (Operand.tmp 0)), none⟩,
  ⟨(some 13), (Op.move (Operand.tmp 5)), none⟩,
  ⟨(some 14), (Op.indexAddr 24 (Operand.tmp 12) (Operand.tmp 13)), none⟩,
  ⟨(some 15), (Op.load 3 (Operand.tmp 14)), none⟩,
  ⟨(some 16), (Op.call { callee := (Callee.value (Operand.tmp 11)), args := #[(Operand.tmp 15)], argTypes := #[3] }), none⟩]
def r133_5 : List PO := [⟨(some 17), (Op.move (Operand.tmp 5)), none⟩,
  ⟨(some 4), (Op.assign (Operand.tmp 17)), none⟩]
def r133_6 : List PO := [⟨(some 18), (Op.binOp BinOp.add 3 (Operand.tmp 8) (Operand.const (Value.int IntKind.i64 1)) 3), none⟩,
  ⟨(some 8), (Op.move (Operand.tmp 18)), none⟩]
def l133_0 : PC := (.seq (.reg r133_2) (.seq (.cond (Operand.tmp 9) .skip (.exit 0)) (.seq (.block 1 (.seq (.reg r133_3) (.seq (.reg r133_4) (.cond (Operand.tmp 16) (.seq (.reg r133_5) .ret) .skip)))) (.reg r133_6))))
def r133_7 : List PO := [⟨(some 4), (Op.assign (Operand.const (Value.int IntKind.i64 (-1)))), none⟩]
def c133 : PC := (.seq (.reg r133_0) (.seq (.seq (.reg r133_1) (.block 0 (.loop l133_0))) (.seq (.reg r133_7) .ret)))
def i133 : FnI := ⟨19, [(ResultVar.tmp 4)], c133, 0, [[1], [0]], [[0]], false⟩
def tys : List (Nat × TyI) := [(3, ⟨1, 8, false, [.int .i64 0], [0], 0, [], .int .i64, false⟩),
  (4, ⟨1, 1, false, [.bool false], [0], 0, [], .bool, false⟩),
  (23, ⟨2, 16, true, [.int .i64 0, .int .i64 0], [0, 0], 0, [(0, 1, false), (1, 1, false)], .other, false⟩),
  (24, ⟨1, 24, false, [.nil], [1], 3, [], .other, false⟩),
  (26, ⟨6, 80, true, [.int .i64 0, .nil, .int .i64 0, .int .i64 0, .int .i64 0, .nil], [0, 1, 0, 0, 0, 1], 0, [(0, 1, false), (1, 1, false), (2, 1, false), (3, 1, false), (4, 1, false), (5, 1, false)], .other, false⟩),
  (28, ⟨8, 96, true, [.int .i64 0, .int .i64 0, .int .i64 0, .nil, .int .i64 0, .int .i64 0, .int .i64 0, .nil], [0, 0, 0, 1, 0, 0, 0, 1], 0, [(0, 2, true), (2, 6, true)], .other, false⟩),
  (31, ⟨2, 16, true, [.int .i64 0, .int .i64 0], [0, 0], 0, [(0, 1, false), (1, 1, false)], .other, false⟩),
  (32, ⟨6, 80, true, [.int .i64 0, .nil, .int .i64 0, .int .i64 0, .int .i64 0, .nil], [0, 1, 0, 0, 0, 1], 0, [(0, 1, false), (1, 1, false), (2, 1, false), (3, 1, false), (4, 1, false), (5, 1, false)], .other, false⟩),
  (34, ⟨8, 96, true, [.int .i64 0, .int .i64 0, .int .i64 0, .nil, .int .i64 0, .int .i64 0, .int .i64 0, .nil], [0, 0, 0, 1, 0, 0, 0, 1], 0, [(0, 2, true), (2, 6, true)], .other, false⟩),
  (145, ⟨1, 8, false, [.int .u64 0], [0], 0, [], .int .u64, false⟩)]
def fns : List (Nat × FnI) := [(3, i3), (8, i8), (9, i9), (10, i10), (11, i11), (12, i12), (32, i32), (33, i33), (34, i34), (35, i35), (36, i36), (37, i37), (38, i38), (39, i39), (40, i40), (70, i70), (71, i71), (72, i72), (73, i73), (74, i74), (75, i75), (76, i76), (77, i77), (78, i78), (79, i79), (80, i80), (81, i81), (91, i91), (120, i120), (121, i121), (133, i133)]
def T : Tab := mkTab tys fns
@[simp] theorem ty3 : T.ty 3 = some ⟨1, 8, false, [.int .i64 0], [0], 0, [], .int .i64, false⟩ := rfl
@[simp] theorem base3 : T.baseOf 3 = Bs.int .i64 := rfl
@[simp] theorem ty4 : T.ty 4 = some ⟨1, 1, false, [.bool false], [0], 0, [], .bool, false⟩ := rfl
@[simp] theorem base4 : T.baseOf 4 = Bs.bool := rfl
@[simp] theorem ty23 : T.ty 23 = some ⟨2, 16, true, [.int .i64 0, .int .i64 0], [0, 0], 0, [(0, 1, false), (1, 1, false)], .other, false⟩ := rfl
@[simp] theorem base23 : T.baseOf 23 = Bs.other := rfl
@[simp] theorem ty24 : T.ty 24 = some ⟨1, 24, false, [.nil], [1], 3, [], .other, false⟩ := rfl
@[simp] theorem base24 : T.baseOf 24 = Bs.other := rfl
@[simp] theorem elem24 : T.elemOf 24 = some ⟨1, 8, false, [.int .i64 0], [0], 0, [], .int .i64, false⟩ := rfl
@[simp] theorem ty26 : T.ty 26 = some ⟨6, 80, true, [.int .i64 0, .nil, .int .i64 0, .int .i64 0, .int .i64 0, .nil], [0, 1, 0, 0, 0, 1], 0, [(0, 1, false), (1, 1, false), (2, 1, false), (3, 1, false), (4, 1, false), (5, 1, false)], .other, false⟩ := rfl
@[simp] theorem base26 : T.baseOf 26 = Bs.other := rfl
@[simp] theorem ty28 : T.ty 28 = some ⟨8, 96, true, [.int .i64 0, .int .i64 0, .int .i64 0, .nil, .int .i64 0, .int .i64 0, .int .i64 0, .nil], [0, 0, 0, 1, 0, 0, 0, 1], 0, [(0, 2, true), (2, 6, true)], .other, false⟩ := rfl
@[simp] theorem base28 : T.baseOf 28 = Bs.other := rfl
@[simp] theorem ty31 : T.ty 31 = some ⟨2, 16, true, [.int .i64 0, .int .i64 0], [0, 0], 0, [(0, 1, false), (1, 1, false)], .other, false⟩ := rfl
@[simp] theorem base31 : T.baseOf 31 = Bs.other := rfl
@[simp] theorem ty32 : T.ty 32 = some ⟨6, 80, true, [.int .i64 0, .nil, .int .i64 0, .int .i64 0, .int .i64 0, .nil], [0, 1, 0, 0, 0, 1], 0, [(0, 1, false), (1, 1, false), (2, 1, false), (3, 1, false), (4, 1, false), (5, 1, false)], .other, false⟩ := rfl
@[simp] theorem base32 : T.baseOf 32 = Bs.other := rfl
@[simp] theorem ty34 : T.ty 34 = some ⟨8, 96, true, [.int .i64 0, .int .i64 0, .int .i64 0, .nil, .int .i64 0, .int .i64 0, .int .i64 0, .nil], [0, 0, 0, 1, 0, 0, 0, 1], 0, [(0, 2, true), (2, 6, true)], .other, false⟩ := rfl
@[simp] theorem base34 : T.baseOf 34 = Bs.other := rfl
@[simp] theorem ty145 : T.ty 145 = some ⟨1, 8, false, [.int .u64 0], [0], 0, [], .int .u64, false⟩ := rfl
@[simp] theorem base145 : T.baseOf 145 = Bs.int .u64 := rfl
theorem ok3 : FnOk Try.prog (3, i3) := ⟨Try.f3, _, Try.func3, rfl, by kernel_rfl, rfl, rfl, by kernel_rfl⟩
theorem ok8 : FnOk Try.prog (8, i8) := ⟨Try.f8, _, Try.func8, rfl, by kernel_rfl, rfl, rfl, by kernel_rfl⟩
theorem ok9 : FnOk Try.prog (9, i9) := ⟨Try.f9, _, Try.func9, rfl, by kernel_rfl, rfl, rfl, by kernel_rfl⟩
theorem ok10 : FnOk Try.prog (10, i10) := ⟨Try.f10, _, Try.func10, rfl, by kernel_rfl, rfl, rfl, by kernel_rfl⟩
theorem ok11 : FnOk Try.prog (11, i11) := ⟨Try.f11, _, Try.func11, rfl, by kernel_rfl, rfl, rfl, by kernel_rfl⟩
theorem ok12 : FnOk Try.prog (12, i12) := ⟨Try.f12, _, Try.func12, rfl, by kernel_rfl, rfl, rfl, by kernel_rfl⟩
theorem ok32 : FnOk Try.prog (32, i32) := ⟨Try.f32, _, Try.func32, rfl, by kernel_rfl, rfl, rfl, by kernel_rfl⟩
theorem ok33 : FnOk Try.prog (33, i33) := ⟨Try.f33, _, Try.func33, rfl, by kernel_rfl, rfl, rfl, by kernel_rfl⟩
theorem ok34 : FnOk Try.prog (34, i34) := ⟨Try.f34, _, Try.func34, rfl, by kernel_rfl, rfl, rfl, by kernel_rfl⟩
theorem ok35 : FnOk Try.prog (35, i35) := ⟨Try.f35, _, Try.func35, rfl, by kernel_rfl, rfl, rfl, by kernel_rfl⟩
theorem ok36 : FnOk Try.prog (36, i36) := ⟨Try.f36, _, Try.func36, rfl, by kernel_rfl, rfl, rfl, by kernel_rfl⟩
theorem ok37 : FnOk Try.prog (37, i37) := ⟨Try.f37, _, Try.func37, rfl, by kernel_rfl, rfl, rfl, by kernel_rfl⟩
theorem ok38 : FnOk Try.prog (38, i38) := ⟨Try.f38, _, Try.func38, rfl, by kernel_rfl, rfl, rfl, by kernel_rfl⟩
theorem ok39 : FnOk Try.prog (39, i39) := ⟨Try.f39, _, Try.func39, rfl, by kernel_rfl, rfl, rfl, by kernel_rfl⟩
theorem ok40 : FnOk Try.prog (40, i40) := ⟨Try.f40, _, Try.func40, rfl, by kernel_rfl, rfl, rfl, by kernel_rfl⟩
theorem ok70 : FnOk Try.prog (70, i70) := ⟨Try.f70, _, Try.func70, rfl, by kernel_rfl, rfl, rfl, by kernel_rfl⟩
theorem ok71 : FnOk Try.prog (71, i71) := ⟨Try.f71, _, Try.func71, rfl, by kernel_rfl, rfl, rfl, by kernel_rfl⟩
theorem ok72 : FnOk Try.prog (72, i72) := ⟨Try.f72, _, Try.func72, rfl, by kernel_rfl, rfl, rfl, by kernel_rfl⟩
theorem ok73 : FnOk Try.prog (73, i73) := ⟨Try.f73, _, Try.func73, rfl, by kernel_rfl, rfl, rfl, by kernel_rfl⟩
theorem ok74 : FnOk Try.prog (74, i74) := ⟨Try.f74, _, Try.func74, rfl, by kernel_rfl, rfl, rfl, by kernel_rfl⟩
theorem ok75 : FnOk Try.prog (75, i75) := ⟨Try.f75, _, Try.func75, rfl, by kernel_rfl, rfl, rfl, by kernel_rfl⟩
theorem ok76 : FnOk Try.prog (76, i76) := ⟨Try.f76, _, Try.func76, rfl, by kernel_rfl, rfl, rfl, by kernel_rfl⟩
theorem ok77 : FnOk Try.prog (77, i77) := ⟨Try.f77, _, Try.func77, rfl, by kernel_rfl, rfl, rfl, by kernel_rfl⟩
theorem ok78 : FnOk Try.prog (78, i78) := ⟨Try.f78, _, Try.func78, rfl, by kernel_rfl, rfl, rfl, by kernel_rfl⟩
theorem ok79 : FnOk Try.prog (79, i79) := ⟨Try.f79, _, Try.func79, rfl, by kernel_rfl, rfl, rfl, by kernel_rfl⟩
theorem ok80 : FnOk Try.prog (80, i80) := ⟨Try.f80, _, Try.func80, rfl, by kernel_rfl, rfl, rfl, by kernel_rfl⟩
theorem ok81 : FnOk Try.prog (81, i81) := ⟨Try.f81, _, Try.func81, rfl, by kernel_rfl, rfl, rfl, by kernel_rfl⟩
theorem ok91 : FnOk Try.prog (91, i91) := ⟨Try.f91, _, Try.func91, rfl, by kernel_rfl, rfl, rfl, by kernel_rfl⟩
theorem ok120 : FnOk Try.prog (120, i120) := ⟨Try.f120, _, Try.func120, rfl, by kernel_rfl, rfl, rfl, by kernel_rfl⟩
theorem ok121 : FnOk Try.prog (121, i121) := ⟨Try.f121, _, Try.func121, rfl, by kernel_rfl, rfl, rfl, by kernel_rfl⟩
theorem ok133 : FnOk Try.prog (133, i133) := ⟨Try.f133, _, Try.func133, rfl, by kernel_rfl, rfl, rfl, by kernel_rfl⟩
theorem tab : TabOk Try.prog T := tabOk_of (by kernel_rfl) (.cons ok3 (.cons ok8 (.cons ok9 (.cons ok10 (.cons ok11 (.cons ok12 (.cons ok32 (.cons ok33 (.cons ok34 (.cons ok35 (.cons ok36 (.cons ok37 (.cons ok38 (.cons ok39 (.cons ok40 (.cons ok70 (.cons ok71 (.cons ok72 (.cons ok73 (.cons ok74 (.cons ok75 (.cons ok76 (.cons ok77 (.cons ok78 (.cons ok79 (.cons ok80 (.cons ok81 (.cons ok91 (.cons ok120 (.cons ok121 (.cons ok133 (.nil))))))))))))))))))))))))))))))))
theorem fn3 : T.fn 3 = some i3 := rfl
theorem fn8 : T.fn 8 = some i8 := rfl
theorem fn9 : T.fn 9 = some i9 := rfl
theorem fn10 : T.fn 10 = some i10 := rfl
theorem fn11 : T.fn 11 = some i11 := rfl
theorem fn12 : T.fn 12 = some i12 := rfl
theorem fn32 : T.fn 32 = some i32 := rfl
theorem fn33 : T.fn 33 = some i33 := rfl
theorem fn34 : T.fn 34 = some i34 := rfl
theorem fn35 : T.fn 35 = some i35 := rfl
theorem fn36 : T.fn 36 = some i36 := rfl
theorem fn37 : T.fn 37 = some i37 := rfl
theorem fn38 : T.fn 38 = some i38 := rfl
theorem fn39 : T.fn 39 = some i39 := rfl
theorem fn40 : T.fn 40 = some i40 := rfl
theorem fn70 : T.fn 70 = some i70 := rfl
theorem fn71 : T.fn 71 = some i71 := rfl
theorem fn72 : T.fn 72 = some i72 := rfl
theorem fn73 : T.fn 73 = some i73 := rfl
theorem fn74 : T.fn 74 = some i74 := rfl
theorem fn75 : T.fn 75 = some i75 := rfl
theorem fn76 : T.fn 76 = some i76 := rfl
theorem fn77 : T.fn 77 = some i77 := rfl
theorem fn78 : T.fn 78 = some i78 := rfl
theorem fn79 : T.fn 79 = some i79 := rfl
theorem fn80 : T.fn 80 = some i80 := rfl
theorem fn81 : T.fn 81 = some i81 := rfl
theorem fn91 : T.fn 91 = some i91 := rfl
theorem fn120 : T.fn 120 = some i120 := rfl
theorem fn121 : T.fn 121 = some i121 := rfl
theorem fn133 : T.fn 133 = some i133 := rfl

end Go.Pi.Ythidbgihjhkjaaa.GoodRoute
