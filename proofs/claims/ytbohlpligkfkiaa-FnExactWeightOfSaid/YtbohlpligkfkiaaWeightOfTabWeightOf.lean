/- What functions of the program answer, and that the law answers true at every input; no condition -/
import Derived.Test.YtbohlpligkfkiaaProg
import Derived.Test.YtbohlpligkfkiaaPiC
set_option linter.all false
/- The program's tables for Pi: types and functions, as they stand in the loaded program. -/
namespace Go.Pi.Ytbohlpligkfkiaa.WeightOf
open Go Go.Proofs Go.Pi
set_option maxRecDepth 100000

-- loop.example/g00344/laws.FnExactWeightOf
def r7_0 : List PO := [⟨(some 3), (Op.box 24 (Operand.tmp 0)), none⟩,
  ⟨(some 6), (Op.assign (Operand.const (Value.bool false))), none⟩]
def r7_1 : List PO := [⟨(some 15), (Op.move (Operand.tmp 2)), none⟩,
  ⟨(some 16), (Op.call { callee := (Callee.builtin Builtin.len), args := #[(Operand.tmp 15)], argTypes := #[38] }), none⟩,
  ⟨(some 17), (Op.binOp BinOp.gtr 3 (Operand.tmp 16) (Operand.const (Value.int IntKind.i64 1048576)) 3), none⟩]
def r7_2 : List PO := [⟨(some 6), (Op.assign (Operand.const (Value.bool true))), none⟩]
def r7_3 : List PO := [⟨(some 7), (Op.assign (Operand.const (Value.int IntKind.i64 1048576))), none⟩]
def r7_4 : List PO := [⟨(some 18), (Op.load 24 (Operand.tmp 3)), none⟩,
  ⟨(some 19), (Op.move (Operand.tmp 7)), none⟩,
  ⟨(some 20), (Op.call { callee := (Callee.value (Operand.func 12)), args := #[(Operand.tmp 18), (Operand.tmp 19)], argTypes := #[24, 3] }), none⟩,
  ⟨(some 7), (Op.assign (Operand.tmp 20)), none⟩]
def r7_5 : List PO := [⟨(some 21), (Op.move (Operand.tmp 7)), none⟩,
  ⟨(some 22), (Op.binOp BinOp.lss 3 (Operand.tmp 21) (Operand.const (Value.int IntKind.i64 0)) 3), none⟩]
def r7_6 : List PO := [⟨(some 6), (Op.assign (Operand.const (Value.bool true))), none⟩]
def r7_7 : List PO := [⟨(some 23), (Op.move (Operand.tmp 1)), none⟩,
  ⟨(some 24), (Op.move (Operand.tmp 7)), none⟩,
  ⟨(some 25), (Op.call { callee := (Callee.value (Operand.func 25)), args := #[(Operand.tmp 23), (Operand.tmp 24)], argTypes := #[37, 3] }), none⟩,
  ⟨(some 7), (Op.assign (Operand.tmp 25)), none⟩]
def r7_8 : List PO := [⟨(some 26), (Op.move (Operand.tmp 7)), none⟩,
  ⟨(some 27), (Op.binOp BinOp.lss 3 (Operand.tmp 26) (Operand.const (Value.int IntKind.i64 0)) 3), none⟩]
def r7_9 : List PO := [⟨(some 6), (Op.assign (Operand.const (Value.bool true))), none⟩]
def r7_10 : List PO := [⟨(some 29), (Op.load 24 (Operand.tmp 3)), none⟩,
  ⟨(some 30), (Op.call { callee := (Callee.value (Operand.func 14)), args := #[(Operand.tmp 29)], argTypes := #[24] }), none⟩,
  ⟨(some 31), (Op.move (Operand.tmp 1)), none⟩,
  ⟨(some 32), (Op.call { callee := (Callee.value (Operand.func 27)), args := #[(Operand.tmp 31)], argTypes := #[37] }), none⟩,
  ⟨(some 33), (Op.move (Operand.tmp 2)), none⟩,
  ⟨(some 34), (Op.call { callee := (Callee.value (Operand.func 28)), args := #[(Operand.tmp 33)], argTypes := #[38] }), none⟩,
  ⟨(some 35), (Op.call { callee := (Callee.value (Operand.func 26)), args := #[(Operand.tmp 30), (Operand.tmp 32), (Operand.tmp 34)], argTypes := #[27, 42, 38] }), none⟩,
  ⟨(some 28), (Op.move (Operand.tmp 35)), none⟩,
  ⟨(some 36), (Op.extract (Operand.tmp 28) 0), none⟩,
  ⟨(some 37), (Op.extract (Operand.tmp 28) 1), none⟩,
  ⟨(some 8), (Op.assign (Operand.tmp 36)), none⟩,
  ⟨(some 9), (Op.assign (Operand.tmp 37)), none⟩]
def r7_11 : List PO := [⟨(some 38), (Op.load 24 (Operand.tmp 3)), none⟩,
  ⟨(some 39), (Op.call { callee := (Callee.value (Operand.func 14)), args := #[(Operand.tmp 38)], argTypes := #[24] }), none⟩,
  ⟨(some 10), (Op.alloc 27), none⟩,
  ⟨none, (Op.store 27 (Operand.tmp 10) (Operand.tmp 39)), none⟩]
def r7_12 : List PO := [⟨(some 40), (Op.move (Operand.tmp 1)), none⟩,
  ⟨(some 41), (Op.call { callee := (Callee.value (Operand.func 27)), args := #[(Operand.tmp 40)], argTypes := #[37] }), none⟩,
  ⟨(some 11), (Op.assign (Operand.tmp 41)), none⟩]
def r7_13 : List PO := [⟨(some 42), (Op.move (Operand.tmp 2)), none⟩,
  ⟨(some 43), (Op.call { callee := (Callee.value (Operand.func 28)), args := #[(Operand.tmp 42)], argTypes := #[38] }), none⟩,
  ⟨(some 12), (Op.assign (Operand.tmp 43)), none⟩]
def r7_14 : List PO := [⟨(some 45), (Op.load 27 (Operand.tmp 10)), none⟩,
  ⟨(some 46), (Op.move (Operand.tmp 11)), none⟩,
  ⟨(some 47), (Op.move (Operand.tmp 12)), none⟩,
  ⟨(some 48), (Op.call { callee := (Callee.value (Operand.func 29)), args := #[(Operand.tmp 45), (Operand.tmp 46), (Operand.tmp 47)], argTypes := #[27, 42, 38] }), none⟩,
  ⟨(some 44), (Op.move (Operand.tmp 48)), none⟩,
  ⟨(some 49), (Op.extract (Operand.tmp 44) 0), none⟩,
  ⟨(some 50), (Op.extract (Operand.tmp 44) 1), none⟩,
  ⟨(some 13), (Op.assign (Operand.tmp 49)), none⟩,
  ⟨(some 14), (Op.assign (Operand.tmp 50)), none⟩]
def r7_15 : List PO := [⟨(some 51), (Op.move (Operand.tmp 13)), none⟩,
  ⟨(some 52), (Op.move (Operand.tmp 8)), none⟩,
  ⟨(some 53), (Op.binOp BinOp.neq 3 (Operand.tmp 51) (Operand.tmp 52) 3), none⟩,
  ⟨(some 54), (Op.move (Operand.tmp 53)), none⟩,
  ⟨(some 55), (Op.move (Operand.tmp 14)), (some (54, false))⟩,
  ⟨(some 56), (Op.move (Operand.tmp 9)), (some (54, false))⟩,
  ⟨(some 57), (Op.binOp BinOp.neq 4 (Operand.tmp 55) (Operand.tmp 56) 4), (some (54, false))⟩,
  ⟨(some 58), (Op.pick (Operand.tmp 54) (Operand.const (Value.bool true)) (Operand.tmp 57)), none⟩]
def r7_16 : List PO := [⟨(some 6), (Op.assign (Operand.const (Value.bool false))), none⟩]
def r7_17 : List PO := [⟨(some 59), (Op.load 27 (Operand.tmp 10)), none⟩,
  ⟨(some 60), (Op.load 24 (Operand.tmp 3)), none⟩,
  ⟨(some 61), (Op.call { callee := (Callee.value (Operand.func 14)), args := #[(Operand.tmp 60)], argTypes := #[24] }), none⟩,
  ⟨(some 62), (Op.call { callee := (Callee.value (Operand.func 16)), args := #[(Operand.tmp 59), (Operand.tmp 61)], argTypes := #[27, 27] }), none⟩,
  ⟨(some 63), (Op.unOp UnOp.not 4 (Operand.tmp 62)), none⟩]
def r7_18 : List PO := [⟨(some 6), (Op.assign (Operand.const (Value.bool false))), none⟩]
def r7_19 : List PO := [⟨(some 64), (Op.move (Operand.tmp 11)), none⟩,
  ⟨(some 65), (Op.move (Operand.tmp 1)), none⟩,
  ⟨(some 66), (Op.call { callee := (Callee.value (Operand.func 27)), args := #[(Operand.tmp 65)], argTypes := #[37] }), none⟩,
  ⟨(some 67), (Op.call { callee := (Callee.value (Operand.func 30)), args := #[(Operand.tmp 64), (Operand.tmp 66)], argTypes := #[42, 42] }), none⟩,
  ⟨(some 68), (Op.unOp UnOp.not 4 (Operand.tmp 67)), none⟩]
def r7_20 : List PO := [⟨(some 6), (Op.assign (Operand.const (Value.bool false))), none⟩]
def r7_21 : List PO := [⟨(some 69), (Op.move (Operand.tmp 12)), none⟩,
  ⟨(some 70), (Op.move (Operand.tmp 2)), none⟩,
  ⟨(some 71), (Op.call { callee := (Callee.value (Operand.func 28)), args := #[(Operand.tmp 70)], argTypes := #[38] }), none⟩,
  ⟨(some 72), (Op.call { callee := (Callee.value (Operand.func 31)), args := #[(Operand.tmp 69), (Operand.tmp 71)], argTypes := #[38, 38] }), none⟩,
  ⟨(some 73), (Op.unOp UnOp.not 4 (Operand.tmp 72)), none⟩]
def r7_22 : List PO := [⟨(some 6), (Op.assign (Operand.const (Value.bool false))), none⟩]
def r7_23 : List PO := [⟨(some 6), (Op.assign (Operand.const (Value.bool true))), none⟩]
def c7 : PC := (.seq (.reg r7_0) (.seq (.seq (.reg r7_1) (.cond (Operand.tmp 17) (.seq (.reg r7_2) .ret) .skip)) (.seq (.reg r7_3) (.seq (.reg r7_4) (.seq (.seq (.reg r7_5) (.cond (Operand.tmp 22) (.seq (.reg r7_6) .ret) .skip)) (.seq (.reg r7_7) (.seq (.seq (.reg r7_8) (.cond (Operand.tmp 27) (.seq (.reg r7_9) .ret) .skip)) (.seq (.reg r7_10) (.seq (.reg r7_11) (.seq (.reg r7_12) (.seq (.reg r7_13) (.seq (.reg r7_14) (.seq (.seq (.reg r7_15) (.cond (Operand.tmp 58) (.seq (.reg r7_16) .ret) .skip)) (.seq (.seq (.fz r7_17) (.cond (Operand.tmp 63) (.seq (.reg r7_18) .ret) .skip)) (.seq (.seq (.reg r7_19) (.cond (Operand.tmp 68) (.seq (.reg r7_20) .ret) .skip)) (.seq (.seq (.reg r7_21) (.cond (Operand.tmp 73) (.seq (.reg r7_22) .ret) .skip)) (.seq (.reg r7_23) .ret)))))))))))))))))
def i7 : FnI := ⟨74, [(ResultVar.tmp 6)], c7, 0, [[0, 1], [3], [1]], [[0]], false⟩
-- loop.example/g00344/laws.szAlgebra
def r12_0 : List PO := [⟨(some 2), (Op.box 24 (Operand.tmp 0)), none⟩,
  ⟨(some 4), (Op.assign (Operand.const (Value.int IntKind.i64 0))), none⟩]
def r12_1 : List PO := [⟨(some 5), (Op.fieldAddr 24 (Operand.tmp 2) 1), none⟩,
  ⟨(some 6), (Op.load 22 (Operand.tmp 5)), none⟩,
  ⟨(some 7), (Op.move (Operand.tmp 1)), none⟩,
  ⟨(some 8), (Op.call { callee := (Callee.value (Operand.func 44)), args := #[(Operand.tmp 6), (Operand.tmp 7)], argTypes := #[22, 3] }), none⟩,
  ⟨(some 1), (Op.assign (Operand.tmp 8)), none⟩]
def r12_2 : List PO := [⟨(some 9), (Op.move (Operand.tmp 1)), none⟩,
  ⟨(some 10), (Op.binOp BinOp.lss 3 (Operand.tmp 9) (Operand.const (Value.int IntKind.i64 0)) 3), none⟩]
def r12_3 : List PO := [⟨(some 4), (Op.assign (Operand.const (Value.int IntKind.i64 (-1)))), none⟩]
def r12_4 : List PO := [⟨(some 11), (Op.move (Operand.tmp 1)), none⟩,
  ⟨(some 4), (Op.assign (Operand.tmp 11)), none⟩]
def c12 : PC := (.seq (.reg r12_0) (.seq (.reg r12_1) (.seq (.seq (.reg r12_2) (.cond (Operand.tmp 10) (.seq (.reg r12_3) .ret) .skip)) (.seq (.reg r12_4) .ret))))
def i12 : FnI := ⟨12, [(ResultVar.tmp 4)], c12, 0, [[0, 1], [0]], [[0]], false⟩
-- loop.example/g00344/spec.GoodAlgebra
def r13_0 : List PO := [⟨(some 1), (Op.box 27 (Operand.tmp 0)), none⟩,
  ⟨(some 2), (Op.assign (Operand.const (Value.bool false))), none⟩]
def r13_1 : List PO := [⟨(some 5), (Op.fieldAddr 27 (Operand.tmp 1) 0), none⟩,
  ⟨(some 6), (Op.load 3 (Operand.tmp 5)), none⟩,
  ⟨(some 7), (Op.call { callee := (Callee.value (Operand.func 45)), args := #[(Operand.tmp 6), (Operand.const (Value.int IntKind.i64 2)), (Operand.const (Value.int IntKind.i64 12))], argTypes := #[3, 3, 3] }), none⟩,
  ⟨(some 8), (Op.unOp UnOp.not 4 (Operand.tmp 7)), none⟩,
  ⟨(some 9), (Op.move (Operand.tmp 8)), none⟩,
  ⟨(some 10), (Op.fieldAddr 27 (Operand.tmp 1) 1), (some (9, false))⟩,
  ⟨(some 11), (Op.load 22 (Operand.tmp 10)), (some (9, false))⟩,
  ⟨(some 12), (Op.call { callee := (Callee.builtin Builtin.len), args := #[(Operand.tmp 11)], argTypes := #[22] }), (some (9, false))⟩,
  ⟨(some 13), (Op.call { callee := (Callee.value (Operand.func 45)), args := #[(Operand.tmp 12), (Operand.const (Value.int IntKind.i64 1)), (Operand.const (Value.int IntKind.i64 4))], argTypes := #[3, 3, 3] }), (some (9, false))⟩,
  ⟨(some 14), (Op.unOp UnOp.not 4 (Operand.tmp 13)), (some (9, false))⟩,
  ⟨(some 15), (Op.pick (Operand.tmp 9) (Operand.const (Value.bool true)) (Operand.tmp 14)), none⟩]
def r13_2 : List PO := [⟨(some 2), (Op.assign (Operand.const (Value.bool false))), none⟩]
def r13_3 : List PO := [⟨(some 16), (Op.fieldAddr 27 (Operand.tmp 1) 1), none⟩,
  ⟨(some 17), (Op.load 22 (Operand.tmp 16)), none⟩,
  ⟨(some 18), (Op.call { callee := (Callee.builtin Builtin.len), args := #[(Operand.tmp 17)], argTypes := #[22] }), none⟩,
  ⟨(some 19), (Op.move (Operand.const (Value.int IntKind.i64 0))), none⟩]
def r13_4 : List PO := [⟨(some 20), (Op.binOp BinOp.lss 3 (Operand.tmp 19) (Operand.tmp 18) 3), none⟩]
def r13_5 : List PO := [⟨(some 21), (Op.indexAddr 22 (Operand.tmp 17) (Operand.tmp 19)), none⟩,
  ⟨(some 22), (Op.load 38 (Operand.tmp 21)), none⟩,
  ⟨(some 4), (Op.assign (Operand.tmp 22)), none⟩]
def r13_6 : List PO := [⟨(some 23), (Op.move (Operand.tmp 4)), none⟩,
  ⟨(some 24), (Op.fieldAddr 27 (Operand.tmp 1) 0), none⟩,
  ⟨(some 25), (Op.load 3 (Operand.tmp 24)), none⟩,
  ⟨(some 26), (Op.call { callee := (Callee.value (Operand.func 46)), args := #[(Operand.tmp 23), (Operand.tmp 25)], argTypes := #[38, 3] }), none⟩,
  ⟨(some 27), (Op.unOp UnOp.not 4 (Operand.tmp 26)), none⟩]
def r13_7 : List PO := [⟨(some 2), (Op.assign (Operand.const (Value.bool false))), none⟩]
def r13_8 : List PO := [⟨(some 28), (Op.binOp BinOp.add 3 (Operand.tmp 19) (Operand.const (Value.int IntKind.i64 1)) 3), none⟩,
  ⟨(some 19), (Op.move (Operand.tmp 28)), none⟩]
def l13_0 : PC := (.seq (.reg r13_4) (.seq (.cond (Operand.tmp 20) .skip (.exit 0)) (.seq (.block 1 (.seq (.reg r13_5) (.seq (.reg r13_6) (.cond (Operand.tmp 27) (.seq (.reg r13_7) .ret) .skip)))) (.reg r13_8))))
def r13_9 : List PO := [⟨(some 2), (Op.assign (Operand.const (Value.bool true))), none⟩]
def c13 : PC := (.seq (.reg r13_0) (.seq (.seq (.reg r13_1) (.cond (Operand.tmp 15) (.seq (.reg r13_2) .ret) .skip)) (.seq (.seq (.reg r13_3) (.block 0 (.loop l13_0))) (.seq (.reg r13_9) .ret))))
def i13 : FnI := ⟨29, [(ResultVar.tmp 2)], c13, 0, [[0, 1]], [[0]], false⟩
-- loop.example/g00344/laws.toAlgebra
def r14_0 : List PO := [⟨(some 1), (Op.box 24 (Operand.tmp 0)), none⟩,
  ⟨(some 2), (Op.alloc 27), none⟩]
def r14_1 : List PO := [⟨(some 3), (Op.alloc 27), none⟩]
def r14_2 : List PO := [⟨(some 4), (Op.fieldAddr 24 (Operand.tmp 1) 0), none⟩,
  ⟨(some 5), (Op.load 3 (Operand.tmp 4)), none⟩,
  ⟨(some 6), (Op.fieldAddr 27 (Operand.tmp 3) 0), none⟩,
  ⟨none, (Op.store 3 (Operand.tmp 6) (Operand.tmp 5)), none⟩]
def r14_3 : List PO := [⟨(some 7), (Op.fieldAddr 24 (Operand.tmp 1) 1), none⟩,
  ⟨(some 8), (Op.load 22 (Operand.tmp 7)), none⟩,
  ⟨(some 9), (Op.call { callee := (Callee.value (Operand.func 47)), args := #[(Operand.tmp 8)], argTypes := #[22] }), none⟩,
  ⟨(some 10), (Op.fieldAddr 27 (Operand.tmp 3) 1), none⟩,
  ⟨none, (Op.store 22 (Operand.tmp 10) (Operand.tmp 9)), none⟩]
def r14_4 : List PO := [⟨(some 11), (Op.load 27 (Operand.tmp 3)), none⟩,
  ⟨none, (Op.store 27 (Operand.tmp 2) (Operand.tmp 11)), none⟩]
def c14 : PC := (.seq (.reg r14_0) (.seq (.reg r14_1) (.seq (.reg r14_2) (.seq (.reg r14_3) (.seq (.reg r14_4) .ret)))))
def i14 : FnI := ⟨12, [(ResultVar.cell 2 27)], c14, 0, [[0, 1]], [[0, 1]], false⟩
-- loop.example/g00344/impl.GoodAlgebra
def r15_0 : List PO := [⟨(some 1), (Op.box 27 (Operand.tmp 0)), none⟩,
  ⟨(some 2), (Op.assign (Operand.const (Value.bool false))), none⟩]
def r15_1 : List PO := [⟨(some 3), (Op.fieldAddr 27 (Operand.tmp 1) 0), none⟩,
  ⟨(some 4), (Op.load 3 (Operand.tmp 3)), none⟩,
  ⟨(some 5), (Op.call { callee := (Callee.value (Operand.func 48)), args := #[(Operand.tmp 4), (Operand.const (Value.int IntKind.i64 2)), (Operand.const (Value.int IntKind.i64 12))], argTypes := #[3, 3, 3] }), none⟩,
  ⟨(some 6), (Op.unOp UnOp.not 4 (Operand.tmp 5)), none⟩,
  ⟨(some 7), (Op.move (Operand.tmp 6)), none⟩,
  ⟨(some 8), (Op.fieldAddr 27 (Operand.tmp 1) 1), (some (7, false))⟩,
  ⟨(some 9), (Op.load 22 (Operand.tmp 8)), (some (7, false))⟩,
  ⟨(some 10), (Op.call { callee := (Callee.builtin Builtin.len), args := #[(Operand.tmp 9)], argTypes := #[22] }), (some (7, false))⟩,
  ⟨(some 11), (Op.call { callee := (Callee.value (Operand.func 48)), args := #[(Operand.tmp 10), (Operand.const (Value.int IntKind.i64 1)), (Operand.const (Value.int IntKind.i64 4))], argTypes := #[3, 3, 3] }), (some (7, false))⟩,
  ⟨(some 12), (Op.unOp UnOp.not 4 (Operand.tmp 11)), (some (7, false))⟩,
  ⟨(some 13), (Op.pick (Operand.tmp 7) (Operand.const (Value.bool true)) (Operand.tmp 12)), none⟩]
def r15_2 : List PO := [⟨(some 2), (Op.assign (Operand.const (Value.bool false))), none⟩]
def r15_3 : List PO := [⟨(some 14), (Op.fieldAddr 27 (Operand.tmp 1) 1), none⟩,
  ⟨(some 15), (Op.load 22 (Operand.tmp 14)), none⟩,
  ⟨(some 16), (Op.makeFunc (Fn.func 50) #[] #[(Operand.tmp 1)]), none⟩,
  ⟨(some 17), (Op.call { callee := (Callee.value (Operand.func 49)), args := #[(Operand.tmp 15), (Operand.tmp 16)], argTypes := #[22, 70] }), none⟩,
  ⟨(some 18), (Op.unOp UnOp.not 4 (Operand.tmp 17)), none⟩,
  ⟨(some 2), (Op.assign (Operand.tmp 18)), none⟩]
def c15 : PC := (.seq (.reg r15_0) (.seq (.seq (.reg r15_1) (.cond (Operand.tmp 13) (.seq (.reg r15_2) .ret) .skip)) (.seq (.reg r15_3) .ret)))
def i15 : FnI := ⟨19, [(ResultVar.tmp 2)], c15, 0, [[0, 1]], [[0]], false⟩
-- loop.example/g00344/laws.eqAlgebra
def r16_0 : List PO := [⟨(some 2), (Op.box 27 (Operand.tmp 0)), none⟩,
  ⟨(some 3), (Op.box 27 (Operand.tmp 1)), none⟩,
  ⟨(some 4), (Op.assign (Operand.const (Value.bool false))), none⟩]
def r16_1 : List PO := [⟨(some 5), (Op.fieldAddr 27 (Operand.tmp 2) 0), none⟩,
  ⟨(some 6), (Op.load 3 (Operand.tmp 5)), none⟩,
  ⟨(some 7), (Op.fieldAddr 27 (Operand.tmp 3) 0), none⟩,
  ⟨(some 8), (Op.load 3 (Operand.tmp 7)), none⟩,
  ⟨(some 9), (Op.binOp BinOp.neq 3 (Operand.tmp 6) (Operand.tmp 8) 3), none⟩]
def r16_2 : List PO := [⟨(some 4), (Op.assign (Operand.const (Value.bool false))), none⟩]
def r16_3 : List PO := [⟨(some 10), (Op.fieldAddr 27 (Operand.tmp 2) 1), none⟩,
  ⟨(some 11), (Op.load 22 (Operand.tmp 10)), none⟩,
  ⟨(some 12), (Op.fieldAddr 27 (Operand.tmp 3) 1), none⟩,
  ⟨(some 13), (Op.load 22 (Operand.tmp 12)), none⟩,
  ⟨(some 14), (Op.call { callee := (Callee.value (Operand.func 54)), args := #[(Operand.tmp 11), (Operand.tmp 13)], argTypes := #[22, 22] }), none⟩,
  ⟨(some 15), (Op.unOp UnOp.not 4 (Operand.tmp 14)), none⟩]
def r16_4 : List PO := [⟨(some 4), (Op.assign (Operand.const (Value.bool false))), none⟩]
def r16_5 : List PO := [⟨(some 4), (Op.assign (Operand.const (Value.bool true))), none⟩]
def c16 : PC := (.seq (.reg r16_0) (.seq (.seq (.reg r16_1) (.cond (Operand.tmp 9) (.seq (.reg r16_2) .ret) .skip)) (.seq (.seq (.reg r16_3) (.cond (Operand.tmp 15) (.seq (.reg r16_4) .ret) .skip)) (.seq (.reg r16_5) .ret))))
def i16 : FnI := ⟨16, [(ResultVar.tmp 4)], c16, 0, [[0, 1], [0, 1]], [[0]], false⟩
-- loop.example/g00344/laws.szArcS
def r25_0 : List PO := [⟨(some 4), (Op.assign (Operand.const (Value.int IntKind.i64 0))), none⟩]
def r25_1 : List PO := [⟨(some 5), (Op.move (Operand.tmp 1)), none⟩,
  ⟨(some 6), (Op.move (Operand.tmp 0)), none⟩,
  ⟨(some 7), (Op.call { callee := (Callee.builtin Builtin.len), args := #[(Operand.tmp 6)], argTypes := #[37] }), none⟩,
  ⟨(some 8), (Op.binOp BinOp.sub 3 (Operand.tmp 5) (Operand.tmp 7) 3), none⟩,
  ⟨(some 1), (Op.assign (Operand.tmp 8)), none⟩]
def r25_2 : List PO := [⟨(some 9), (Op.move (Operand.tmp 1)), none⟩,
  ⟨(some 10), (Op.binOp BinOp.lss 3 (Operand.tmp 9) (Operand.const (Value.int IntKind.i64 0)) 3), none⟩]
def r25_3 : List PO := [⟨(some 4), (Op.assign (Operand.const (Value.int IntKind.i64 (-1)))), none⟩]
def r25_4 : List PO := [⟨(some 11), (Op.move (Operand.tmp 1)), none⟩,
  ⟨(some 4), (Op.assign (Operand.tmp 11)), none⟩]
def c25 : PC := (.seq (.reg r25_0) (.seq (.reg r25_1) (.seq (.seq (.reg r25_2) (.cond (Operand.tmp 10) (.seq (.reg r25_3) .ret) .skip)) (.seq (.reg r25_4) .ret))))
def i25 : FnI := ⟨12, [(ResultVar.tmp 4)], c25, 0, [[3], [0]], [[0]], false⟩
-- loop.example/g00344/spec.WeightOf
def r26_0 : List PO := [⟨(some 3), (Op.box 27 (Operand.tmp 0)), none⟩,
  ⟨(some 6), (Op.assign (Operand.const (Value.int IntKind.i64 0))), none⟩,
  ⟨(some 7), (Op.assign (Operand.const (Value.bool false))), none⟩]
def r26_1 : List PO := [⟨(some 13), (Op.load 27 (Operand.tmp 3)), none⟩,
  ⟨(some 14), (Op.move (Operand.tmp 1)), none⟩,
  ⟨(some 15), (Op.call { callee := (Callee.value (Operand.func 59)), args := #[(Operand.tmp 13), (Operand.tmp 14)], argTypes := #[27, 42] }), none⟩,
  ⟨(some 16), (Op.unOp UnOp.not 4 (Operand.tmp 15)), none⟩,
  ⟨(some 17), (Op.move (Operand.tmp 16)), none⟩,
  ⟨(some 18), (Op.move (Operand.tmp 2)), (some (17, false))⟩,
  ⟨(some 19), (Op.call { callee := (Callee.builtin Builtin.len), args := #[(Operand.tmp 18)], argTypes := #[38] }), (some (17, false))⟩,
  ⟨(some 20), (Op.call { callee := (Callee.value (Operand.func 45)), args := #[(Operand.tmp 19), (Operand.const (Value.int IntKind.i64 1)), (Operand.const (Value.int IntKind.i64 6))], argTypes := #[3, 3, 3] }), (some (17, false))⟩,
  ⟨(some 21), (Op.unOp UnOp.not 4 (Operand.tmp 20)), (some (17, false))⟩,
  ⟨(some 22), (Op.pick (Operand.tmp 17) (Operand.const (Value.bool true)) (Operand.tmp 21)), none⟩]
def r26_2 : List PO := [⟨(some 6), (Op.assign (Operand.const (Value.int IntKind.i64 0))), none⟩,
  ⟨(some 7), (Op.assign (Operand.const (Value.bool false))), none⟩]
def r26_3 : List PO := [⟨(some 23), (Op.move (Operand.tmp 2)), none⟩,
  ⟨(some 24), (Op.call { callee := (Callee.builtin Builtin.len), args := #[(Operand.tmp 23)], argTypes := #[38] }), none⟩,
  ⟨(some 25), (Op.move (Operand.const (Value.int IntKind.i64 0))), none⟩]
def r26_4 : List PO := [⟨(some 26), (Op.binOp BinOp.lss 3 (Operand.tmp 25) (Operand.tmp 24) 3), none⟩]
def r26_5 : List PO := [⟨(some 27), (Op.move (Operand.tmp 25)), none⟩,
  ⟨(some 28), (Op.indexAddr 38 (Operand.tmp 23) (Operand.tmp 25)), none⟩,
  ⟨(some 29), (Op.load 3 (Operand.tmp 28)), none⟩,
  ⟨(some 8), (Op.assign (Operand.tmp 27)), none⟩,
  ⟨(some 9), (Op.assign (Operand.tmp 29)), none⟩]
def r26_6 : List PO := [⟨(some 30), (Op.move (Operand.tmp 9)), none⟩,
  ⟨(some 31), (Op.call { callee := (Callee.value (Operand.func 45)), args := #[(Operand.tmp 30), (Operand.const (Value.int IntKind.i64 0)), (Operand.const (Value.int IntKind.i64 5))], argTypes := #[3, 3, 3] }), none⟩,
  ⟨(some 32), (Op.unOp UnOp.not 4 (Operand.tmp 31)), none⟩,
  ⟨(some 33), (Op.move (Operand.tmp 32)), none⟩,
  ⟨(some 34), (Op.move (Operand.tmp 2)), (some (33, false))⟩,
  ⟨(some 35), (Op.move (Operand.tmp 8)), (some (33, false))⟩,
  ⟨(some 36), (Op.slice 38 (Operand.tmp 34) none (some (Operand.tmp 35)) none), (some (33, false))⟩,
  ⟨(some 37), (Op.move (Operand.tmp 9)), (some (33, false))⟩,
  ⟨(some 38), (Op.call { callee := (Callee.value (Operand.func 60)), args := #[(Operand.tmp 36), (Operand.tmp 37)], argTypes := #[38, 3] }), (some (33, false))⟩,
  ⟨(some 39), (Op.pick (Operand.tmp 33) (Operand.const (Value.bool true)) (Operand.tmp 38)), none⟩]
def r26_7 : List PO := [⟨(some 6), (Op.assign (Operand.const (Value.int IntKind.i64 0))), none⟩,
  ⟨(some 7), (Op.assign (Operand.const (Value.bool false))), none⟩]
def r26_8 : List PO := [⟨(some 40), (Op.binOp BinOp.add 3 (Operand.tmp 25) (Operand.const (Value.int IntKind.i64 1)) 3), none⟩,
  ⟨(some 25), (Op.move (Operand.tmp 40)), none⟩]
def l26_0 : PC := (.seq (.reg r26_4) (.seq (.cond (Operand.tmp 26) .skip (.exit 0)) (.seq (.block 1 (.seq (.reg r26_5) (.seq (.reg r26_6) (.cond (Operand.tmp 39) (.seq (.reg r26_7) .ret) .skip)))) (.reg r26_8))))
def r26_9 : List PO := [⟨(some 10), (Op.assign (Operand.const (Value.int IntKind.i64 0))), none⟩]
def r26_10 : List PO := [⟨(some 41), (Op.move (Operand.tmp 2)), none⟩,
  ⟨(some 42), (Op.call { callee := (Callee.builtin Builtin.len), args := #[(Operand.tmp 41)], argTypes := #[38] }), none⟩,
  ⟨(some 43), (Op.binOp BinOp.sub 3 (Operand.tmp 42) (Operand.const (Value.int IntKind.i64 2)) 3), none⟩,
  ⟨(some 11), (Op.assign (Operand.tmp 43)), none⟩]
def r26_11 : List PO := [⟨(some 44), (Op.move (Operand.tmp 11)), none⟩,
  ⟨(some 45), (Op.binOp BinOp.geq 3 (Operand.tmp 44) (Operand.const (Value.int IntKind.i64 0)) 3), none⟩]
def r26_13 : List PO := [⟨(some 48), (Op.move (Operand.tmp 1)), none⟩,
  ⟨(some 49), (Op.move (Operand.tmp 2)), none⟩,
  ⟨(some 50), (Op.move (Operand.tmp 11)), none⟩,
  ⟨(some 51), (Op.indexAddr 38 (Operand.tmp 49) (Operand.tmp 50)), none⟩,
  ⟨(some 52), (Op.load 3 (Operand.tmp 51)), none⟩,
  ⟨(some 53), (Op.move (Operand.tmp 2)), none⟩,
  ⟨(some 54), (Op.move (Operand.tmp 11)), none⟩,
  ⟨(some 55), (Op.binOp BinOp.add 3 (Operand.tmp 54) (Operand.const (Value.int IntKind.i64 1)) 3), none⟩,
  ⟨(some 56), (Op.indexAddr 38 (Operand.tmp 53) (Operand.tmp 55)), none⟩,
  ⟨(some 57), (Op.load 3 (Operand.tmp 56)), none⟩,
  ⟨(some 58), (Op.call { callee := (Callee.value (Operand.func 61)), args := #[(Operand.tmp 48), (Operand.tmp 52), (Operand.tmp 57)], argTypes := #[42, 3, 3] }), none⟩,
  ⟨(some 12), (Op.assign (Operand.tmp 58)), none⟩]
def r26_14 : List PO := [⟨(some 59), (Op.move (Operand.tmp 12)), none⟩,
  ⟨(some 60), (Op.binOp BinOp.lss 3 (Operand.tmp 59) (Operand.const (Value.int IntKind.i64 0)) 3), none⟩]
def r26_15 : List PO := [⟨(some 6), (Op.assign (Operand.const (Value.int IntKind.i64 0))), none⟩,
  ⟨(some 7), (Op.assign (Operand.const (Value.bool false))), none⟩]
def r26_16 : List PO := [⟨(some 61), (Op.fieldAddr 27 (Operand.tmp 3) 1), none⟩,
  ⟨(some 62), (Op.load 22 (Operand.tmp 61)), none⟩,
  ⟨(some 63), (Op.move (Operand.tmp 12)), none⟩,
  ⟨(some 64), (Op.indexAddr 22 (Operand.tmp 62) (Operand.tmp 63)), none⟩,
  ⟨(some 65), (Op.load 38 (Operand.tmp 64)), none⟩,
  ⟨(some 66), (Op.move (Operand.tmp 10)), none⟩,
  ⟨(some 67), (Op.indexAddr 38 (Operand.tmp 65) (Operand.tmp 66)), none⟩,
  ⟨(some 68), (Op.load 3 (Operand.tmp 67)), none⟩,
  ⟨(some 10), (Op.assign (Operand.tmp 68)), none⟩]
def r26_12 : List PO := [⟨(some 46), (Op.move (Operand.tmp 11)), none⟩,
  ⟨(some 47), (Op.binOp BinOp.sub 3 (Operand.tmp 46) (Operand.const (Value.int IntKind.i64 1)) 3), none⟩,
  ⟨(some 11), (Op.assign (Operand.tmp 47)), none⟩]
def l26_1 : PC := (.seq (.seq (.reg r26_11) (.cond (Operand.tmp 45) .skip (.exit 2))) (.seq (.block 3 (.seq (.fz r26_13) (.seq (.seq (.reg r26_14) (.cond (Operand.tmp 60) (.seq (.reg r26_15) .ret) .skip)) (.reg r26_16)))) (.reg r26_12)))
def r26_17 : List PO := [⟨(some 69), (Op.move (Operand.tmp 10)), none⟩,
  ⟨(some 6), (Op.assign (Operand.tmp 69)), none⟩,
  ⟨(some 7), (Op.assign (Operand.const (Value.bool true))), none⟩]
def c26 : PC := (.seq (.reg r26_0) (.seq (.seq (.reg r26_1) (.cond (Operand.tmp 22) (.seq (.reg r26_2) .ret) .skip)) (.seq (.seq (.reg r26_3) (.block 0 (.loop l26_0))) (.seq (.reg r26_9) (.seq (.seq (.reg r26_10) (.block 2 (.loop l26_1))) (.seq (.reg r26_17) .ret))))))
def i26 : FnI := ⟨70, [(ResultVar.tmp 6), (ResultVar.tmp 7)], c26, 0, [[0, 1], [3], [1]], [[0], [0]], false⟩
-- loop.example/g00344/laws.toArcS
def r27_0 : List PO := [⟨(some 2), (Op.assign (Operand.const (Value.slice none 0 0))), none⟩]
def r27_1 : List PO := [⟨(some 5), (Op.move (Operand.tmp 0)), none⟩,
  ⟨(some 6), (Op.call { callee := (Callee.builtin Builtin.len), args := #[(Operand.tmp 5)], argTypes := #[37] }), none⟩,
  ⟨(some 7), (Op.makeSlice 42 (Operand.tmp 6) (Operand.tmp 6)), none⟩,
  ⟨(some 3), (Op.assign (Operand.tmp 7)), none⟩]
def r27_2 : List PO := [⟨(some 4), (Op.assign (Operand.const (Value.int IntKind.i64 0))), none⟩]
def r27_3 : List PO := [⟨(some 8), (Op.move (Operand.tmp 4)), none⟩,
  ⟨(some 9), (Op.move (Operand.tmp 0)), none⟩,
  ⟨(some 10), (Op.call { callee := (Callee.builtin Builtin.len), args := #[(Operand.tmp 9)], argTypes := #[37] }), none⟩,
  ⟨(some 11), (Op.binOp BinOp.lss 3 (Operand.tmp 8) (Operand.tmp 10) 3), none⟩]
def r27_5 : List PO := [⟨(some 14), (Op.move (Operand.tmp 3)), none⟩,
  ⟨(some 15), (Op.move (Operand.tmp 4)), none⟩,
  ⟨(some 16), (Op.move (Operand.tmp 0)), none⟩,
  ⟨(some 17), (Op.move (Operand.tmp 4)), none⟩,
  ⟨(some 18), (Op.indexAddr 37 (Operand.tmp 16) (Operand.tmp 17)), none⟩,
  ⟨(some 19), (Op.load 77 (Operand.tmp 18)), none⟩,
  ⟨(some 20), (Op.call { callee := (Callee.value (Operand.func 62)), args := #[(Operand.tmp 19)], argTypes := #[77] }), none⟩,
  ⟨(some 21), (Op.indexAddr 42 (Operand.tmp 14) (Operand.tmp 15)), none⟩,
  ⟨none, (Op.store 75 (Operand.tmp 21) (Operand.tmp 20)), none⟩]
def r27_4 : List PO := [⟨(some 12), (Op.move (Operand.tmp 4)), none⟩,
  ⟨(some 13), (Op.binOp BinOp.add 3 (Operand.tmp 12) (Operand.const (Value.int IntKind.i64 1)) 3), none⟩,
  ⟨(some 4), (Op.assign (Operand.tmp 13)), none⟩]
def l27_0 : PC := (.seq (.seq (.reg r27_3) (.cond (Operand.tmp 11) .skip (.exit 0))) (.seq (.block 1 (.reg r27_5)) (.reg r27_4)))
def r27_6 : List PO := [⟨(some 22), (Op.move (Operand.tmp 3)), none⟩,
  ⟨(some 2), (Op.assign (Operand.tmp 22)), none⟩]
def c27 : PC := (.seq (.reg r27_0) (.seq (.reg r27_1) (.seq (.seq (.reg r27_2) (.block 0 (.loop l27_0))) (.seq (.reg r27_6) .ret))))
def i27 : FnI := ⟨23, [(ResultVar.tmp 2)], c27, 0, [[3]], [[3]], false⟩
-- loop.example/g00344/laws.toIntS
def r28_0 : List PO := [⟨(some 2), (Op.assign (Operand.const (Value.slice none 0 0))), none⟩]
def r28_1 : List PO := [⟨(some 5), (Op.move (Operand.tmp 0)), none⟩,
  ⟨(some 6), (Op.call { callee := (Callee.builtin Builtin.len), args := #[(Operand.tmp 5)], argTypes := #[38] }), none⟩,
  ⟨(some 7), (Op.makeSlice 38 (Operand.tmp 6) (Operand.tmp 6)), none⟩,
  ⟨(some 3), (Op.assign (Operand.tmp 7)), none⟩]
def r28_2 : List PO := [⟨(some 4), (Op.assign (Operand.const (Value.int IntKind.i64 0))), none⟩]
def r28_3 : List PO := [⟨(some 8), (Op.move (Operand.tmp 4)), none⟩,
  ⟨(some 9), (Op.move (Operand.tmp 0)), none⟩,
  ⟨(some 10), (Op.call { callee := (Callee.builtin Builtin.len), args := #[(Operand.tmp 9)], argTypes := #[38] }), none⟩,
  ⟨(some 11), (Op.binOp BinOp.lss 3 (Operand.tmp 8) (Operand.tmp 10) 3), none⟩]
def r28_5 : List PO := [⟨(some 14), (Op.move (Operand.tmp 3)), none⟩,
  ⟨(some 15), (Op.move (Operand.tmp 4)), none⟩,
  ⟨(some 16), (Op.move (Operand.tmp 0)), none⟩,
  ⟨(some 17), (Op.move (Operand.tmp 4)), none⟩,
  ⟨(some 18), (Op.indexAddr 38 (Operand.tmp 16) (Operand.tmp 17)), none⟩,
  ⟨(some 19), (Op.load 3 (Operand.tmp 18)), none⟩,
  ⟨(some 20), (Op.indexAddr 38 (Operand.tmp 14) (Operand.tmp 15)), none⟩,
  ⟨none, (Op.store 3 (Operand.tmp 20) (Operand.tmp 19)), none⟩]
def r28_4 : List PO := [⟨(some 12), (Op.move (Operand.tmp 4)), none⟩,
  ⟨(some 13), (Op.binOp BinOp.add 3 (Operand.tmp 12) (Operand.const (Value.int IntKind.i64 1)) 3), none⟩,
  ⟨(some 4), (Op.assign (Operand.tmp 13)), none⟩]
def l28_0 : PC := (.seq (.seq (.reg r28_3) (.cond (Operand.tmp 11) .skip (.exit 0))) (.seq (.block 1 (.reg r28_5)) (.reg r28_4)))
def r28_6 : List PO := [⟨(some 21), (Op.move (Operand.tmp 3)), none⟩,
  ⟨(some 2), (Op.assign (Operand.tmp 21)), none⟩]
def c28 : PC := (.seq (.reg r28_0) (.seq (.reg r28_1) (.seq (.seq (.reg r28_2) (.block 0 (.loop l28_0))) (.seq (.reg r28_6) .ret))))
def i28 : FnI := ⟨22, [(ResultVar.tmp 2)], c28, 0, [[1]], [[1]], false⟩
-- loop.example/g00344/impl.WeightOf
def r29_0 : List PO := [⟨(some 3), (Op.box 27 (Operand.tmp 0)), none⟩,
  ⟨(some 6), (Op.assign (Operand.const (Value.int IntKind.i64 0))), none⟩,
  ⟨(some 7), (Op.assign (Operand.const (Value.bool false))), none⟩]
def r29_1 : List PO := [⟨(some 14), (Op.load 27 (Operand.tmp 3)), none⟩,
  ⟨(some 15), (Op.move (Operand.tmp 1)), none⟩,
  ⟨(some 16), (Op.call { callee := (Callee.value (Operand.func 63)), args := #[(Operand.tmp 14), (Operand.tmp 15)], argTypes := #[27, 42] }), none⟩,
  ⟨(some 17), (Op.unOp UnOp.not 4 (Operand.tmp 16)), none⟩,
  ⟨(some 18), (Op.move (Operand.tmp 17)), none⟩,
  ⟨(some 19), (Op.move (Operand.tmp 2)), (some (18, false))⟩,
  ⟨(some 20), (Op.call { callee := (Callee.builtin Builtin.len), args := #[(Operand.tmp 19)], argTypes := #[38] }), (some (18, false))⟩,
  ⟨(some 21), (Op.call { callee := (Callee.value (Operand.func 48)), args := #[(Operand.tmp 20), (Operand.const (Value.int IntKind.i64 1)), (Operand.const (Value.int IntKind.i64 6))], argTypes := #[3, 3, 3] }), (some (18, false))⟩,
  ⟨(some 22), (Op.unOp UnOp.not 4 (Operand.tmp 21)), (some (18, false))⟩,
  ⟨(some 23), (Op.pick (Operand.tmp 18) (Operand.const (Value.bool true)) (Operand.tmp 22)), none⟩]
def r29_2 : List PO := [⟨(some 6), (Op.assign (Operand.const (Value.int IntKind.i64 0))), none⟩,
  ⟨(some 7), (Op.assign (Operand.const (Value.bool false))), none⟩]
def r29_3 : List PO := [⟨(some 24), (Op.move (Operand.tmp 2)), none⟩,
  ⟨(some 25), (Op.call { callee := (Callee.builtin Builtin.len), args := #[(Operand.tmp 24)], argTypes := #[38] }), none⟩,
  ⟨(some 26), (Op.move (Operand.const (Value.int IntKind.i64 0))), none⟩]
def r29_4 : List PO := [⟨(some 27), (Op.binOp BinOp.lss 3 (Operand.tmp 26) (Operand.tmp 25) 3), none⟩]
def r29_5 : List PO := [⟨(some 28), (Op.move (Operand.tmp 26)), none⟩,
  ⟨(some 29), (Op.indexAddr 38 (Operand.tmp 24) (Operand.tmp 26)), none⟩,
  ⟨(some 30), (Op.load 3 (Operand.tmp 29)), none⟩,
  ⟨(some 8), (Op.assign (Operand.tmp 28)), none⟩,
  ⟨(some 9), (Op.assign (Operand.tmp 30)), none⟩]
def r29_6 : List PO := [⟨(some 31), (Op.move (Operand.tmp 9)), none⟩,
  ⟨(some 32), (Op.call { callee := (Callee.value (Operand.func 64)), args := #[(Operand.tmp 31)], argTypes := #[3] }), none⟩,
  ⟨(some 33), (Op.unOp UnOp.not 4 (Operand.tmp 32)), none⟩,
  ⟨(some 34), (Op.move (Operand.tmp 33)), none⟩,
  ⟨(some 35), (Op.move (Operand.tmp 2)), (some (34, false))⟩,
  ⟨(some 36), (Op.move (Operand.tmp 8)), (some (34, false))⟩,
  ⟨(some 37), (Op.slice 38 (Operand.tmp 35) none (some (Operand.tmp 36)) none), (some (34, false))⟩,
  ⟨(some 38), (Op.move (Operand.tmp 9)), (some (34, false))⟩,
  ⟨(some 39), (Op.call { callee := (Callee.value (Operand.func 65)), args := #[(Operand.tmp 37), (Operand.tmp 38)], argTypes := #[38, 3] }), (some (34, false))⟩,
  ⟨(some 40), (Op.pick (Operand.tmp 34) (Operand.const (Value.bool true)) (Operand.tmp 39)), none⟩]
def r29_7 : List PO := [⟨(some 6), (Op.assign (Operand.const (Value.int IntKind.i64 0))), none⟩,
  ⟨(some 7), (Op.assign (Operand.const (Value.bool false))), none⟩]
def r29_8 : List PO := [⟨(some 41), (Op.binOp BinOp.add 3 (Operand.tmp 26) (Operand.const (Value.int IntKind.i64 1)) 3), none⟩,
  ⟨(some 26), (Op.move (Operand.tmp 41)), none⟩]
def l29_0 : PC := (.seq (.reg r29_4) (.seq (.cond (Operand.tmp 27) .skip (.exit 0)) (.seq (.block 1 (.seq (.reg r29_5) (.seq (.reg r29_6) (.cond (Operand.tmp 40) (.seq (.reg r29_7) .ret) .skip)))) (.reg r29_8))))
def r29_9 : List PO := [⟨(some 10), (Op.assign (Operand.const (Value.int IntKind.i64 0))), none⟩]
def r29_10 : List PO := [⟨(some 42), (Op.move (Operand.tmp 2)), none⟩,
  ⟨(some 43), (Op.call { callee := (Callee.builtin Builtin.len), args := #[(Operand.tmp 42)], argTypes := #[38] }), none⟩,
  ⟨(some 44), (Op.binOp BinOp.sub 3 (Operand.tmp 43) (Operand.const (Value.int IntKind.i64 2)) 3), none⟩,
  ⟨(some 11), (Op.assign (Operand.tmp 44)), none⟩]
def r29_11 : List PO := [⟨(some 45), (Op.move (Operand.tmp 11)), none⟩,
  ⟨(some 46), (Op.binOp BinOp.geq 3 (Operand.tmp 45) (Operand.const (Value.int IntKind.i64 0)) 3), none⟩]
def r29_13 : List PO := [⟨(some 50), (Op.move (Operand.tmp 1)), none⟩,
  ⟨(some 51), (Op.move (Operand.tmp 2)), none⟩,
  ⟨(some 52), (Op.move (Operand.tmp 11)), none⟩,
  ⟨(some 53), (Op.indexAddr 38 (Operand.tmp 51) (Operand.tmp 52)), none⟩,
  ⟨(some 54), (Op.load 3 (Operand.tmp 53)), none⟩,
  ⟨(some 55), (Op.move (Operand.tmp 2)), none⟩,
  ⟨(some 56), (Op.move (Operand.tmp 11)), none⟩,
  ⟨(some 57), (Op.binOp BinOp.add 3 (Operand.tmp 56) (Operand.const (Value.int IntKind.i64 1)) 3), none⟩,
  ⟨(some 58), (Op.indexAddr 38 (Operand.tmp 55) (Operand.tmp 57)), none⟩,
  ⟨(some 59), (Op.load 3 (Operand.tmp 58)), none⟩,
  ⟨(some 60), (Op.call { callee := (Callee.value (Operand.func 66)), args := #[(Operand.tmp 50), (Operand.tmp 54), (Operand.tmp 59)], argTypes := #[42, 3, 3] }), none⟩,
  ⟨(some 49), (Op.move (Operand.tmp 60)), none⟩,
  ⟨(some 61), (Op.extract (Operand.tmp 49) 0), none⟩,
  ⟨(some 62), (Op.extract (Operand.tmp 49) 1), none⟩,
  ⟨(some 12), (Op.assign (Operand.tmp 61)), none⟩,
  ⟨(some 13), (Op.assign (Operand.tmp 62)), none⟩]
def r29_14 : List PO := [⟨(some 63), (Op.move (Operand.tmp 13)), none⟩,
  ⟨(some 64), (Op.unOp UnOp.not 4 (Operand.tmp 63)), none⟩]
def r29_15 : List PO := [⟨(some 6), (Op.assign (Operand.const (Value.int IntKind.i64 0))), none⟩,
  ⟨(some 7), (Op.assign (Operand.const (Value.bool false))), none⟩]
def r29_16 : List PO := [⟨(some 65), (Op.fieldAddr 27 (Operand.tmp 3) 1), none⟩,
  ⟨(some 66), (Op.load 22 (Operand.tmp 65)), none⟩,
  ⟨(some 67), (Op.move (Operand.tmp 12)), none⟩,
  ⟨(some 68), (Op.indexAddr 22 (Operand.tmp 66) (Operand.tmp 67)), none⟩,
  ⟨(some 69), (Op.load 38 (Operand.tmp 68)), none⟩,
  ⟨(some 70), (Op.move (Operand.tmp 10)), none⟩,
  ⟨(some 71), (Op.indexAddr 38 (Operand.tmp 69) (Operand.tmp 70)), none⟩,
  ⟨(some 72), (Op.load 3 (Operand.tmp 71)), none⟩,
  ⟨(some 10), (Op.assign (Operand.tmp 72)), none⟩]
def r29_12 : List PO := [⟨(some 47), (Op.move (Operand.tmp 11)), none⟩,
  ⟨(some 48), (Op.binOp BinOp.sub 3 (Operand.tmp 47) (Operand.const (Value.int IntKind.i64 1)) 3), none⟩,
  ⟨(some 11), (Op.assign (Operand.tmp 48)), none⟩]
def l29_1 : PC := (.seq (.seq (.reg r29_11) (.cond (Operand.tmp 46) .skip (.exit 2))) (.seq (.block 3 (.seq (.fz r29_13) (.seq (.seq (.reg r29_14) (.cond (Operand.tmp 64) (.seq (.reg r29_15) .ret) .skip)) (.reg r29_16)))) (.reg r29_12)))
def r29_17 : List PO := [⟨(some 73), (Op.move (Operand.tmp 10)), none⟩,
  ⟨(some 6), (Op.assign (Operand.tmp 73)), none⟩,
  ⟨(some 7), (Op.assign (Operand.const (Value.bool true))), none⟩]
def c29 : PC := (.seq (.reg r29_0) (.seq (.seq (.reg r29_1) (.cond (Operand.tmp 23) (.seq (.reg r29_2) .ret) .skip)) (.seq (.seq (.reg r29_3) (.block 0 (.loop l29_0))) (.seq (.reg r29_9) (.seq (.seq (.reg r29_10) (.block 2 (.loop l29_1))) (.seq (.reg r29_17) .ret))))))
def i29 : FnI := ⟨74, [(ResultVar.tmp 6), (ResultVar.tmp 7)], c29, 0, [[0, 1], [3], [1]], [[0], [0]], false⟩
-- loop.example/g00344/laws.eqArcS
def r30_0 : List PO := [⟨(some 4), (Op.assign (Operand.const (Value.bool false))), none⟩]
def r30_1 : List PO := [⟨(some 6), (Op.move (Operand.tmp 0)), none⟩,
  ⟨(some 7), (Op.call { callee := (Callee.builtin Builtin.len), args := #[(Operand.tmp 6)], argTypes := #[42] }), none⟩,
  ⟨(some 8), (Op.move (Operand.tmp 1)), none⟩,
  ⟨(some 9), (Op.call { callee := (Callee.builtin Builtin.len), args := #[(Operand.tmp 8)], argTypes := #[42] }), none⟩,
  ⟨(some 10), (Op.binOp BinOp.neq 3 (Operand.tmp 7) (Operand.tmp 9) 3), none⟩]
def r30_2 : List PO := [⟨(some 4), (Op.assign (Operand.const (Value.bool false))), none⟩]
def r30_3 : List PO := [⟨(some 5), (Op.assign (Operand.const (Value.int IntKind.i64 0))), none⟩]
def r30_4 : List PO := [⟨(some 11), (Op.move (Operand.tmp 5)), none⟩,
  ⟨(some 12), (Op.move (Operand.tmp 0)), none⟩,
  ⟨(some 13), (Op.call { callee := (Callee.builtin Builtin.len), args := #[(Operand.tmp 12)], argTypes := #[42] }), none⟩,
  ⟨(some 14), (Op.binOp BinOp.lss 3 (Operand.tmp 11) (Operand.tmp 13) 3), none⟩]
def r30_6 : List PO := [⟨(some 17), (Op.move (Operand.tmp 0)), none⟩,
  ⟨(some 18), (Op.move (Operand.tmp 5)), none⟩,
  ⟨(some 19), (Op.indexAddr 42 (Operand.tmp 17) (Operand.tmp 18)), none⟩,
  ⟨(some 20), (Op.load 75 (Operand.tmp 19)), none⟩,
  ⟨(some 21), (Op.move (Operand.tmp 1)), none⟩,
  ⟨(some 22), (Op.move (Operand.tmp 5)), none⟩,
  ⟨(some 23), (Op.indexAddr 42 (Operand.tmp 21) (Operand.tmp 22)), none⟩,
  ⟨(some 24), (Op.load 75 (Operand.tmp 23)), none⟩,
  ⟨(some 25), (Op.call { callee := (Callee.value (Operand.func 67)), args := #[(Operand.tmp 20), (Operand.tmp 24)], argTypes := #[75, 75] }), none⟩,
  ⟨(some 26), (Op.unOp UnOp.not 4 (Operand.tmp 25)), none⟩]
def r30_7 : List PO := [⟨(some 4), (Op.assign (Operand.const (Value.bool false))), none⟩]
def r30_5 : List PO := [⟨(some 15), (Op.move (Operand.tmp 5)), none⟩,
  ⟨(some 16), (Op.binOp BinOp.add 3 (Operand.tmp 15) (Operand.const (Value.int IntKind.i64 1)) 3), none⟩,
  ⟨(some 5), (Op.assign (Operand.tmp 16)), none⟩]
def l30_0 : PC := (.seq (.seq (.reg r30_4) (.cond (Operand.tmp 14) .skip (.exit 0))) (.seq (.block 1 (.seq (.fz r30_6) (.cond (Operand.tmp 26) (.seq (.reg r30_7) .ret) .skip))) (.reg r30_5)))
def r30_8 : List PO := [⟨(some 4), (Op.assign (Operand.const (Value.bool true))), none⟩]
def c30 : PC := (.seq (.reg r30_0) (.seq (.seq (.reg r30_1) (.cond (Operand.tmp 10) (.seq (.reg r30_2) .ret) .skip)) (.seq (.seq (.reg r30_3) (.block 0 (.loop l30_0))) (.seq (.reg r30_8) .ret))))
def i30 : FnI := ⟨27, [(ResultVar.tmp 4)], c30, 0, [[3], [3]], [[0]], false⟩
-- loop.example/g00344/laws.eqIntS
def r31_0 : List PO := [⟨(some 4), (Op.assign (Operand.const (Value.bool false))), none⟩]
def r31_1 : List PO := [⟨(some 6), (Op.move (Operand.tmp 0)), none⟩,
  ⟨(some 7), (Op.call { callee := (Callee.builtin Builtin.len), args := #[(Operand.tmp 6)], argTypes := #[38] }), none⟩,
  ⟨(some 8), (Op.move (Operand.tmp 1)), none⟩,
  ⟨(some 9), (Op.call { callee := (Callee.builtin Builtin.len), args := #[(Operand.tmp 8)], argTypes := #[38] }), none⟩,
  ⟨(some 10), (Op.binOp BinOp.neq 3 (Operand.tmp 7) (Operand.tmp 9) 3), none⟩]
def r31_2 : List PO := [⟨(some 4), (Op.assign (Operand.const (Value.bool false))), none⟩]
def r31_3 : List PO := [⟨(some 5), (Op.assign (Operand.const (Value.int IntKind.i64 0))), none⟩]
def r31_4 : List PO := [⟨(some 11), (Op.move (Operand.tmp 5)), none⟩,
  ⟨(some 12), (Op.move (Operand.tmp 0)), none⟩,
  ⟨(some 13), (Op.call { callee := (Callee.builtin Builtin.len), args := #[(Operand.tmp 12)], argTypes := #[38] }), none⟩,
  ⟨(some 14), (Op.binOp BinOp.lss 3 (Operand.tmp 11) (Operand.tmp 13) 3), none⟩]
def r31_6 : List PO := [⟨(some 17), (Op.move (Operand.tmp 0)), none⟩,
  ⟨(some 18), (Op.move (Operand.tmp 5)), none⟩,
  ⟨(some 19), (Op.indexAddr 38 (Operand.tmp 17) (Operand.tmp 18)), none⟩,
  ⟨(some 20), (Op.load 3 (Operand.tmp 19)), none⟩,
  ⟨(some 21), (Op.move (Operand.tmp 1)), none⟩,
  ⟨(some 22), (Op.move (Operand.tmp 5)), none⟩,
  ⟨(some 23), (Op.indexAddr 38 (Operand.tmp 21) (Operand.tmp 22)), none⟩,
  ⟨(some 24), (Op.load 3 (Operand.tmp 23)), none⟩,
  ⟨(some 25), (Op.binOp BinOp.neq 3 (Operand.tmp 20) (Operand.tmp 24) 3), none⟩]
def r31_7 : List PO := [⟨(some 4), (Op.assign (Operand.const (Value.bool false))), none⟩]
def r31_5 : List PO := [⟨(some 15), (Op.move (Operand.tmp 5)), none⟩,
  ⟨(some 16), (Op.binOp BinOp.add 3 (Operand.tmp 15) (Operand.const (Value.int IntKind.i64 1)) 3), none⟩,
  ⟨(some 5), (Op.assign (Operand.tmp 16)), none⟩]
def l31_0 : PC := (.seq (.seq (.reg r31_4) (.cond (Operand.tmp 14) .skip (.exit 0))) (.seq (.block 1 (.seq (.fz r31_6) (.cond (Operand.tmp 25) (.seq (.reg r31_7) .ret) .skip))) (.reg r31_5)))
def r31_8 : List PO := [⟨(some 4), (Op.assign (Operand.const (Value.bool true))), none⟩]
def c31 : PC := (.seq (.reg r31_0) (.seq (.seq (.reg r31_1) (.cond (Operand.tmp 10) (.seq (.reg r31_2) .ret) .skip)) (.seq (.seq (.reg r31_3) (.block 0 (.loop l31_0))) (.seq (.reg r31_8) .ret))))
def i31 : FnI := ⟨26, [(ResultVar.tmp 4)], c31, 0, [[1], [1]], [[0]], false⟩
-- loop.example/g00344/laws.szIntSS
def r44_0 : List PO := [⟨(some 4), (Op.assign (Operand.const (Value.int IntKind.i64 0))), none⟩]
def r44_1 : List PO := [⟨(some 6), (Op.move (Operand.tmp 1)), none⟩,
  ⟨(some 7), (Op.move (Operand.tmp 0)), none⟩,
  ⟨(some 8), (Op.call { callee := (Callee.builtin Builtin.len), args := #[(Operand.tmp 7)], argTypes := #[22] }), none⟩,
  ⟨(some 9), (Op.binOp BinOp.sub 3 (Operand.tmp 6) (Operand.tmp 8) 3), none⟩,
  ⟨(some 1), (Op.assign (Operand.tmp 9)), none⟩]
def r44_2 : List PO := [⟨(some 10), (Op.move (Operand.tmp 1)), none⟩,
  ⟨(some 11), (Op.binOp BinOp.lss 3 (Operand.tmp 10) (Operand.const (Value.int IntKind.i64 0)) 3), none⟩]
def r44_3 : List PO := [⟨(some 4), (Op.assign (Operand.const (Value.int IntKind.i64 (-1)))), none⟩]
def r44_4 : List PO := [⟨(some 5), (Op.assign (Operand.const (Value.int IntKind.i64 0))), none⟩]
def r44_5 : List PO := [⟨(some 12), (Op.move (Operand.tmp 5)), none⟩,
  ⟨(some 13), (Op.move (Operand.tmp 0)), none⟩,
  ⟨(some 14), (Op.call { callee := (Callee.builtin Builtin.len), args := #[(Operand.tmp 13)], argTypes := #[22] }), none⟩,
  ⟨(some 15), (Op.binOp BinOp.lss 3 (Operand.tmp 12) (Operand.tmp 14) 3), none⟩]
def r44_7 : List PO := [⟨(some 18), (Op.move (Operand.tmp 0)), none⟩,
  ⟨(some 19), (Op.move (Operand.tmp 5)), none⟩,
  ⟨(some 20), (Op.indexAddr 22 (Operand.tmp 18) (Operand.tmp 19)), none⟩,
  ⟨(some 21), (Op.load 38 (Operand.tmp 20)), none⟩,
  ⟨(some 22), (Op.move (Operand.tmp 1)), none⟩,
  ⟨(some 23), (Op.call { callee := (Callee.value (Operand.func 76)), args := #[(Operand.tmp 21), (Operand.tmp 22)], argTypes := #[38, 3] }), none⟩,
  ⟨(some 1), (Op.assign (Operand.tmp 23)), none⟩]
def r44_8 : List PO := [⟨(some 24), (Op.move (Operand.tmp 1)), none⟩,
  ⟨(some 25), (Op.binOp BinOp.lss 3 (Operand.tmp 24) (Operand.const (Value.int IntKind.i64 0)) 3), none⟩]
def r44_9 : List PO := [⟨(some 4), (Op.assign (Operand.const (Value.int IntKind.i64 (-1)))), none⟩]
def r44_6 : List PO := [⟨(some 16), (Op.move (Operand.tmp 5)), none⟩,
  ⟨(some 17), (Op.binOp BinOp.add 3 (Operand.tmp 16) (Operand.const (Value.int IntKind.i64 1)) 3), none⟩,
  ⟨(some 5), (Op.assign (Operand.tmp 17)), none⟩]
def l44_0 : PC := (.seq (.seq (.reg r44_5) (.cond (Operand.tmp 15) .skip (.exit 0))) (.seq (.block 1 (.seq (.reg r44_7) (.seq (.reg r44_8) (.cond (Operand.tmp 25) (.seq (.reg r44_9) .ret) .skip)))) (.reg r44_6)))
def r44_10 : List PO := [⟨(some 26), (Op.move (Operand.tmp 1)), none⟩,
  ⟨(some 4), (Op.assign (Operand.tmp 26)), none⟩]
def c44 : PC := (.seq (.reg r44_0) (.seq (.reg r44_1) (.seq (.seq (.reg r44_2) (.cond (Operand.tmp 11) (.seq (.reg r44_3) .ret) .skip)) (.seq (.seq (.reg r44_4) (.block 0 (.loop l44_0))) (.seq (.reg r44_10) .ret)))))
def i44 : FnI := ⟨27, [(ResultVar.tmp 4)], c44, 0, [[1], [0]], [[0]], false⟩
-- loop.example/g00344/spec.l1In
def r45_0 : List PO := [⟨(some 6), (Op.assign (Operand.const (Value.bool false))), none⟩]
def r45_1 : List PO := [⟨(some 7), (Op.move (Operand.tmp 0)), none⟩,
  ⟨(some 8), (Op.move (Operand.tmp 1)), none⟩,
  ⟨(some 9), (Op.binOp BinOp.geq 3 (Operand.tmp 7) (Operand.tmp 8) 3), none⟩,
  ⟨(some 10), (Op.move (Operand.tmp 9)), none⟩,
  ⟨(some 11), (Op.move (Operand.tmp 0)), (some (10, true))⟩,
  ⟨(some 12), (Op.move (Operand.tmp 2)), (some (10, true))⟩,
  ⟨(some 13), (Op.binOp BinOp.leq 3 (Operand.tmp 11) (Operand.tmp 12) 3), (some (10, true))⟩,
  ⟨(some 14), (Op.pick (Operand.tmp 10) (Operand.tmp 13) (Operand.const (Value.bool false))), none⟩,
  ⟨(some 6), (Op.assign (Operand.tmp 14)), none⟩]
def c45 : PC := (.seq (.reg r45_0) (.seq (.reg r45_1) .ret))
def i45 : FnI := ⟨15, [(ResultVar.tmp 6)], c45, 0, [[0], [0], [0]], [[0]], false⟩
-- loop.example/g00344/spec.l9Apply
def r46_0 : List PO := [⟨(some 4), (Op.assign (Operand.const (Value.bool false))), none⟩]
def r46_1 : List PO := [⟨(some 7), (Op.move (Operand.tmp 0)), none⟩,
  ⟨(some 8), (Op.call { callee := (Callee.builtin Builtin.len), args := #[(Operand.tmp 7)], argTypes := #[38] }), none⟩,
  ⟨(some 9), (Op.move (Operand.const (Value.int IntKind.i64 0))), none⟩]
def r46_2 : List PO := [⟨(some 10), (Op.binOp BinOp.lss 3 (Operand.tmp 9) (Operand.tmp 8) 3), none⟩]
def r46_3 : List PO := [⟨(some 11), (Op.indexAddr 38 (Operand.tmp 7) (Operand.tmp 9)), none⟩,
  ⟨(some 12), (Op.load 3 (Operand.tmp 11)), none⟩,
  ⟨(some 6), (Op.assign (Operand.tmp 12)), none⟩]
def r46_4 : List PO := [⟨(some 13), (Op.move (Operand.tmp 6)), none⟩,
  ⟨(some 14), (Op.binOp BinOp.lss 3 (Operand.tmp 13) (Operand.const (Value.int IntKind.i64 0)) 3), none⟩,
  ⟨(some 15), (Op.move (Operand.tmp 14)), none⟩,
  ⟨(some 16), (Op.move (Operand.tmp 6)), (some (15, false))⟩,
  ⟨(some 17), (Op.move (Operand.tmp 1)), (some (15, false))⟩,
  ⟨(some 18), (Op.binOp BinOp.geq 3 (Operand.tmp 16) (Operand.tmp 17) 3), (some (15, false))⟩,
  ⟨(some 19), (Op.pick (Operand.tmp 15) (Operand.const (Value.bool true)) (Operand.tmp 18)), none⟩]
def r46_5 : List PO := [⟨(some 4), (Op.assign (Operand.const (Value.bool false))), none⟩]
def r46_6 : List PO := [⟨(some 20), (Op.binOp BinOp.add 3 (Operand.tmp 9) (Operand.const (Value.int IntKind.i64 1)) 3), none⟩,
  ⟨(some 9), (Op.move (Operand.tmp 20)), none⟩]
def l46_0 : PC := (.seq (.reg r46_2) (.seq (.cond (Operand.tmp 10) .skip (.exit 0)) (.seq (.block 1 (.seq (.reg r46_3) (.seq (.reg r46_4) (.cond (Operand.tmp 19) (.seq (.reg r46_5) .ret) .skip)))) (.reg r46_6))))
def r46_7 : List PO := [⟨(some 21), (Op.move (Operand.tmp 0)), none⟩,
  ⟨(some 22), (Op.call { callee := (Callee.builtin Builtin.len), args := #[(Operand.tmp 21)], argTypes := #[38] }), none⟩,
  ⟨(some 23), (Op.move (Operand.tmp 1)), none⟩,
  ⟨(some 24), (Op.binOp BinOp.eql 3 (Operand.tmp 22) (Operand.tmp 23) 3), none⟩,
  ⟨(some 25), (Op.move (Operand.tmp 24)), none⟩,
  ⟨(some 26), (Op.move (Operand.tmp 0)), (some (25, true))⟩,
  ⟨(some 27), (Op.move (Operand.tmp 1)), (some (25, true))⟩,
  ⟨(some 28), (Op.binOp BinOp.sub 3 (Operand.tmp 27) (Operand.const (Value.int IntKind.i64 1)) 3), (some (25, true))⟩,
  ⟨(some 29), (Op.indexAddr 38 (Operand.tmp 26) (Operand.tmp 28)), (some (25, true))⟩,
  ⟨(some 30), (Op.load 3 (Operand.tmp 29)), (some (25, true))⟩,
  ⟨(some 31), (Op.move (Operand.tmp 1)), (some (25, true))⟩,
  ⟨(some 32), (Op.binOp BinOp.sub 3 (Operand.tmp 31) (Operand.const (Value.int IntKind.i64 1)) 3), (some (25, true))⟩,
  ⟨(some 33), (Op.binOp BinOp.eql 3 (Operand.tmp 30) (Operand.tmp 32) 3), (some (25, true))⟩,
  ⟨(some 34), (Op.pick (Operand.tmp 25) (Operand.tmp 33) (Operand.const (Value.bool false))), none⟩,
  ⟨(some 4), (Op.assign (Operand.tmp 34)), none⟩]
def c46 : PC := (.seq (.reg r46_0) (.seq (.seq (.reg r46_1) (.block 0 (.loop l46_0))) (.seq (.reg r46_7) .ret)))
def i46 : FnI := ⟨35, [(ResultVar.tmp 4)], c46, 0, [[1], [0]], [[0]], false⟩
-- loop.example/g00344/laws.toIntSS
def r47_0 : List PO := [⟨(some 2), (Op.assign (Operand.const (Value.slice none 0 0))), none⟩]
def r47_1 : List PO := [⟨(some 5), (Op.move (Operand.tmp 0)), none⟩,
  ⟨(some 6), (Op.call { callee := (Callee.builtin Builtin.len), args := #[(Operand.tmp 5)], argTypes := #[22] }), none⟩,
  ⟨(some 7), (Op.makeSlice 22 (Operand.tmp 6) (Operand.tmp 6)), none⟩,
  ⟨(some 3), (Op.assign (Operand.tmp 7)), none⟩]
def r47_2 : List PO := [⟨(some 4), (Op.assign (Operand.const (Value.int IntKind.i64 0))), none⟩]
def r47_3 : List PO := [⟨(some 8), (Op.move (Operand.tmp 4)), none⟩,
  ⟨(some 9), (Op.move (Operand.tmp 0)), none⟩,
  ⟨(some 10), (Op.call { callee := (Callee.builtin Builtin.len), args := #[(Operand.tmp 9)], argTypes := #[22] }), none⟩,
  ⟨(some 11), (Op.binOp BinOp.lss 3 (Operand.tmp 8) (Operand.tmp 10) 3), none⟩]
def r47_5 : List PO := [⟨(some 14), (Op.move (Operand.tmp 3)), none⟩,
  ⟨(some 15), (Op.move (Operand.tmp 4)), none⟩,
  ⟨(some 16), (Op.move (Operand.tmp 0)), none⟩,
  ⟨(some 17), (Op.move (Operand.tmp 4)), none⟩,
  ⟨(some 18), (Op.indexAddr 22 (Operand.tmp 16) (Operand.tmp 17)), none⟩,
  ⟨(some 19), (Op.load 38 (Operand.tmp 18)), none⟩,
  ⟨(some 20), (Op.call { callee := (Callee.value (Operand.func 28)), args := #[(Operand.tmp 19)], argTypes := #[38] }), none⟩,
  ⟨(some 21), (Op.indexAddr 22 (Operand.tmp 14) (Operand.tmp 15)), none⟩,
  ⟨none, (Op.store 38 (Operand.tmp 21) (Operand.tmp 20)), none⟩]
def r47_4 : List PO := [⟨(some 12), (Op.move (Operand.tmp 4)), none⟩,
  ⟨(some 13), (Op.binOp BinOp.add 3 (Operand.tmp 12) (Operand.const (Value.int IntKind.i64 1)) 3), none⟩,
  ⟨(some 4), (Op.assign (Operand.tmp 13)), none⟩]
def l47_0 : PC := (.seq (.seq (.reg r47_3) (.cond (Operand.tmp 11) .skip (.exit 0))) (.seq (.block 1 (.reg r47_5)) (.reg r47_4)))
def r47_6 : List PO := [⟨(some 22), (Op.move (Operand.tmp 3)), none⟩,
  ⟨(some 2), (Op.assign (Operand.tmp 22)), none⟩]
def c47 : PC := (.seq (.reg r47_0) (.seq (.reg r47_1) (.seq (.seq (.reg r47_2) (.block 0 (.loop l47_0))) (.seq (.reg r47_6) .ret))))
def i47 : FnI := ⟨23, [(ResultVar.tmp 2)], c47, 0, [[1]], [[1]], false⟩
-- loop.example/g00344/impl.within
def r48_0 : List PO := [⟨(some 6), (Op.assign (Operand.const (Value.bool false))), none⟩]
def r48_1 : List PO := [⟨(some 7), (Op.move (Operand.tmp 0)), none⟩,
  ⟨(some 8), (Op.move (Operand.tmp 1)), none⟩,
  ⟨(some 9), (Op.binOp BinOp.geq 3 (Operand.tmp 7) (Operand.tmp 8) 3), none⟩,
  ⟨(some 10), (Op.move (Operand.tmp 9)), none⟩,
  ⟨(some 11), (Op.move (Operand.tmp 0)), (some (10, true))⟩,
  ⟨(some 12), (Op.move (Operand.tmp 2)), (some (10, true))⟩,
  ⟨(some 13), (Op.binOp BinOp.leq 3 (Operand.tmp 11) (Operand.tmp 12) 3), (some (10, true))⟩,
  ⟨(some 14), (Op.pick (Operand.tmp 10) (Operand.tmp 13) (Operand.const (Value.bool false))), none⟩,
  ⟨(some 6), (Op.assign (Operand.tmp 14)), none⟩]
def c48 : PC := (.seq (.reg r48_0) (.seq (.reg r48_1) .ret))
def i48 : FnI := ⟨15, [(ResultVar.tmp 6)], c48, 0, [[0], [0], [0]], [[0]], false⟩
-- slices.ContainsFunc[[][]int,[]int]
def r49_0 : List PO := [⟨(some 4), (Op.assign (Operand.const (Value.bool false))), none⟩]
def r49_1 : List PO := [⟨(some 5), (Op.move (Operand.tmp 0)), none⟩,
  ⟨(some 6), (Op.move (Operand.tmp 1)), none⟩,
  ⟨(some 7), (Op.call { callee := (Callee.value (Operand.func 77)), args := #[(Operand.tmp 5), (Operand.tmp 6)], argTypes := #[22, 70] }), none⟩,
  ⟨(some 8), (Op.binOp BinOp.geq 3 (Operand.tmp 7) (Operand.const (Value.int IntKind.i64 0)) 3), none⟩,
  ⟨(some 4), (Op.assign (Operand.tmp 8)), none⟩]
def c49 : PC := (.seq (.reg r49_0) (.seq (.reg r49_1) .ret))
def i49 : FnI := ⟨9, [(ResultVar.tmp 4)], c49, 0, [[1], [0]], [[0]], false⟩
-- loop.example/g00344/impl.GoodAlgebra$1
def r50_0 : List PO := [⟨(some 3), (Op.assign (Operand.const (Value.bool false))), none⟩]
def r50_1 : List PO := [⟨(some 4), (Op.move (Operand.tmp 0)), none⟩,
  ⟨(some 5), (Op.call { callee := (Callee.builtin Builtin.len), args := #[(Operand.tmp 4)], argTypes := #[38] }), none⟩,
  ⟨(some 6), (Op.fieldAddr 27 (Operand.tmp 1) 0), none⟩,
  ⟨(some 7), (Op.load 3 (Operand.tmp 6)), none⟩,
  ⟨(some 8), (Op.binOp BinOp.neq 3 (Operand.tmp 5) (Operand.tmp 7) 3), none⟩,
  ⟨(some 9), (Op.move (Operand.tmp 8)), none⟩,
  ⟨(some 10), (Op.move (Operand.tmp 0)), (some (9, false))⟩,
  ⟨(some 11), (Op.load 27 (Operand.tmp 1)), (some (9, false))⟩,
  ⟨(some 12), (Op.call { callee := (Callee.value (Operand.func 51)), args := #[(Operand.tmp 11)], argTypes := #[27] }), (some (9, false))⟩,
  ⟨(some 13), (Op.indexAddr 38 (Operand.tmp 10) (Operand.tmp 12)), (some (9, false))⟩,
  ⟨(some 14), (Op.load 3 (Operand.tmp 13)), (some (9, false))⟩,
  ⟨(some 15), (Op.load 27 (Operand.tmp 1)), (some (9, false))⟩,
  ⟨(some 16), (Op.call { callee := (Callee.value (Operand.func 51)), args := #[(Operand.tmp 15)], argTypes := #[27] }), (some (9, false))⟩,
  ⟨(some 17), (Op.binOp BinOp.neq 3 (Operand.tmp 14) (Operand.tmp 16) 3), (some (9, false))⟩,
  ⟨(some 18), (Op.pick (Operand.tmp 9) (Operand.const (Value.bool true)) (Operand.tmp 17)), none⟩,
  ⟨(some 19), (Op.move (Operand.tmp 18)), none⟩,
  ⟨(some 20), (Op.move (Operand.tmp 0)), (some (19, false))⟩,
  ⟨(some 21), (Op.makeFunc (Fn.func 53) #[] #[(Operand.tmp 1)]), (some (19, false))⟩,
  ⟨(some 22), (Op.call { callee := (Callee.value (Operand.func 52)), args := #[(Operand.tmp 20), (Operand.tmp 21)], argTypes := #[38, 69] }), (some (19, false))⟩,
  ⟨(some 23), (Op.pick (Operand.tmp 19) (Operand.const (Value.bool true)) (Operand.tmp 22)), none⟩,
  ⟨(some 3), (Op.assign (Operand.tmp 23)), none⟩]
def c50 : PC := (.seq (.reg r50_0) (.seq (.fz r50_1) .ret))
def i50 : FnI := ⟨24, [(ResultVar.tmp 3)], c50, 0, [[1], [0]], [[0]], false⟩
-- (loop.example/g00344/impl.Algebra).worst
def r51_0 : List PO := [⟨(some 1), (Op.box 27 (Operand.tmp 0)), none⟩,
  ⟨(some 2), (Op.assign (Operand.const (Value.int IntKind.i64 0))), none⟩]
def r51_1 : List PO := [⟨(some 3), (Op.fieldAddr 27 (Operand.tmp 1) 0), none⟩,
  ⟨(some 4), (Op.load 3 (Operand.tmp 3)), none⟩,
  ⟨(some 5), (Op.binOp BinOp.sub 3 (Operand.tmp 4) (Operand.const (Value.int IntKind.i64 1)) 3), none⟩,
  ⟨(some 2), (Op.assign (Operand.tmp 5)), none⟩]
def c51 : PC := (.seq (.reg r51_0) (.seq (.reg r51_1) .ret))
def i51 : FnI := ⟨6, [(ResultVar.tmp 2)], c51, 0, [[0, 1]], [[0]], false⟩
-- slices.ContainsFunc[[]int,int]
def r52_0 : List PO := [⟨(some 4), (Op.assign (Operand.const (Value.bool false))), none⟩]
def r52_1 : List PO := [⟨(some 5), (Op.move (Operand.tmp 0)), none⟩,
  ⟨(some 6), (Op.move (Operand.tmp 1)), none⟩,
  ⟨(some 7), (Op.call { callee := (Callee.value (Operand.func 78)), args := #[(Operand.tmp 5), (Operand.tmp 6)], argTypes := #[38, 69] }), none⟩,
  ⟨(some 8), (Op.binOp BinOp.geq 3 (Operand.tmp 7) (Operand.const (Value.int IntKind.i64 0)) 3), none⟩,
  ⟨(some 4), (Op.assign (Operand.tmp 8)), none⟩]
def c52 : PC := (.seq (.reg r52_0) (.seq (.reg r52_1) .ret))
def i52 : FnI := ⟨9, [(ResultVar.tmp 4)], c52, 0, [[1], [0]], [[0]], false⟩
-- loop.example/g00344/impl.GoodAlgebra$1$1
def r53_0 : List PO := [⟨(some 3), (Op.assign (Operand.const (Value.bool false))), none⟩]
def r53_1 : List PO := [⟨(some 4), (Op.move (Operand.tmp 0)), none⟩,
  ⟨(some 5), (Op.load 27 (Operand.tmp 1)), none⟩,
  ⟨(some 6), (Op.call { callee := (Callee.value (Operand.func 51)), args := #[(Operand.tmp 5)], argTypes := #[27] }), none⟩,
  ⟨(some 7), (Op.call { callee := (Callee.value (Operand.func 48)), args := #[(Operand.tmp 4), (Operand.const (Value.int IntKind.i64 0)), (Operand.tmp 6)], argTypes := #[3, 3, 3] }), none⟩,
  ⟨(some 8), (Op.unOp UnOp.not 4 (Operand.tmp 7)), none⟩,
  ⟨(some 3), (Op.assign (Operand.tmp 8)), none⟩]
def c53 : PC := (.seq (.reg r53_0) (.seq (.reg r53_1) .ret))
def i53 : FnI := ⟨9, [(ResultVar.tmp 3)], c53, 0, [[0], [0]], [[0]], false⟩
-- loop.example/g00344/laws.eqIntSS
def r54_0 : List PO := [⟨(some 4), (Op.assign (Operand.const (Value.bool false))), none⟩]
def r54_1 : List PO := [⟨(some 6), (Op.move (Operand.tmp 0)), none⟩,
  ⟨(some 7), (Op.call { callee := (Callee.builtin Builtin.len), args := #[(Operand.tmp 6)], argTypes := #[22] }), none⟩,
  ⟨(some 8), (Op.move (Operand.tmp 1)), none⟩,
  ⟨(some 9), (Op.call { callee := (Callee.builtin Builtin.len), args := #[(Operand.tmp 8)], argTypes := #[22] }), none⟩,
  ⟨(some 10), (Op.binOp BinOp.neq 3 (Operand.tmp 7) (Operand.tmp 9) 3), none⟩]
def r54_2 : List PO := [⟨(some 4), (Op.assign (Operand.const (Value.bool false))), none⟩]
def r54_3 : List PO := [⟨(some 5), (Op.assign (Operand.const (Value.int IntKind.i64 0))), none⟩]
def r54_4 : List PO := [⟨(some 11), (Op.move (Operand.tmp 5)), none⟩,
  ⟨(some 12), (Op.move (Operand.tmp 0)), none⟩,
  ⟨(some 13), (Op.call { callee := (Callee.builtin Builtin.len), args := #[(Operand.tmp 12)], argTypes := #[22] }), none⟩,
  ⟨(some 14), (Op.binOp BinOp.lss 3 (Operand.tmp 11) (Operand.tmp 13) 3), none⟩]
def r54_6 : List PO := [⟨(some 17), (Op.move (Operand.tmp 0)), none⟩,
  ⟨(some 18), (Op.move (Operand.tmp 5)), none⟩,
  ⟨(some 19), (Op.indexAddr 22 (Operand.tmp 17) (Operand.tmp 18)), none⟩,
  ⟨(some 20), (Op.load 38 (Operand.tmp 19)), none⟩,
  ⟨(some 21), (Op.move (Operand.tmp 1)), none⟩,
  ⟨(some 22), (Op.move (Operand.tmp 5)), none⟩,
  ⟨(some 23), (Op.indexAddr 22 (Operand.tmp 21) (Operand.tmp 22)), none⟩,
  ⟨(some 24), (Op.load 38 (Operand.tmp 23)), none⟩,
  ⟨(some 25), (Op.call { callee := (Callee.value (Operand.func 31)), args := #[(Operand.tmp 20), (Operand.tmp 24)], argTypes := #[38, 38] }), none⟩,
  ⟨(some 26), (Op.unOp UnOp.not 4 (Operand.tmp 25)), none⟩]
def r54_7 : List PO := [⟨(some 4), (Op.assign (Operand.const (Value.bool false))), none⟩]
def r54_5 : List PO := [⟨(some 15), (Op.move (Operand.tmp 5)), none⟩,
  ⟨(some 16), (Op.binOp BinOp.add 3 (Operand.tmp 15) (Operand.const (Value.int IntKind.i64 1)) 3), none⟩,
  ⟨(some 5), (Op.assign (Operand.tmp 16)), none⟩]
def l54_0 : PC := (.seq (.seq (.reg r54_4) (.cond (Operand.tmp 14) .skip (.exit 0))) (.seq (.block 1 (.seq (.fz r54_6) (.cond (Operand.tmp 26) (.seq (.reg r54_7) .ret) .skip))) (.reg r54_5)))
def r54_8 : List PO := [⟨(some 4), (Op.assign (Operand.const (Value.bool true))), none⟩]
def c54 : PC := (.seq (.reg r54_0) (.seq (.seq (.reg r54_1) (.cond (Operand.tmp 10) (.seq (.reg r54_2) .ret) .skip)) (.seq (.seq (.reg r54_3) (.block 0 (.loop l54_0))) (.seq (.reg r54_8) .ret))))
def i54 : FnI := ⟨27, [(ResultVar.tmp 4)], c54, 0, [[1], [1]], [[0]], false⟩
-- loop.example/g00344/spec.l9Arcs
def r59_0 : List PO := [⟨(some 2), (Op.box 27 (Operand.tmp 0)), none⟩,
  ⟨(some 4), (Op.assign (Operand.const (Value.bool false))), none⟩]
def r59_1 : List PO := [⟨(some 7), (Op.move (Operand.tmp 1)), none⟩,
  ⟨(some 8), (Op.call { callee := (Callee.builtin Builtin.len), args := #[(Operand.tmp 7)], argTypes := #[42] }), none⟩,
  ⟨(some 9), (Op.move (Operand.const (Value.int IntKind.i64 0))), none⟩]
def r59_2 : List PO := [⟨(some 10), (Op.binOp BinOp.lss 3 (Operand.tmp 9) (Operand.tmp 8) 3), none⟩]
def r59_3 : List PO := [⟨(some 11), (Op.indexAddr 42 (Operand.tmp 7) (Operand.tmp 9)), none⟩,
  ⟨(some 12), (Op.load 75 (Operand.tmp 11)), none⟩,
  ⟨(some 6), (Op.alloc 75), none⟩,
  ⟨none, (Op.store 75 (Operand.tmp 6) (Operand.tmp 12)), none⟩]
def r59_4 : List PO := [⟨(some 13), (Op.fieldAddr 75 (Operand.tmp 6) 0), none⟩,
  ⟨(some 14), (Op.load 3 (Operand.tmp 13)), none⟩,
  ⟨(some 15), (Op.call { callee := (Callee.value (Operand.func 45)), args := #[(Operand.tmp 14), (Operand.const (Value.int IntKind.i64 0)), (Operand.const (Value.int IntKind.i64 5))], argTypes := #[3, 3, 3] }), none⟩,
  ⟨(some 16), (Op.unOp UnOp.not 4 (Operand.tmp 15)), none⟩,
  ⟨(some 17), (Op.move (Operand.tmp 16)), none⟩,
  ⟨(some 18), (Op.fieldAddr 75 (Operand.tmp 6) 1), (some (17, false))⟩,
  ⟨(some 19), (Op.load 3 (Operand.tmp 18)), (some (17, false))⟩,
  ⟨(some 20), (Op.call { callee := (Callee.value (Operand.func 45)), args := #[(Operand.tmp 19), (Operand.const (Value.int IntKind.i64 0)), (Operand.const (Value.int IntKind.i64 5))], argTypes := #[3, 3, 3] }), (some (17, false))⟩,
  ⟨(some 21), (Op.unOp UnOp.not 4 (Operand.tmp 20)), (some (17, false))⟩,
  ⟨(some 22), (Op.pick (Operand.tmp 17) (Operand.const (Value.bool true)) (Operand.tmp 21)), none⟩,
  ⟨(some 23), (Op.move (Operand.tmp 22)), none⟩,
  ⟨(some 24), (Op.fieldAddr 75 (Operand.tmp 6) 0), (some (23, false))⟩,
  ⟨(some 25), (Op.load 3 (Operand.tmp 24)), (some (23, false))⟩,
  ⟨(some 26), (Op.fieldAddr 75 (Operand.tmp 6) 1), (some (23, false))⟩,
  ⟨(some 27), (Op.load 3 (Operand.tmp 26)), (some (23, false))⟩,
  ⟨(some 28), (Op.binOp BinOp.eql 3 (Operand.tmp 25) (Operand.tmp 27) 3), (some (23, false))⟩,
  ⟨(some 29), (Op.pick (Operand.tmp 23) (Operand.const (Value.bool true)) (Operand.tmp 28)), none⟩,
  ⟨(some 30), (Op.move (Operand.tmp 29)), none⟩,
  ⟨(some 31), (Op.fieldAddr 75 (Operand.tmp 6) 2), (some (30, false))⟩,
  ⟨(some 32), (Op.load 3 (Operand.tmp 31)), (some (30, false))⟩,
  ⟨(some 33), (Op.binOp BinOp.lss 3 (Operand.tmp 32) (Operand.const (Value.int IntKind.i64 0)) 3), (some (30, false))⟩,
  ⟨(some 34), (Op.pick (Operand.tmp 30) (Operand.const (Value.bool true)) (Operand.tmp 33)), none⟩,
  ⟨(some 35), (Op.move (Operand.tmp 34)), none⟩,
  ⟨(some 36), (Op.fieldAddr 75 (Operand.tmp 6) 2), (some (35, false))⟩,
  ⟨(some 37), (Op.load 3 (Operand.tmp 36)), (some (35, false))⟩,
  ⟨(some 38), (Op.fieldAddr 27 (Operand.tmp 2) 1), (some (35, false))⟩,
  ⟨(some 39), (Op.load 22 (Operand.tmp 38)), (some (35, false))⟩,
  ⟨(some 40), (Op.call { callee := (Callee.builtin Builtin.len), args := #[(Operand.tmp 39)], argTypes := #[22] }), (some (35, false))⟩,
  ⟨(some 41), (Op.binOp BinOp.geq 3 (Operand.tmp 37) (Operand.tmp 40) 3), (some (35, false))⟩,
  ⟨(some 42), (Op.pick (Operand.tmp 35) (Operand.const (Value.bool true)) (Operand.tmp 41)), none⟩]
def r59_5 : List PO := [⟨(some 4), (Op.assign (Operand.const (Value.bool false))), none⟩]
def r59_6 : List PO := [⟨(some 43), (Op.binOp BinOp.add 3 (Operand.tmp 9) (Operand.const (Value.int IntKind.i64 1)) 3), none⟩,
  ⟨(some 9), (Op.move (Operand.tmp 43)), none⟩]
def l59_0 : PC := (.seq (.reg r59_2) (.seq (.cond (Operand.tmp 10) .skip (.exit 0)) (.seq (.block 1 (.seq (.reg r59_3) (.seq (.reg r59_4) (.cond (Operand.tmp 42) (.seq (.reg r59_5) .ret) .skip)))) (.reg r59_6))))
def r59_7 : List PO := [⟨(some 44), (Op.load 27 (Operand.tmp 2)), none⟩,
  ⟨(some 45), (Op.call { callee := (Callee.value (Operand.func 13)), args := #[(Operand.tmp 44)], argTypes := #[27] }), none⟩,
  ⟨(some 46), (Op.move (Operand.tmp 45)), none⟩,
  ⟨(some 47), (Op.move (Operand.tmp 1)), (some (46, true))⟩,
  ⟨(some 48), (Op.call { callee := (Callee.builtin Builtin.len), args := #[(Operand.tmp 47)], argTypes := #[42] }), (some (46, true))⟩,
  ⟨(some 49), (Op.binOp BinOp.leq 3 (Operand.tmp 48) (Operand.const (Value.int IntKind.i64 20)) 3), (some (46, true))⟩,
  ⟨(some 50), (Op.pick (Operand.tmp 46) (Operand.tmp 49) (Operand.const (Value.bool false))), none⟩,
  ⟨(some 4), (Op.assign (Operand.tmp 50)), none⟩]
def c59 : PC := (.seq (.reg r59_0) (.seq (.seq (.reg r59_1) (.block 0 (.loop l59_0))) (.seq (.reg r59_7) .ret)))
def i59 : FnI := ⟨51, [(ResultVar.tmp 4)], c59, 0, [[0, 1], [3]], [[0]], false⟩
-- loop.example/g00344/spec.l1Has
def r60_0 : List PO := [⟨(some 4), (Op.assign (Operand.const (Value.bool false))), none⟩]
def r60_1 : List PO := [⟨(some 7), (Op.move (Operand.tmp 0)), none⟩,
  ⟨(some 8), (Op.call { callee := (Callee.builtin Builtin.len), args := #[(Operand.tmp 7)], argTypes := #[38] }), none⟩,
  ⟨(some 9), (Op.move (Operand.const (Value.int IntKind.i64 0))), none⟩]
def r60_2 : List PO := [⟨(some 10), (Op.binOp BinOp.lss 3 (Operand.tmp 9) (Operand.tmp 8) 3), none⟩]
def r60_3 : List PO := [⟨(some 11), (Op.indexAddr 38 (Operand.tmp 7) (Operand.tmp 9)), none⟩,
  ⟨(some 12), (Op.load 3 (Operand.tmp 11)), none⟩,
  ⟨(some 6), (Op.assign (Operand.tmp 12)), none⟩]
def r60_4 : List PO := [⟨(some 13), (Op.move (Operand.tmp 6)), none⟩,
  ⟨(some 14), (Op.move (Operand.tmp 1)), none⟩,
  ⟨(some 15), (Op.binOp BinOp.eql 3 (Operand.tmp 13) (Operand.tmp 14) 3), none⟩]
def r60_5 : List PO := [⟨(some 4), (Op.assign (Operand.const (Value.bool true))), none⟩]
def r60_6 : List PO := [⟨(some 16), (Op.binOp BinOp.add 3 (Operand.tmp 9) (Operand.const (Value.int IntKind.i64 1)) 3), none⟩,
  ⟨(some 9), (Op.move (Operand.tmp 16)), none⟩]
def l60_0 : PC := (.seq (.reg r60_2) (.seq (.cond (Operand.tmp 10) .skip (.exit 0)) (.seq (.block 1 (.seq (.reg r60_3) (.seq (.reg r60_4) (.cond (Operand.tmp 15) (.seq (.reg r60_5) .ret) .skip)))) (.reg r60_6))))
def r60_7 : List PO := [⟨(some 4), (Op.assign (Operand.const (Value.bool false))), none⟩]
def c60 : PC := (.seq (.reg r60_0) (.seq (.seq (.reg r60_1) (.block 0 (.loop l60_0))) (.seq (.reg r60_7) .ret)))
def i60 : FnI := ⟨17, [(ResultVar.tmp 4)], c60, 0, [[1], [0]], [[0]], false⟩
-- loop.example/g00344/spec.l9Arc
def r61_0 : List PO := [⟨(some 6), (Op.assign (Operand.const (Value.int IntKind.i64 0))), none⟩]
def r61_1 : List PO := [⟨(some 9), (Op.move (Operand.tmp 0)), none⟩,
  ⟨(some 10), (Op.call { callee := (Callee.builtin Builtin.len), args := #[(Operand.tmp 9)], argTypes := #[42] }), none⟩,
  ⟨(some 11), (Op.move (Operand.const (Value.int IntKind.i64 0))), none⟩]
def r61_2 : List PO := [⟨(some 12), (Op.binOp BinOp.lss 3 (Operand.tmp 11) (Operand.tmp 10) 3), none⟩]
def r61_3 : List PO := [⟨(some 13), (Op.indexAddr 42 (Operand.tmp 9) (Operand.tmp 11)), none⟩,
  ⟨(some 14), (Op.load 75 (Operand.tmp 13)), none⟩,
  ⟨(some 8), (Op.alloc 75), none⟩,
  ⟨none, (Op.store 75 (Operand.tmp 8) (Operand.tmp 14)), none⟩]
def r61_4 : List PO := [⟨(some 15), (Op.fieldAddr 75 (Operand.tmp 8) 0), none⟩,
  ⟨(some 16), (Op.load 3 (Operand.tmp 15)), none⟩,
  ⟨(some 17), (Op.move (Operand.tmp 1)), none⟩,
  ⟨(some 18), (Op.binOp BinOp.eql 3 (Operand.tmp 16) (Operand.tmp 17) 3), none⟩,
  ⟨(some 19), (Op.move (Operand.tmp 18)), none⟩,
  ⟨(some 20), (Op.fieldAddr 75 (Operand.tmp 8) 1), (some (19, true))⟩,
  ⟨(some 21), (Op.load 3 (Operand.tmp 20)), (some (19, true))⟩,
  ⟨(some 22), (Op.move (Operand.tmp 2)), (some (19, true))⟩,
  ⟨(some 23), (Op.binOp BinOp.eql 3 (Operand.tmp 21) (Operand.tmp 22) 3), (some (19, true))⟩,
  ⟨(some 24), (Op.pick (Operand.tmp 19) (Operand.tmp 23) (Operand.const (Value.bool false))), none⟩]
def r61_5 : List PO := [⟨(some 25), (Op.fieldAddr 75 (Operand.tmp 8) 2), none⟩,
  ⟨(some 26), (Op.load 3 (Operand.tmp 25)), none⟩,
  ⟨(some 6), (Op.assign (Operand.tmp 26)), none⟩]
def r61_6 : List PO := [⟨(some 27), (Op.binOp BinOp.add 3 (Operand.tmp 11) (Operand.const (Value.int IntKind.i64 1)) 3), none⟩,
  ⟨(some 11), (Op.move (Operand.tmp 27)), none⟩]
def l61_0 : PC := (.seq (.reg r61_2) (.seq (.cond (Operand.tmp 12) .skip (.exit 0)) (.seq (.block 1 (.seq (.reg r61_3) (.seq (.reg r61_4) (.cond (Operand.tmp 24) (.seq (.reg r61_5) .ret) .skip)))) (.reg r61_6))))
def r61_7 : List PO := [⟨(some 6), (Op.assign (Operand.const (Value.int IntKind.i64 (-1)))), none⟩]
def c61 : PC := (.seq (.reg r61_0) (.seq (.seq (.reg r61_1) (.block 0 (.loop l61_0))) (.seq (.reg r61_7) .ret)))
def i61 : FnI := ⟨28, [(ResultVar.tmp 6)], c61, 0, [[3], [0], [0]], [[0]], false⟩
-- loop.example/g00344/laws.toArc
def r62_0 : List PO := [⟨(some 1), (Op.box 77 (Operand.tmp 0)), none⟩,
  ⟨(some 2), (Op.alloc 75), none⟩]
def r62_1 : List PO := [⟨(some 3), (Op.alloc 75), none⟩]
def r62_2 : List PO := [⟨(some 4), (Op.fieldAddr 77 (Operand.tmp 1) 0), none⟩,
  ⟨(some 5), (Op.load 3 (Operand.tmp 4)), none⟩,
  ⟨(some 6), (Op.fieldAddr 75 (Operand.tmp 3) 0), none⟩,
  ⟨none, (Op.store 3 (Operand.tmp 6) (Operand.tmp 5)), none⟩]
def r62_3 : List PO := [⟨(some 7), (Op.fieldAddr 77 (Operand.tmp 1) 1), none⟩,
  ⟨(some 8), (Op.load 3 (Operand.tmp 7)), none⟩,
  ⟨(some 9), (Op.fieldAddr 75 (Operand.tmp 3) 1), none⟩,
  ⟨none, (Op.store 3 (Operand.tmp 9) (Operand.tmp 8)), none⟩]
def r62_4 : List PO := [⟨(some 10), (Op.fieldAddr 77 (Operand.tmp 1) 2), none⟩,
  ⟨(some 11), (Op.load 3 (Operand.tmp 10)), none⟩,
  ⟨(some 12), (Op.fieldAddr 75 (Operand.tmp 3) 2), none⟩,
  ⟨none, (Op.store 3 (Operand.tmp 12) (Operand.tmp 11)), none⟩]
def r62_5 : List PO := [⟨(some 13), (Op.load 75 (Operand.tmp 3)), none⟩,
  ⟨none, (Op.store 75 (Operand.tmp 2) (Operand.tmp 13)), none⟩]
def c62 : PC := (.seq (.reg r62_0) (.seq (.reg r62_1) (.seq (.reg r62_2) (.seq (.reg r62_3) (.seq (.reg r62_4) (.seq (.reg r62_5) .ret))))))
def i62 : FnI := ⟨14, [(ResultVar.cell 2 75)], c62, 0, [[0, 0, 0]], [[0, 0, 0]], false⟩
-- loop.example/g00344/impl.areArcs
def r63_0 : List PO := [⟨(some 2), (Op.box 27 (Operand.tmp 0)), none⟩,
  ⟨(some 4), (Op.assign (Operand.const (Value.bool false))), none⟩]
def r63_1 : List PO := [⟨(some 5), (Op.load 27 (Operand.tmp 2)), none⟩,
  ⟨(some 6), (Op.call { callee := (Callee.value (Operand.func 15)), args := #[(Operand.tmp 5)], argTypes := #[27] }), none⟩,
  ⟨(some 7), (Op.move (Operand.tmp 6)), none⟩,
  ⟨(some 8), (Op.move (Operand.tmp 1)), (some (7, true))⟩,
  ⟨(some 9), (Op.call { callee := (Callee.builtin Builtin.len), args := #[(Operand.tmp 8)], argTypes := #[42] }), (some (7, true))⟩,
  ⟨(some 10), (Op.binOp BinOp.leq 3 (Operand.tmp 9) (Operand.const (Value.int IntKind.i64 20)) 3), (some (7, true))⟩,
  ⟨(some 11), (Op.pick (Operand.tmp 7) (Operand.tmp 10) (Operand.const (Value.bool false))), none⟩,
  ⟨(some 12), (Op.move (Operand.tmp 11)), none⟩,
  ⟨(some 13), (Op.move (Operand.tmp 1)), (some (12, true))⟩,
  ⟨(some 14), (Op.makeFunc (Fn.func 81) #[] #[(Operand.tmp 2)]), (some (12, true))⟩,
  ⟨(some 15), (Op.call { callee := (Callee.value (Operand.func 80)), args := #[(Operand.tmp 13), (Operand.tmp 14)], argTypes := #[42, 96] }), (some (12, true))⟩,
  ⟨(some 16), (Op.unOp UnOp.not 4 (Operand.tmp 15)), (some (12, true))⟩,
  ⟨(some 17), (Op.pick (Operand.tmp 12) (Operand.tmp 16) (Operand.const (Value.bool false))), none⟩,
  ⟨(some 4), (Op.assign (Operand.tmp 17)), none⟩]
def c63 : PC := (.seq (.reg r63_0) (.seq (.reg r63_1) .ret))
def i63 : FnI := ⟨18, [(ResultVar.tmp 4)], c63, 0, [[0, 1], [3]], [[0]], false⟩
-- loop.example/g00344/impl.isSpeaker
def r64_0 : List PO := [⟨(some 2), (Op.assign (Operand.const (Value.bool false))), none⟩]
def r64_1 : List PO := [⟨(some 3), (Op.move (Operand.tmp 0)), none⟩,
  ⟨(some 4), (Op.call { callee := (Callee.value (Operand.func 48)), args := #[(Operand.tmp 3), (Operand.const (Value.int IntKind.i64 0)), (Operand.const (Value.int IntKind.i64 5))], argTypes := #[3, 3, 3] }), none⟩,
  ⟨(some 2), (Op.assign (Operand.tmp 4)), none⟩]
def c64 : PC := (.seq (.reg r64_0) (.seq (.reg r64_1) .ret))
def i64 : FnI := ⟨5, [(ResultVar.tmp 2)], c64, 0, [[0]], [[0]], false⟩
-- slices.Contains[[]int,int]
def r65_0 : List PO := [⟨(some 4), (Op.assign (Operand.const (Value.bool false))), none⟩]
def r65_1 : List PO := [⟨(some 5), (Op.move (Operand.tmp 0)), none⟩,
  ⟨(some 6), (Op.move (Operand.tmp 1)), none⟩,
  ⟨(some 7), (Op.call { callee := (Callee.value (Operand.func 82)), args := #[(Operand.tmp 5), (Operand.tmp 6)], argTypes := #[38, 3] }), none⟩,
  ⟨(some 8), (Op.binOp BinOp.geq 3 (Operand.tmp 7) (Operand.const (Value.int IntKind.i64 0)) 3), none⟩,
  ⟨(some 4), (Op.assign (Operand.tmp 8)), none⟩]
def c65 : PC := (.seq (.reg r65_0) (.seq (.reg r65_1) .ret))
def i65 : FnI := ⟨9, [(ResultVar.tmp 4)], c65, 0, [[1], [0]], [[0]], false⟩
-- loop.example/g00344/impl.labelOf
def r66_0 : List PO := [⟨(some 4), (Op.box 3 (Operand.tmp 1)), none⟩,
  ⟨(some 5), (Op.box 3 (Operand.tmp 2)), none⟩,
  ⟨(some 6), (Op.assign (Operand.const (Value.int IntKind.i64 0))), none⟩,
  ⟨(some 7), (Op.assign (Operand.const (Value.bool false))), none⟩]
def r66_1 : List PO := [⟨(some 9), (Op.move (Operand.tmp 0)), none⟩,
  ⟨(some 10), (Op.makeFunc (Fn.func 84) #[] #[(Operand.tmp 4), (Operand.tmp 5)]), none⟩,
  ⟨(some 11), (Op.call { callee := (Callee.value (Operand.func 83)), args := #[(Operand.tmp 9), (Operand.tmp 10)], argTypes := #[42, 96] }), none⟩,
  ⟨(some 8), (Op.assign (Operand.tmp 11)), none⟩]
def r66_2 : List PO := [⟨(some 12), (Op.move (Operand.tmp 8)), none⟩,
  ⟨(some 13), (Op.binOp BinOp.lss 3 (Operand.tmp 12) (Operand.const (Value.int IntKind.i64 0)) 3), none⟩]
def r66_3 : List PO := [⟨(some 6), (Op.assign (Operand.const (Value.int IntKind.i64 0))), none⟩,
  ⟨(some 7), (Op.assign (Operand.const (Value.bool false))), none⟩]
def r66_4 : List PO := [⟨(some 14), (Op.move (Operand.tmp 0)), none⟩,
  ⟨(some 15), (Op.move (Operand.tmp 8)), none⟩,
  ⟨(some 16), (Op.indexAddr 42 (Operand.tmp 14) (Operand.tmp 15)), none⟩,
  ⟨(some 17), (Op.fieldAddr 75 (Operand.tmp 16) 2), none⟩,
  ⟨(some 18), (Op.load 3 (Operand.tmp 17)), none⟩,
  ⟨(some 6), (Op.assign (Operand.tmp 18)), none⟩,
  ⟨(some 7), (Op.assign (Operand.const (Value.bool true))), none⟩]
def c66 : PC := (.seq (.reg r66_0) (.seq (.reg r66_1) (.seq (.seq (.reg r66_2) (.cond (Operand.tmp 13) (.seq (.reg r66_3) .ret) .skip)) (.seq (.reg r66_4) .ret))))
def i66 : FnI := ⟨19, [(ResultVar.tmp 6), (ResultVar.tmp 7)], c66, 0, [[3], [0], [0]], [[0], [0]], false⟩
-- loop.example/g00344/laws.eqArc
def r67_0 : List PO := [⟨(some 2), (Op.box 75 (Operand.tmp 0)), none⟩,
  ⟨(some 3), (Op.box 75 (Operand.tmp 1)), none⟩,
  ⟨(some 4), (Op.assign (Operand.const (Value.bool false))), none⟩]
def r67_1 : List PO := [⟨(some 5), (Op.fieldAddr 75 (Operand.tmp 2) 0), none⟩,
  ⟨(some 6), (Op.load 3 (Operand.tmp 5)), none⟩,
  ⟨(some 7), (Op.fieldAddr 75 (Operand.tmp 3) 0), none⟩,
  ⟨(some 8), (Op.load 3 (Operand.tmp 7)), none⟩,
  ⟨(some 9), (Op.binOp BinOp.neq 3 (Operand.tmp 6) (Operand.tmp 8) 3), none⟩]
def r67_2 : List PO := [⟨(some 4), (Op.assign (Operand.const (Value.bool false))), none⟩]
def r67_3 : List PO := [⟨(some 10), (Op.fieldAddr 75 (Operand.tmp 2) 1), none⟩,
  ⟨(some 11), (Op.load 3 (Operand.tmp 10)), none⟩,
  ⟨(some 12), (Op.fieldAddr 75 (Operand.tmp 3) 1), none⟩,
  ⟨(some 13), (Op.load 3 (Operand.tmp 12)), none⟩,
  ⟨(some 14), (Op.binOp BinOp.neq 3 (Operand.tmp 11) (Operand.tmp 13) 3), none⟩]
def r67_4 : List PO := [⟨(some 4), (Op.assign (Operand.const (Value.bool false))), none⟩]
def r67_5 : List PO := [⟨(some 15), (Op.fieldAddr 75 (Operand.tmp 2) 2), none⟩,
  ⟨(some 16), (Op.load 3 (Operand.tmp 15)), none⟩,
  ⟨(some 17), (Op.fieldAddr 75 (Operand.tmp 3) 2), none⟩,
  ⟨(some 18), (Op.load 3 (Operand.tmp 17)), none⟩,
  ⟨(some 19), (Op.binOp BinOp.neq 3 (Operand.tmp 16) (Operand.tmp 18) 3), none⟩]
def r67_6 : List PO := [⟨(some 4), (Op.assign (Operand.const (Value.bool false))), none⟩]
def r67_7 : List PO := [⟨(some 4), (Op.assign (Operand.const (Value.bool true))), none⟩]
def c67 : PC := (.seq (.reg r67_0) (.seq (.seq (.reg r67_1) (.cond (Operand.tmp 9) (.seq (.reg r67_2) .ret) .skip)) (.seq (.seq (.reg r67_3) (.cond (Operand.tmp 14) (.seq (.reg r67_4) .ret) .skip)) (.seq (.seq (.reg r67_5) (.cond (Operand.tmp 19) (.seq (.reg r67_6) .ret) .skip)) (.seq (.reg r67_7) .ret)))))
def i67 : FnI := ⟨20, [(ResultVar.tmp 4)], c67, 0, [[0, 0, 0], [0, 0, 0]], [[0]], false⟩
-- loop.example/g00344/laws.szIntS
def r76_0 : List PO := [⟨(some 4), (Op.assign (Operand.const (Value.int IntKind.i64 0))), none⟩]
def r76_1 : List PO := [⟨(some 5), (Op.move (Operand.tmp 1)), none⟩,
  ⟨(some 6), (Op.move (Operand.tmp 0)), none⟩,
  ⟨(some 7), (Op.call { callee := (Callee.builtin Builtin.len), args := #[(Operand.tmp 6)], argTypes := #[38] }), none⟩,
  ⟨(some 8), (Op.binOp BinOp.sub 3 (Operand.tmp 5) (Operand.tmp 7) 3), none⟩,
  ⟨(some 1), (Op.assign (Operand.tmp 8)), none⟩]
def r76_2 : List PO := [⟨(some 9), (Op.move (Operand.tmp 1)), none⟩,
  ⟨(some 10), (Op.binOp BinOp.lss 3 (Operand.tmp 9) (Operand.const (Value.int IntKind.i64 0)) 3), none⟩]
def r76_3 : List PO := [⟨(some 4), (Op.assign (Operand.const (Value.int IntKind.i64 (-1)))), none⟩]
def r76_4 : List PO := [⟨(some 11), (Op.move (Operand.tmp 1)), none⟩,
  ⟨(some 4), (Op.assign (Operand.tmp 11)), none⟩]
def c76 : PC := (.seq (.reg r76_0) (.seq (.reg r76_1) (.seq (.seq (.reg r76_2) (.cond (Operand.tmp 10) (.seq (.reg r76_3) .ret) .skip)) (.seq (.reg r76_4) .ret))))
def i76 : FnI := ⟨12, [(ResultVar.tmp 4)], c76, 0, [[1], [0]], [[0]], false⟩
-- slices.IndexFunc[[][]int,[]int]
def r77_0 : List PO := [⟨(some 4), (Op.assign (Operand.const (Value.int IntKind.i64 0))), none⟩]
def r77_1 : List PO := [⟨(some 6), (Op.move (Operand.tmp 0)), none⟩,
  ⟨(some 7), (Op.call { callee := (Callee.builtin Builtin.len), args := #[(Operand.tmp 6)], argTypes := #[22] }), none⟩,
  ⟨(some 8), (Op.move (Operand.const (Value.int IntKind.i64 0))), none⟩]
def r77_2 : List PO := [⟨(some 9), (Op.binOp BinOp.lss 3 (Operand.tmp 8) (Operand.tmp 7) 3), none⟩]
def r77_3 : List PO := [⟨(some 10), (Op.move (Operand.tmp 8)), none⟩,
  ⟨(some 5), (Op.assign (Operand.tmp 10)), none⟩]
def r77_4 : List PO := [⟨(some 11), (Op.move (Operand.tmp 1)), none⟩,
  ⟨(some 12), (Op.move (Operand.tmp 0)), none⟩,
  ⟨(some 13), (Op.move (Operand.tmp 5)), none⟩,
  ⟨(some 14), (Op.indexAddr 22 (Operand.tmp 12) (Operand.tmp 13)), none⟩,
  ⟨(some 15), (Op.load 38 (Operand.tmp 14)), none⟩,
  ⟨(some 16), (Op.call { callee := (Callee.value (Operand.tmp 11)), args := #[(Operand.tmp 15)], argTypes := #[38] }), none⟩]
def r77_5 : List PO := [⟨(some 17), (Op.move (Operand.tmp 5)), none⟩,
  ⟨(some 4), (Op.assign (Operand.tmp 17)), none⟩]
def r77_6 : List PO := [⟨(some 18), (Op.binOp BinOp.add 3 (Operand.tmp 8) (Operand.const (Value.int IntKind.i64 1)) 3), none⟩,
  ⟨(some 8), (Op.move (Operand.tmp 18)), none⟩]
def l77_0 : PC := (.seq (.reg r77_2) (.seq (.cond (Operand.tmp 9) .skip (.exit 0)) (.seq (.block 1 (.seq (.reg r77_3) (.seq (.reg r77_4) (.cond (Operand.tmp 16) (.seq (.reg r77_5) .ret) .skip)))) (.reg r77_6))))
def r77_7 : List PO := [⟨(some 4), (Op.assign (Operand.const (Value.int IntKind.i64 (-1)))), none⟩]
def c77 : PC := (.seq (.reg r77_0) (.seq (.seq (.reg r77_1) (.block 0 (.loop l77_0))) (.seq (.reg r77_7) .ret)))
def i77 : FnI := ⟨19, [(ResultVar.tmp 4)], c77, 0, [[1], [0]], [[0]], false⟩
-- slices.IndexFunc[[]int,int]
def r78_0 : List PO := [⟨(some 4), (Op.assign (Operand.const (Value.int IntKind.i64 0))), none⟩]
def r78_1 : List PO := [⟨(some 6), (Op.move (Operand.tmp 0)), none⟩,
  ⟨(some 7), (Op.call { callee := (Callee.builtin Builtin.len), args := #[(Operand.tmp 6)], argTypes := #[38] }), none⟩,
  ⟨(some 8), (Op.move (Operand.const (Value.int IntKind.i64 0))), none⟩]
def r78_2 : List PO := [⟨(some 9), (Op.binOp BinOp.lss 3 (Operand.tmp 8) (Operand.tmp 7) 3), none⟩]
def r78_3 : List PO := [⟨(some 10), (Op.move (Operand.tmp 8)), none⟩,
  ⟨(some 5), (Op.assign (Operand.tmp 10)), none⟩]
def r78_4 : List PO := [⟨(some 11), (Op.move (Operand.tmp 1)), none⟩,
  ⟨(some 12), (Op.move (Operand.tmp 0)), none⟩,
  ⟨(some 13), (Op.move (Operand.tmp 5)), none⟩,
  ⟨(some 14), (Op.indexAddr 38 (Operand.tmp 12) (Operand.tmp 13)), none⟩,
  ⟨(some 15), (Op.load 3 (Operand.tmp 14)), none⟩,
  ⟨(some 16), (Op.call { callee := (Callee.value (Operand.tmp 11)), args := #[(Operand.tmp 15)], argTypes := #[3] }), none⟩]
def r78_5 : List PO := [⟨(some 17), (Op.move (Operand.tmp 5)), none⟩,
  ⟨(some 4), (Op.assign (Operand.tmp 17)), none⟩]
def r78_6 : List PO := [⟨(some 18), (Op.binOp BinOp.add 3 (Operand.tmp 8) (Operand.const (Value.int IntKind.i64 1)) 3), none⟩,
  ⟨(some 8), (Op.move (Operand.tmp 18)), none⟩]
def l78_0 : PC := (.seq (.reg r78_2) (.seq (.cond (Operand.tmp 9) .skip (.exit 0)) (.seq (.block 1 (.seq (.reg r78_3) (.seq (.reg r78_4) (.cond (Operand.tmp 16) (.seq (.reg r78_5) .ret) .skip)))) (.reg r78_6))))
def r78_7 : List PO := [⟨(some 4), (Op.assign (Operand.const (Value.int IntKind.i64 (-1)))), none⟩]
def c78 : PC := (.seq (.reg r78_0) (.seq (.seq (.reg r78_1) (.block 0 (.loop l78_0))) (.seq (.reg r78_7) .ret)))
def i78 : FnI := ⟨19, [(ResultVar.tmp 4)], c78, 0, [[1], [0]], [[0]], false⟩
-- slices.ContainsFunc[[]loop.example/g00344/impl.Arc,loop.example/g00344/impl.Arc]
def r80_0 : List PO := [⟨(some 4), (Op.assign (Operand.const (Value.bool false))), none⟩]
def r80_1 : List PO := [⟨(some 5), (Op.move (Operand.tmp 0)), none⟩,
  ⟨(some 6), (Op.move (Operand.tmp 1)), none⟩,
  ⟨(some 7), (Op.call { callee := (Callee.value (Operand.func 83)), args := #[(Operand.tmp 5), (Operand.tmp 6)], argTypes := #[42, 96] }), none⟩,
  ⟨(some 8), (Op.binOp BinOp.geq 3 (Operand.tmp 7) (Operand.const (Value.int IntKind.i64 0)) 3), none⟩,
  ⟨(some 4), (Op.assign (Operand.tmp 8)), none⟩]
def c80 : PC := (.seq (.reg r80_0) (.seq (.reg r80_1) .ret))
def i80 : FnI := ⟨9, [(ResultVar.tmp 4)], c80, 0, [[3], [0]], [[0]], false⟩
-- loop.example/g00344/impl.areArcs$1
def r81_0 : List PO := [⟨(some 2), (Op.box 75 (Operand.tmp 0)), none⟩,
  ⟨(some 3), (Op.assign (Operand.const (Value.bool false))), none⟩]
def r81_1 : List PO := [⟨(some 4), (Op.fieldAddr 75 (Operand.tmp 2) 0), none⟩,
  ⟨(some 5), (Op.load 3 (Operand.tmp 4)), none⟩,
  ⟨(some 6), (Op.call { callee := (Callee.value (Operand.func 64)), args := #[(Operand.tmp 5)], argTypes := #[3] }), none⟩,
  ⟨(some 7), (Op.unOp UnOp.not 4 (Operand.tmp 6)), none⟩,
  ⟨(some 8), (Op.move (Operand.tmp 7)), none⟩,
  ⟨(some 9), (Op.fieldAddr 75 (Operand.tmp 2) 1), (some (8, false))⟩,
  ⟨(some 10), (Op.load 3 (Operand.tmp 9)), (some (8, false))⟩,
  ⟨(some 11), (Op.call { callee := (Callee.value (Operand.func 64)), args := #[(Operand.tmp 10)], argTypes := #[3] }), (some (8, false))⟩,
  ⟨(some 12), (Op.unOp UnOp.not 4 (Operand.tmp 11)), (some (8, false))⟩,
  ⟨(some 13), (Op.pick (Operand.tmp 8) (Operand.const (Value.bool true)) (Operand.tmp 12)), none⟩,
  ⟨(some 14), (Op.move (Operand.tmp 13)), none⟩,
  ⟨(some 15), (Op.fieldAddr 75 (Operand.tmp 2) 0), (some (14, false))⟩,
  ⟨(some 16), (Op.load 3 (Operand.tmp 15)), (some (14, false))⟩,
  ⟨(some 17), (Op.fieldAddr 75 (Operand.tmp 2) 1), (some (14, false))⟩,
  ⟨(some 18), (Op.load 3 (Operand.tmp 17)), (some (14, false))⟩,
  ⟨(some 19), (Op.binOp BinOp.eql 3 (Operand.tmp 16) (Operand.tmp 18) 3), (some (14, false))⟩,
  ⟨(some 20), (Op.pick (Operand.tmp 14) (Operand.const (Value.bool true)) (Operand.tmp 19)), none⟩,
  ⟨(some 21), (Op.move (Operand.tmp 20)), none⟩,
  ⟨(some 22), (Op.fieldAddr 75 (Operand.tmp 2) 2), (some (21, false))⟩,
  ⟨(some 23), (Op.load 3 (Operand.tmp 22)), (some (21, false))⟩,
  ⟨(some 24), (Op.fieldAddr 27 (Operand.tmp 1) 1), (some (21, false))⟩,
  ⟨(some 25), (Op.load 22 (Operand.tmp 24)), (some (21, false))⟩,
  ⟨(some 26), (Op.call { callee := (Callee.builtin Builtin.len), args := #[(Operand.tmp 25)], argTypes := #[22] }), (some (21, false))⟩,
  ⟨(some 27), (Op.binOp BinOp.sub 3 (Operand.tmp 26) (Operand.const (Value.int IntKind.i64 1)) 3), (some (21, false))⟩,
  ⟨(some 28), (Op.call { callee := (Callee.value (Operand.func 48)), args := #[(Operand.tmp 23), (Operand.const (Value.int IntKind.i64 0)), (Operand.tmp 27)], argTypes := #[3, 3, 3] }), (some (21, false))⟩,
  ⟨(some 29), (Op.unOp UnOp.not 4 (Operand.tmp 28)), (some (21, false))⟩,
  ⟨(some 30), (Op.pick (Operand.tmp 21) (Operand.const (Value.bool true)) (Operand.tmp 29)), none⟩,
  ⟨(some 3), (Op.assign (Operand.tmp 30)), none⟩]
def c81 : PC := (.seq (.reg r81_0) (.seq (.reg r81_1) .ret))
def i81 : FnI := ⟨31, [(ResultVar.tmp 3)], c81, 0, [[0, 0, 0], [0]], [[0]], false⟩
-- slices.Index[[]int,int]
def r82_0 : List PO := [⟨(some 4), (Op.assign (Operand.const (Value.int IntKind.i64 0))), none⟩]
def r82_1 : List PO := [⟨(some 6), (Op.move (Operand.tmp 0)), none⟩,
  ⟨(some 7), (Op.call { callee := (Callee.builtin Builtin.len), args := #[(Operand.tmp 6)], argTypes := #[38] }), none⟩,
  ⟨(some 8), (Op.move (Operand.const (Value.int IntKind.i64 0))), none⟩]
def r82_2 : List PO := [⟨(some 9), (Op.binOp BinOp.lss 3 (Operand.tmp 8) (Operand.tmp 7) 3), none⟩]
def r82_3 : List PO := [⟨(some 10), (Op.move (Operand.tmp 8)), none⟩,
  ⟨(some 5), (Op.assign (Operand.tmp 10)), none⟩]
def r82_4 : List PO := [⟨(some 11), (Op.move (Operand.tmp 1)), none⟩,
  ⟨(some 12), (Op.move (Operand.tmp 0)), none⟩,
  ⟨(some 13), (Op.move (Operand.tmp 5)), none⟩,
  ⟨(some 14), (Op.indexAddr 38 (Operand.tmp 12) (Operand.tmp 13)), none⟩,
  ⟨(some 15), (Op.load 3 (Operand.tmp 14)), none⟩,
  ⟨(some 16), (Op.binOp BinOp.eql 3 (Operand.tmp 11) (Operand.tmp 15) 3), none⟩]
def r82_5 : List PO := [⟨(some 17), (Op.move (Operand.tmp 5)), none⟩,
  ⟨(some 4), (Op.assign (Operand.tmp 17)), none⟩]
def r82_6 : List PO := [⟨(some 18), (Op.binOp BinOp.add 3 (Operand.tmp 8) (Operand.const (Value.int IntKind.i64 1)) 3), none⟩,
  ⟨(some 8), (Op.move (Operand.tmp 18)), none⟩]
def l82_0 : PC := (.seq (.reg r82_2) (.seq (.cond (Operand.tmp 9) .skip (.exit 0)) (.seq (.block 1 (.seq (.reg r82_3) (.seq (.reg r82_4) (.cond (Operand.tmp 16) (.seq (.reg r82_5) .ret) .skip)))) (.reg r82_6))))
def r82_7 : List PO := [⟨(some 4), (Op.assign (Operand.const (Value.int IntKind.i64 (-1)))), none⟩]
def c82 : PC := (.seq (.reg r82_0) (.seq (.seq (.reg r82_1) (.block 0 (.loop l82_0))) (.seq (.reg r82_7) .ret)))
def i82 : FnI := ⟨19, [(ResultVar.tmp 4)], c82, 0, [[1], [0]], [[0]], false⟩
-- slices.IndexFunc[[]loop.example/g00344/impl.Arc,loop.example/g00344/impl.Arc]
def r83_0 : List PO := [⟨(some 4), (Op.assign (Operand.const (Value.int IntKind.i64 0))), none⟩]
def r83_1 : List PO := [⟨(some 6), (Op.move (Operand.tmp 0)), none⟩,
  ⟨(some 7), (Op.call { callee := (Callee.builtin Builtin.len), args := #[(Operand.tmp 6)], argTypes := #[42] }), none⟩,
  ⟨(some 8), (Op.move (Operand.const (Value.int IntKind.i64 0))), none⟩]
def r83_2 : List PO := [⟨(some 9), (Op.binOp BinOp.lss 3 (Operand.tmp 8) (Operand.tmp 7) 3), none⟩]
def r83_3 : List PO := [⟨(some 10), (Op.move (Operand.tmp 8)), none⟩,
  ⟨(some 5), (Op.assign (Operand.tmp 10)), none⟩]
def r83_4 : List PO := [⟨(some 11), (Op.move (Operand.tmp 1)), none⟩,
  ⟨(some 12), (Op.move (Operand.tmp 0)), none⟩,
  ⟨(some 13), (Op.move (Operand.tmp 5)), none⟩,
  ⟨(some 14), (Op.indexAddr 42 (Operand.tmp 12) (Operand.tmp 13)), none⟩,
  ⟨(some 15), (Op.load 75 (Operand.tmp 14)), none⟩,
  ⟨(some 16), (Op.call { callee := (Callee.value (Operand.tmp 11)), args := #[(Operand.tmp 15)], argTypes := #[75] }), none⟩]
def r83_5 : List PO := [⟨(some 17), (Op.move (Operand.tmp 5)), none⟩,
  ⟨(some 4), (Op.assign (Operand.tmp 17)), none⟩]
def r83_6 : List PO := [⟨(some 18), (Op.binOp BinOp.add 3 (Operand.tmp 8) (Operand.const (Value.int IntKind.i64 1)) 3), none⟩,
  ⟨(some 8), (Op.move (Operand.tmp 18)), none⟩]
def l83_0 : PC := (.seq (.reg r83_2) (.seq (.cond (Operand.tmp 9) .skip (.exit 0)) (.seq (.block 1 (.seq (.reg r83_3) (.seq (.reg r83_4) (.cond (Operand.tmp 16) (.seq (.reg r83_5) .ret) .skip)))) (.reg r83_6))))
def r83_7 : List PO := [⟨(some 4), (Op.assign (Operand.const (Value.int IntKind.i64 (-1)))), none⟩]
def c83 : PC := (.seq (.reg r83_0) (.seq (.seq (.reg r83_1) (.block 0 (.loop l83_0))) (.seq (.reg r83_7) .ret)))
def i83 : FnI := ⟨19, [(ResultVar.tmp 4)], c83, 0, [[3], [0]], [[0]], false⟩
-- loop.example/g00344/impl.labelOf$1
def r84_0 : List PO := [⟨(some 3), (Op.box 75 (Operand.tmp 0)), none⟩,
  ⟨(some 4), (Op.assign (Operand.const (Value.bool false))), none⟩]
def r84_1 : List PO := [⟨(some 5), (Op.fieldAddr 75 (Operand.tmp 3) 0), none⟩,
  ⟨(some 6), (Op.load 3 (Operand.tmp 5)), none⟩,
  ⟨(some 7), (Op.load 3 (Operand.tmp 1)), none⟩,
  ⟨(some 8), (Op.binOp BinOp.eql 3 (Operand.tmp 6) (Operand.tmp 7) 3), none⟩,
  ⟨(some 9), (Op.move (Operand.tmp 8)), none⟩,
  ⟨(some 10), (Op.fieldAddr 75 (Operand.tmp 3) 1), (some (9, true))⟩,
  ⟨(some 11), (Op.load 3 (Operand.tmp 10)), (some (9, true))⟩,
  ⟨(some 12), (Op.load 3 (Operand.tmp 2)), (some (9, true))⟩,
  ⟨(some 13), (Op.binOp BinOp.eql 3 (Operand.tmp 11) (Operand.tmp 12) 3), (some (9, true))⟩,
  ⟨(some 14), (Op.pick (Operand.tmp 9) (Operand.tmp 13) (Operand.const (Value.bool false))), none⟩,
  ⟨(some 4), (Op.assign (Operand.tmp 14)), none⟩]
def c84 : PC := (.seq (.reg r84_0) (.seq (.reg r84_1) .ret))
def i84 : FnI := ⟨15, [(ResultVar.tmp 4)], c84, 0, [[0, 0, 0], [0], [0]], [[0]], false⟩
def tys : List (Nat × TyI) := [(3, ⟨1, 8, false, [.int .i64 0], [0], 0, [], .int .i64, false⟩),
  (4, ⟨1, 1, false, [.bool false], [0], 0, [], .bool, false⟩),
  (22, ⟨1, 24, false, [.nil], [1], 38, [], .other, false⟩),
  (24, ⟨2, 32, true, [.int .i64 0, .nil], [0, 1], 0, [(0, 1, false), (1, 1, false)], .other, false⟩),
  (27, ⟨2, 32, true, [.int .i64 0, .nil], [0, 1], 0, [(0, 1, false), (1, 1, false)], .other, false⟩),
  (37, ⟨1, 24, false, [.nil], [3], 77, [], .other, false⟩),
  (38, ⟨1, 24, false, [.nil], [1], 3, [], .other, false⟩),
  (42, ⟨1, 24, false, [.nil], [3], 75, [], .other, false⟩),
  (75, ⟨3, 24, true, [.int .i64 0, .int .i64 0, .int .i64 0], [0, 0, 0], 0, [(0, 1, false), (1, 1, false), (2, 1, false)], .other, false⟩),
  (77, ⟨3, 24, true, [.int .i64 0, .int .i64 0, .int .i64 0], [0, 0, 0], 0, [(0, 1, false), (1, 1, false), (2, 1, false)], .other, false⟩)]
def fns : List (Nat × FnI) := [(7, i7), (12, i12), (13, i13), (14, i14), (15, i15), (16, i16), (25, i25), (26, i26), (27, i27), (28, i28), (29, i29), (30, i30), (31, i31), (44, i44), (45, i45), (46, i46), (47, i47), (48, i48), (49, i49), (50, i50), (51, i51), (52, i52), (53, i53), (54, i54), (59, i59), (60, i60), (61, i61), (62, i62), (63, i63), (64, i64), (65, i65), (66, i66), (67, i67), (76, i76), (77, i77), (78, i78), (80, i80), (81, i81), (82, i82), (83, i83), (84, i84)]
def T : Tab := mkTab tys fns
@[simp] theorem ty3 : T.ty 3 = some ⟨1, 8, false, [.int .i64 0], [0], 0, [], .int .i64, false⟩ := rfl
@[simp] theorem base3 : T.baseOf 3 = Bs.int .i64 := rfl
@[simp] theorem ty4 : T.ty 4 = some ⟨1, 1, false, [.bool false], [0], 0, [], .bool, false⟩ := rfl
@[simp] theorem base4 : T.baseOf 4 = Bs.bool := rfl
@[simp] theorem ty22 : T.ty 22 = some ⟨1, 24, false, [.nil], [1], 38, [], .other, false⟩ := rfl
@[simp] theorem base22 : T.baseOf 22 = Bs.other := rfl
@[simp] theorem elem22 : T.elemOf 22 = some ⟨1, 24, false, [.nil], [1], 3, [], .other, false⟩ := rfl
@[simp] theorem ty24 : T.ty 24 = some ⟨2, 32, true, [.int .i64 0, .nil], [0, 1], 0, [(0, 1, false), (1, 1, false)], .other, false⟩ := rfl
@[simp] theorem base24 : T.baseOf 24 = Bs.other := rfl
@[simp] theorem ty27 : T.ty 27 = some ⟨2, 32, true, [.int .i64 0, .nil], [0, 1], 0, [(0, 1, false), (1, 1, false)], .other, false⟩ := rfl
@[simp] theorem base27 : T.baseOf 27 = Bs.other := rfl
@[simp] theorem ty37 : T.ty 37 = some ⟨1, 24, false, [.nil], [3], 77, [], .other, false⟩ := rfl
@[simp] theorem base37 : T.baseOf 37 = Bs.other := rfl
@[simp] theorem elem37 : T.elemOf 37 = some ⟨3, 24, true, [.int .i64 0, .int .i64 0, .int .i64 0], [0, 0, 0], 0, [(0, 1, false), (1, 1, false), (2, 1, false)], .other, false⟩ := rfl
@[simp] theorem ty38 : T.ty 38 = some ⟨1, 24, false, [.nil], [1], 3, [], .other, false⟩ := rfl
@[simp] theorem base38 : T.baseOf 38 = Bs.other := rfl
@[simp] theorem elem38 : T.elemOf 38 = some ⟨1, 8, false, [.int .i64 0], [0], 0, [], .int .i64, false⟩ := rfl
@[simp] theorem ty42 : T.ty 42 = some ⟨1, 24, false, [.nil], [3], 75, [], .other, false⟩ := rfl
@[simp] theorem base42 : T.baseOf 42 = Bs.other := rfl
@[simp] theorem elem42 : T.elemOf 42 = some ⟨3, 24, true, [.int .i64 0, .int .i64 0, .int .i64 0], [0, 0, 0], 0, [(0, 1, false), (1, 1, false), (2, 1, false)], .other, false⟩ := rfl
@[simp] theorem ty75 : T.ty 75 = some ⟨3, 24, true, [.int .i64 0, .int .i64 0, .int .i64 0], [0, 0, 0], 0, [(0, 1, false), (1, 1, false), (2, 1, false)], .other, false⟩ := rfl
@[simp] theorem base75 : T.baseOf 75 = Bs.other := rfl
@[simp] theorem ty77 : T.ty 77 = some ⟨3, 24, true, [.int .i64 0, .int .i64 0, .int .i64 0], [0, 0, 0], 0, [(0, 1, false), (1, 1, false), (2, 1, false)], .other, false⟩ := rfl
@[simp] theorem base77 : T.baseOf 77 = Bs.other := rfl
theorem ok7 : FnOk Try.prog (7, i7) := ⟨Try.f7, _, Try.func7, rfl, by kernel_rfl, rfl, rfl, by kernel_rfl⟩
theorem ok12 : FnOk Try.prog (12, i12) := ⟨Try.f12, _, Try.func12, rfl, by kernel_rfl, rfl, rfl, by kernel_rfl⟩
theorem ok13 : FnOk Try.prog (13, i13) := ⟨Try.f13, _, Try.func13, rfl, by kernel_rfl, rfl, rfl, by kernel_rfl⟩
theorem ok14 : FnOk Try.prog (14, i14) := ⟨Try.f14, _, Try.func14, rfl, by kernel_rfl, rfl, rfl, by kernel_rfl⟩
theorem ok15 : FnOk Try.prog (15, i15) := ⟨Try.f15, _, Try.func15, rfl, by kernel_rfl, rfl, rfl, by kernel_rfl⟩
theorem ok16 : FnOk Try.prog (16, i16) := ⟨Try.f16, _, Try.func16, rfl, by kernel_rfl, rfl, rfl, by kernel_rfl⟩
theorem ok25 : FnOk Try.prog (25, i25) := ⟨Try.f25, _, Try.func25, rfl, by kernel_rfl, rfl, rfl, by kernel_rfl⟩
theorem ok26 : FnOk Try.prog (26, i26) := ⟨Try.f26, _, Try.func26, rfl, by kernel_rfl, rfl, rfl, by kernel_rfl⟩
theorem ok27 : FnOk Try.prog (27, i27) := ⟨Try.f27, _, Try.func27, rfl, by kernel_rfl, rfl, rfl, by kernel_rfl⟩
theorem ok28 : FnOk Try.prog (28, i28) := ⟨Try.f28, _, Try.func28, rfl, by kernel_rfl, rfl, rfl, by kernel_rfl⟩
theorem ok29 : FnOk Try.prog (29, i29) := ⟨Try.f29, _, Try.func29, rfl, by kernel_rfl, rfl, rfl, by kernel_rfl⟩
theorem ok30 : FnOk Try.prog (30, i30) := ⟨Try.f30, _, Try.func30, rfl, by kernel_rfl, rfl, rfl, by kernel_rfl⟩
theorem ok31 : FnOk Try.prog (31, i31) := ⟨Try.f31, _, Try.func31, rfl, by kernel_rfl, rfl, rfl, by kernel_rfl⟩
theorem ok44 : FnOk Try.prog (44, i44) := ⟨Try.f44, _, Try.func44, rfl, by kernel_rfl, rfl, rfl, by kernel_rfl⟩
theorem ok45 : FnOk Try.prog (45, i45) := ⟨Try.f45, _, Try.func45, rfl, by kernel_rfl, rfl, rfl, by kernel_rfl⟩
theorem ok46 : FnOk Try.prog (46, i46) := ⟨Try.f46, _, Try.func46, rfl, by kernel_rfl, rfl, rfl, by kernel_rfl⟩
theorem ok47 : FnOk Try.prog (47, i47) := ⟨Try.f47, _, Try.func47, rfl, by kernel_rfl, rfl, rfl, by kernel_rfl⟩
theorem ok48 : FnOk Try.prog (48, i48) := ⟨Try.f48, _, Try.func48, rfl, by kernel_rfl, rfl, rfl, by kernel_rfl⟩
theorem ok49 : FnOk Try.prog (49, i49) := ⟨Try.f49, _, Try.func49, rfl, by kernel_rfl, rfl, rfl, by kernel_rfl⟩
theorem ok50 : FnOk Try.prog (50, i50) := ⟨Try.f50, _, Try.func50, rfl, by kernel_rfl, rfl, rfl, by kernel_rfl⟩
theorem ok51 : FnOk Try.prog (51, i51) := ⟨Try.f51, _, Try.func51, rfl, by kernel_rfl, rfl, rfl, by kernel_rfl⟩
theorem ok52 : FnOk Try.prog (52, i52) := ⟨Try.f52, _, Try.func52, rfl, by kernel_rfl, rfl, rfl, by kernel_rfl⟩
theorem ok53 : FnOk Try.prog (53, i53) := ⟨Try.f53, _, Try.func53, rfl, by kernel_rfl, rfl, rfl, by kernel_rfl⟩
theorem ok54 : FnOk Try.prog (54, i54) := ⟨Try.f54, _, Try.func54, rfl, by kernel_rfl, rfl, rfl, by kernel_rfl⟩
theorem ok59 : FnOk Try.prog (59, i59) := ⟨Try.f59, _, Try.func59, rfl, by kernel_rfl, rfl, rfl, by kernel_rfl⟩
theorem ok60 : FnOk Try.prog (60, i60) := ⟨Try.f60, _, Try.func60, rfl, by kernel_rfl, rfl, rfl, by kernel_rfl⟩
theorem ok61 : FnOk Try.prog (61, i61) := ⟨Try.f61, _, Try.func61, rfl, by kernel_rfl, rfl, rfl, by kernel_rfl⟩
theorem ok62 : FnOk Try.prog (62, i62) := ⟨Try.f62, _, Try.func62, rfl, by kernel_rfl, rfl, rfl, by kernel_rfl⟩
theorem ok63 : FnOk Try.prog (63, i63) := ⟨Try.f63, _, Try.func63, rfl, by kernel_rfl, rfl, rfl, by kernel_rfl⟩
theorem ok64 : FnOk Try.prog (64, i64) := ⟨Try.f64, _, Try.func64, rfl, by kernel_rfl, rfl, rfl, by kernel_rfl⟩
theorem ok65 : FnOk Try.prog (65, i65) := ⟨Try.f65, _, Try.func65, rfl, by kernel_rfl, rfl, rfl, by kernel_rfl⟩
theorem ok66 : FnOk Try.prog (66, i66) := ⟨Try.f66, _, Try.func66, rfl, by kernel_rfl, rfl, rfl, by kernel_rfl⟩
theorem ok67 : FnOk Try.prog (67, i67) := ⟨Try.f67, _, Try.func67, rfl, by kernel_rfl, rfl, rfl, by kernel_rfl⟩
theorem ok76 : FnOk Try.prog (76, i76) := ⟨Try.f76, _, Try.func76, rfl, by kernel_rfl, rfl, rfl, by kernel_rfl⟩
theorem ok77 : FnOk Try.prog (77, i77) := ⟨Try.f77, _, Try.func77, rfl, by kernel_rfl, rfl, rfl, by kernel_rfl⟩
theorem ok78 : FnOk Try.prog (78, i78) := ⟨Try.f78, _, Try.func78, rfl, by kernel_rfl, rfl, rfl, by kernel_rfl⟩
theorem ok80 : FnOk Try.prog (80, i80) := ⟨Try.f80, _, Try.func80, rfl, by kernel_rfl, rfl, rfl, by kernel_rfl⟩
theorem ok81 : FnOk Try.prog (81, i81) := ⟨Try.f81, _, Try.func81, rfl, by kernel_rfl, rfl, rfl, by kernel_rfl⟩
theorem ok82 : FnOk Try.prog (82, i82) := ⟨Try.f82, _, Try.func82, rfl, by kernel_rfl, rfl, rfl, by kernel_rfl⟩
theorem ok83 : FnOk Try.prog (83, i83) := ⟨Try.f83, _, Try.func83, rfl, by kernel_rfl, rfl, rfl, by kernel_rfl⟩
theorem ok84 : FnOk Try.prog (84, i84) := ⟨Try.f84, _, Try.func84, rfl, by kernel_rfl, rfl, rfl, by kernel_rfl⟩
theorem tab : TabOk Try.prog T := tabOk_of (by kernel_rfl) (.cons ok7 (.cons ok12 (.cons ok13 (.cons ok14 (.cons ok15 (.cons ok16 (.cons ok25 (.cons ok26 (.cons ok27 (.cons ok28 (.cons ok29 (.cons ok30 (.cons ok31 (.cons ok44 (.cons ok45 (.cons ok46 (.cons ok47 (.cons ok48 (.cons ok49 (.cons ok50 (.cons ok51 (.cons ok52 (.cons ok53 (.cons ok54 (.cons ok59 (.cons ok60 (.cons ok61 (.cons ok62 (.cons ok63 (.cons ok64 (.cons ok65 (.cons ok66 (.cons ok67 (.cons ok76 (.cons ok77 (.cons ok78 (.cons ok80 (.cons ok81 (.cons ok82 (.cons ok83 (.cons ok84 (.nil))))))))))))))))))))))))))))))))))))))))))
theorem fn7 : T.fn 7 = some i7 := rfl
theorem fn12 : T.fn 12 = some i12 := rfl
theorem fn13 : T.fn 13 = some i13 := rfl
theorem fn14 : T.fn 14 = some i14 := rfl
theorem fn15 : T.fn 15 = some i15 := rfl
theorem fn16 : T.fn 16 = some i16 := rfl
theorem fn25 : T.fn 25 = some i25 := rfl
theorem fn26 : T.fn 26 = some i26 := rfl
theorem fn27 : T.fn 27 = some i27 := rfl
theorem fn28 : T.fn 28 = some i28 := rfl
theorem fn29 : T.fn 29 = some i29 := rfl
theorem fn30 : T.fn 30 = some i30 := rfl
theorem fn31 : T.fn 31 = some i31 := rfl
theorem fn44 : T.fn 44 = some i44 := rfl
theorem fn45 : T.fn 45 = some i45 := rfl
theorem fn46 : T.fn 46 = some i46 := rfl
theorem fn47 : T.fn 47 = some i47 := rfl
theorem fn48 : T.fn 48 = some i48 := rfl
theorem fn49 : T.fn 49 = some i49 := rfl
theorem fn50 : T.fn 50 = some i50 := rfl
theorem fn51 : T.fn 51 = some i51 := rfl
theorem fn52 : T.fn 52 = some i52 := rfl
theorem fn53 : T.fn 53 = some i53 := rfl
theorem fn54 : T.fn 54 = some i54 := rfl
theorem fn59 : T.fn 59 = some i59 := rfl
theorem fn60 : T.fn 60 = some i60 := rfl
theorem fn61 : T.fn 61 = some i61 := rfl
theorem fn62 : T.fn 62 = some i62 := rfl
theorem fn63 : T.fn 63 = some i63 := rfl
theorem fn64 : T.fn 64 = some i64 := rfl
theorem fn65 : T.fn 65 = some i65 := rfl
theorem fn66 : T.fn 66 = some i66 := rfl
theorem fn67 : T.fn 67 = some i67 := rfl
theorem fn76 : T.fn 76 = some i76 := rfl
theorem fn77 : T.fn 77 = some i77 := rfl
theorem fn78 : T.fn 78 = some i78 := rfl
theorem fn80 : T.fn 80 = some i80 := rfl
theorem fn81 : T.fn 81 = some i81 := rfl
theorem fn82 : T.fn 82 = some i82 := rfl
theorem fn83 : T.fn 83 = some i83 := rfl
theorem fn84 : T.fn 84 = some i84 := rfl

end Go.Pi.Ytbohlpligkfkiaa.WeightOf
