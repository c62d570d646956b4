/- What functions of the program answer, and that the law answers true at every input; no condition -/
import Derived.Test.YtbohlpligkfkiaaProg
import Derived.Test.YtbohlpligkfkiaaPiC
set_option linter.all false
/- The program's tables for Pi: types and functions, as they stand in the loaded program. -/
namespace Go.Pi.Ytbohlpligkfkiaa.IsIsotone
open Go Go.Proofs Go.Pi
set_option maxRecDepth 100000

-- loop.example/g00344/laws.FnExactIsIsotone
def r5_0 : List PO := [⟨(some 1), (Op.box 24 (Operand.tmp 0)), none⟩,
  ⟨(some 2), (Op.assign (Operand.const (Value.bool false))), none⟩]
def r5_1 : List PO := [⟨(some 3), (Op.assign (Operand.const (Value.int IntKind.i64 1048576))), none⟩]
def r5_2 : List PO := [⟨(some 9), (Op.load 24 (Operand.tmp 1)), none⟩,
  ⟨(some 10), (Op.move (Operand.tmp 3)), none⟩,
  ⟨(some 11), (Op.call { callee := (Callee.value (Operand.func 12)), args := #[(Operand.tmp 9), (Operand.tmp 10)], argTypes := #[24, 3] }), none⟩,
  ⟨(some 3), (Op.assign (Operand.tmp 11)), none⟩]
def r5_3 : List PO := [⟨(some 12), (Op.move (Operand.tmp 3)), none⟩,
  ⟨(some 13), (Op.binOp BinOp.lss 3 (Operand.tmp 12) (Operand.const (Value.int IntKind.i64 0)) 3), none⟩]
def r5_4 : List PO := [⟨(some 2), (Op.assign (Operand.const (Value.bool true))), none⟩]
def r5_5 : List PO := [⟨(some 15), (Op.load 24 (Operand.tmp 1)), none⟩,
  ⟨(some 16), (Op.call { callee := (Callee.value (Operand.func 14)), args := #[(Operand.tmp 15)], argTypes := #[24] }), none⟩,
  ⟨(some 17), (Op.call { callee := (Callee.value (Operand.func 19)), args := #[(Operand.tmp 16)], argTypes := #[27] }), none⟩,
  ⟨(some 14), (Op.move (Operand.tmp 17)), none⟩,
  ⟨(some 18), (Op.extract (Operand.tmp 14) 0), none⟩,
  ⟨(some 19), (Op.extract (Operand.tmp 14) 1), none⟩,
  ⟨(some 4), (Op.assign (Operand.tmp 18)), none⟩,
  ⟨(some 5), (Op.assign (Operand.tmp 19)), none⟩]
def r5_6 : List PO := [⟨(some 20), (Op.load 24 (Operand.tmp 1)), none⟩,
  ⟨(some 21), (Op.call { callee := (Callee.value (Operand.func 14)), args := #[(Operand.tmp 20)], argTypes := #[24] }), none⟩,
  ⟨(some 6), (Op.alloc 27), none⟩,
  ⟨none, (Op.store 27 (Operand.tmp 6) (Operand.tmp 21)), none⟩]
def r5_7 : List PO := [⟨(some 23), (Op.load 27 (Operand.tmp 6)), none⟩,
  ⟨(some 24), (Op.call { callee := (Callee.value (Operand.func 20)), args := #[(Operand.tmp 23)], argTypes := #[27] }), none⟩,
  ⟨(some 22), (Op.move (Operand.tmp 24)), none⟩,
  ⟨(some 25), (Op.extract (Operand.tmp 22) 0), none⟩,
  ⟨(some 26), (Op.extract (Operand.tmp 22) 1), none⟩,
  ⟨(some 7), (Op.assign (Operand.tmp 25)), none⟩,
  ⟨(some 8), (Op.assign (Operand.tmp 26)), none⟩]
def r5_8 : List PO := [⟨(some 27), (Op.move (Operand.tmp 7)), none⟩,
  ⟨(some 28), (Op.move (Operand.tmp 4)), none⟩,
  ⟨(some 29), (Op.binOp BinOp.neq 4 (Operand.tmp 27) (Operand.tmp 28) 4), none⟩,
  ⟨(some 30), (Op.move (Operand.tmp 29)), none⟩,
  ⟨(some 31), (Op.move (Operand.tmp 8)), (some (30, false))⟩,
  ⟨(some 32), (Op.move (Operand.tmp 5)), (some (30, false))⟩,
  ⟨(some 33), (Op.binOp BinOp.neq 4 (Operand.tmp 31) (Operand.tmp 32) 4), (some (30, false))⟩,
  ⟨(some 34), (Op.pick (Operand.tmp 30) (Operand.const (Value.bool true)) (Operand.tmp 33)), none⟩]
def r5_9 : List PO := [⟨(some 2), (Op.assign (Operand.const (Value.bool false))), none⟩]
def r5_10 : List PO := [⟨(some 35), (Op.load 27 (Operand.tmp 6)), none⟩,
  ⟨(some 36), (Op.load 24 (Operand.tmp 1)), none⟩,
  ⟨(some 37), (Op.call { callee := (Callee.value (Operand.func 14)), args := #[(Operand.tmp 36)], argTypes := #[24] }), none⟩,
  ⟨(some 38), (Op.call { callee := (Callee.value (Operand.func 16)), args := #[(Operand.tmp 35), (Operand.tmp 37)], argTypes := #[27, 27] }), none⟩,
  ⟨(some 39), (Op.unOp UnOp.not 4 (Operand.tmp 38)), none⟩]
def r5_11 : List PO := [⟨(some 2), (Op.assign (Operand.const (Value.bool false))), none⟩]
def r5_12 : List PO := [⟨(some 2), (Op.assign (Operand.const (Value.bool true))), none⟩]
def c5 : PC := (.seq (.reg r5_0) (.seq (.reg r5_1) (.seq (.reg r5_2) (.seq (.seq (.reg r5_3) (.cond (Operand.tmp 13) (.seq (.reg r5_4) .ret) .skip)) (.seq (.reg r5_5) (.seq (.reg r5_6) (.seq (.reg r5_7) (.seq (.seq (.reg r5_8) (.cond (Operand.tmp 34) (.seq (.reg r5_9) .ret) .skip)) (.seq (.seq (.fz r5_10) (.cond (Operand.tmp 39) (.seq (.reg r5_11) .ret) .skip)) (.seq (.reg r5_12) .ret))))))))))
def i5 : FnI := ⟨40, [(ResultVar.tmp 2)], c5, 0, [[0, 1]], [[0]], false⟩
-- loop.example/g00344/laws.szAlgebra
def r12_0 : List PO := [⟨(some 2), (Op.box 24 (Operand.tmp 0)), none⟩,
  ⟨(some 4), (Op.assign (Operand.const (Value.int IntKind.i64 0))), none⟩]
def r12_1 : List PO := [⟨(some 5), (Op.fieldAddr 24 (Operand.tmp 2) 1), none⟩,
  ⟨(some 6), (Op.load 22 (Operand.tmp 5)), none⟩,
  ⟨(some 7), (Op.move (Operand.tmp 1)), none⟩,
  ⟨(some 8), (Op.call { callee := (Callee.value (Operand.func 44)), args := #[(Operand.tmp 6), (Operand.tmp 7)], argTypes := #[22, 3] }), none⟩,
  ⟨(some 1), (Op.assign (Operand.tmp 8)), none⟩]
def r12_2 : List PO := [⟨(some 9), (Op.move (Operand.tmp 1)), none⟩,
  ⟨(some 10), (Op.binOp BinOp.lss 3 (Operand.tmp 9) (Operand.const (Value.int IntKind.i64 0)) 3), none⟩]
def r12_3 : List PO := [⟨(some 4), (Op.assign (Operand.const (Value.int IntKind.i64 (-1)))), none⟩]
def r12_4 : List PO := [⟨(some 11), (Op.move (Operand.tmp 1)), none⟩,
  ⟨(some 4), (Op.assign (Operand.tmp 11)), none⟩]
def c12 : PC := (.seq (.reg r12_0) (.seq (.reg r12_1) (.seq (.seq (.reg r12_2) (.cond (Operand.tmp 10) (.seq (.reg r12_3) .ret) .skip)) (.seq (.reg r12_4) .ret))))
def i12 : FnI := ⟨12, [(ResultVar.tmp 4)], c12, 0, [[0, 1], [0]], [[0]], false⟩
-- loop.example/g00344/spec.GoodAlgebra
def r13_0 : List PO := [⟨(some 1), (Op.box 27 (Operand.tmp 0)), none⟩,
  ⟨(some 2), (Op.assign (Operand.const (Value.bool false))), none⟩]
def r13_1 : List PO := [⟨(some 5), (Op.fieldAddr 27 (Operand.tmp 1) 0), none⟩,
  ⟨(some 6), (Op.load 3 (Operand.tmp 5)), none⟩,
  ⟨(some 7), (Op.call { callee := (Callee.value (Operand.func 45)), args := #[(Operand.tmp 6), (Operand.const (Value.int IntKind.i64 2)), (Operand.const (Value.int IntKind.i64 12))], argTypes := #[3, 3, 3] }), none⟩,
  ⟨(some 8), (Op.unOp UnOp.not 4 (Operand.tmp 7)), none⟩,
  ⟨(some 9), (Op.move (Operand.tmp 8)), none⟩,
  ⟨(some 10), (Op.fieldAddr 27 (Operand.tmp 1) 1), (some (9, false))⟩,
  ⟨(some 11), (Op.load 22 (Operand.tmp 10)), (some (9, false))⟩,
  ⟨(some 12), (Op.call { callee := (Callee.builtin Builtin.len), args := #[(Operand.tmp 11)], argTypes := #[22] }), (some (9, false))⟩,
  ⟨(some 13), (Op.call { callee := (Callee.value (Operand.func 45)), args := #[(Operand.tmp 12), (Operand.const (Value.int IntKind.i64 1)), (Operand.const (Value.int IntKind.i64 4))], argTypes := #[3, 3, 3] }), (some (9, false))⟩,
  ⟨(some 14), (Op.unOp UnOp.not 4 (Operand.tmp 13)), (some (9, false))⟩,
  ⟨(some 15), (Op.pick (Operand.tmp 9) (Operand.const (Value.bool true)) (Operand.tmp 14)), none⟩]
def r13_2 : List PO := [⟨(some 2), (Op.assign (Operand.const (Value.bool false))), none⟩]
def r13_3 : List PO := [⟨(some 16), (Op.fieldAddr 27 (Operand.tmp 1) 1), none⟩,
  ⟨(some 17), (Op.load 22 (Operand.tmp 16)), none⟩,
  ⟨(some 18), (Op.call { callee := (Callee.builtin Builtin.len), args := #[(Operand.tmp 17)], argTypes := #[22] }), none⟩,
  ⟨(some 19), (Op.move (Operand.const (Value.int IntKind.i64 0))), none⟩]
def r13_4 : List PO := [⟨(some 20), (Op.binOp BinOp.lss 3 (Operand.tmp 19) (Operand.tmp 18) 3), none⟩]
def r13_5 : List PO := [⟨(some 21), (Op.indexAddr 22 (Operand.tmp 17) (Operand.tmp 19)), none⟩,
  ⟨(some 22), (Op.load 38 (Operand.tmp 21)), none⟩,
  ⟨(some 4), (Op.assign (Operand.tmp 22)), none⟩]
def r13_6 : List PO := [⟨(some 23), (Op.move (Operand.tmp 4)), none⟩,
  ⟨(some 24), (Op.fieldAddr 27 (Operand.tmp 1) 0), none⟩,
  ⟨(some 25), (Op.load 3 (Operand.tmp 24)), none⟩,
  ⟨(some 26), (Op.call { callee := (Callee.value (Operand.func 46)), args := #[(Operand.tmp 23), (Operand.tmp 25)], argTypes := #[38, 3] }), none⟩,
  ⟨(some 27), (Op.unOp UnOp.not 4 (Operand.tmp 26)), none⟩]
def r13_7 : List PO := [⟨(some 2), (Op.assign (Operand.const (Value.bool false))), none⟩]
def r13_8 : List PO := [⟨(some 28), (Op.binOp BinOp.add 3 (Operand.tmp 19) (Operand.const (Value.int IntKind.i64 1)) 3), none⟩,
  ⟨(some 19), (Op.move (Operand.tmp 28)), none⟩]
def l13_0 : PC := (.seq (.reg r13_4) (.seq (.cond (Operand.tmp 20) .skip (.exit 0)) (.seq (.block 1 (.seq (.reg r13_5) (.seq (.reg r13_6) (.cond (Operand.tmp 27) (.seq (.reg r13_7) .ret) .skip)))) (.reg r13_8))))
def r13_9 : List PO := [⟨(some 2), (Op.assign (Operand.const (Value.bool true))), none⟩]
def c13 : PC := (.seq (.reg r13_0) (.seq (.seq (.reg r13_1) (.cond (Operand.tmp 15) (.seq (.reg r13_2) .ret) .skip)) (.seq (.seq (.reg r13_3) (.block 0 (.loop l13_0))) (.seq (.reg r13_9) .ret))))
def i13 : FnI := ⟨29, [(ResultVar.tmp 2)], c13, 0, [[0, 1]], [[0]], false⟩
-- loop.example/g00344/laws.toAlgebra
def r14_0 : List PO := [⟨(some 1), (Op.box 24 (Operand.tmp 0)), none⟩,
  ⟨(some 2), (Op.alloc 27), none⟩]
def r14_1 : List PO := [⟨(some 3), (Op.alloc 27), none⟩]
def r14_2 : List PO := [⟨(some 4), (Op.fieldAddr 24 (Operand.tmp 1) 0), none⟩,
  ⟨(some 5), (Op.load 3 (Operand.tmp 4)), none⟩,
  ⟨(some 6), (Op.fieldAddr 27 (Operand.tmp 3) 0), none⟩,
  ⟨none, (Op.store 3 (Operand.tmp 6) (Operand.tmp 5)), none⟩]
def r14_3 : List PO := [⟨(some 7), (Op.fieldAddr 24 (Operand.tmp 1) 1), none⟩,
  ⟨(some 8), (Op.load 22 (Operand.tmp 7)), none⟩,
  ⟨(some 9), (Op.call { callee := (Callee.value (Operand.func 47)), args := #[(Operand.tmp 8)], argTypes := #[22] }), none⟩,
  ⟨(some 10), (Op.fieldAddr 27 (Operand.tmp 3) 1), none⟩,
  ⟨none, (Op.store 22 (Operand.tmp 10) (Operand.tmp 9)), none⟩]
def r14_4 : List PO := [⟨(some 11), (Op.load 27 (Operand.tmp 3)), none⟩,
  ⟨none, (Op.store 27 (Operand.tmp 2) (Operand.tmp 11)), none⟩]
def c14 : PC := (.seq (.reg r14_0) (.seq (.reg r14_1) (.seq (.reg r14_2) (.seq (.reg r14_3) (.seq (.reg r14_4) .ret)))))
def i14 : FnI := ⟨12, [(ResultVar.cell 2 27)], c14, 0, [[0, 1]], [[0, 1]], false⟩
-- loop.example/g00344/impl.GoodAlgebra
def r15_0 : List PO := [⟨(some 1), (Op.box 27 (Operand.tmp 0)), none⟩,
  ⟨(some 2), (Op.assign (Operand.const (Value.bool false))), none⟩]
def r15_1 : List PO := [⟨(some 3), (Op.fieldAddr 27 (Operand.tmp 1) 0), none⟩,
  ⟨(some 4), (Op.load 3 (Operand.tmp 3)), none⟩,
  ⟨(some 5), (Op.call { callee := (Callee.value (Operand.func 48)), args := #[(Operand.tmp 4), (Operand.const (Value.int IntKind.i64 2)), (Operand.const (Value.int IntKind.i64 12))], argTypes := #[3, 3, 3] }), none⟩,
  ⟨(some 6), (Op.unOp UnOp.not 4 (Operand.tmp 5)), none⟩,
  ⟨(some 7), (Op.move (Operand.tmp 6)), none⟩,
  ⟨(some 8), (Op.fieldAddr 27 (Operand.tmp 1) 1), (some (7, false))⟩,
  ⟨(some 9), (Op.load 22 (Operand.tmp 8)), (some (7, false))⟩,
  ⟨(some 10), (Op.call { callee := (Callee.builtin Builtin.len), args := #[(Operand.tmp 9)], argTypes := #[22] }), (some (7, false))⟩,
  ⟨(some 11), (Op.call { callee := (Callee.value (Operand.func 48)), args := #[(Operand.tmp 10), (Operand.const (Value.int IntKind.i64 1)), (Operand.const (Value.int IntKind.i64 4))], argTypes := #[3, 3, 3] }), (some (7, false))⟩,
  ⟨(some 12), (Op.unOp UnOp.not 4 (Operand.tmp 11)), (some (7, false))⟩,
  ⟨(some 13), (Op.pick (Operand.tmp 7) (Operand.const (Value.bool true)) (Operand.tmp 12)), none⟩]
def r15_2 : List PO := [⟨(some 2), (Op.assign (Operand.const (Value.bool false))), none⟩]
def r15_3 : List PO := [⟨(some 14), (Op.fieldAddr 27 (Operand.tmp 1) 1), none⟩,
  ⟨(some 15), (Op.load 22 (Operand.tmp 14)), none⟩,
  ⟨(some 16), (Op.makeFunc (Fn.func 50) #[] #[(Operand.tmp 1)]), none⟩,
  ⟨(some 17), (Op.call { callee := (Callee.value (Operand.func 49)), args := #[(Operand.tmp 15), (Operand.tmp 16)], argTypes := #[22, 70] }), none⟩,
  ⟨(some 18), (Op.unOp UnOp.not 4 (Operand.tmp 17)), none⟩,
  ⟨(some 2), (Op.assign (Operand.tmp 18)), none⟩]
def c15 : PC := (.seq (.reg r15_0) (.seq (.seq (.reg r15_1) (.cond (Operand.tmp 13) (.seq (.reg r15_2) .ret) .skip)) (.seq (.reg r15_3) .ret)))
def i15 : FnI := ⟨19, [(ResultVar.tmp 2)], c15, 0, [[0, 1]], [[0]], false⟩
-- loop.example/g00344/laws.eqAlgebra
def r16_0 : List PO := [⟨(some 2), (Op.box 27 (Operand.tmp 0)), none⟩,
  ⟨(some 3), (Op.box 27 (Operand.tmp 1)), none⟩,
  ⟨(some 4), (Op.assign (Operand.const (Value.bool false))), none⟩]
def r16_1 : List PO := [⟨(some 5), (Op.fieldAddr 27 (Operand.tmp 2) 0), none⟩,
  ⟨(some 6), (Op.load 3 (Operand.tmp 5)), none⟩,
  ⟨(some 7), (Op.fieldAddr 27 (Operand.tmp 3) 0), none⟩,
  ⟨(some 8), (Op.load 3 (Operand.tmp 7)), none⟩,
  ⟨(some 9), (Op.binOp BinOp.neq 3 (Operand.tmp 6) (Operand.tmp 8) 3), none⟩]
def r16_2 : List PO := [⟨(some 4), (Op.assign (Operand.const (Value.bool false))), none⟩]
def r16_3 : List PO := [⟨(some 10), (Op.fieldAddr 27 (Operand.tmp 2) 1), none⟩,
  ⟨(some 11), (Op.load 22 (Operand.tmp 10)), none⟩,
  ⟨(some 12), (Op.fieldAddr 27 (Operand.tmp 3) 1), none⟩,
  ⟨(some 13), (Op.load 22 (Operand.tmp 12)), none⟩,
  ⟨(some 14), (Op.call { callee := (Callee.value (Operand.func 54)), args := #[(Operand.tmp 11), (Operand.tmp 13)], argTypes := #[22, 22] }), none⟩,
  ⟨(some 15), (Op.unOp UnOp.not 4 (Operand.tmp 14)), none⟩]
def r16_4 : List PO := [⟨(some 4), (Op.assign (Operand.const (Value.bool false))), none⟩]
def r16_5 : List PO := [⟨(some 4), (Op.assign (Operand.const (Value.bool true))), none⟩]
def c16 : PC := (.seq (.reg r16_0) (.seq (.seq (.reg r16_1) (.cond (Operand.tmp 9) (.seq (.reg r16_2) .ret) .skip)) (.seq (.seq (.reg r16_3) (.cond (Operand.tmp 15) (.seq (.reg r16_4) .ret) .skip)) (.seq (.reg r16_5) .ret))))
def i16 : FnI := ⟨16, [(ResultVar.tmp 4)], c16, 0, [[0, 1], [0, 1]], [[0]], false⟩
-- loop.example/g00344/spec.IsIsotone
def r19_0 : List PO := [⟨(some 1), (Op.box 27 (Operand.tmp 0)), none⟩,
  ⟨(some 2), (Op.assign (Operand.const (Value.bool false))), none⟩,
  ⟨(some 3), (Op.assign (Operand.const (Value.bool false))), none⟩]
def r19_1 : List PO := [⟨(some 7), (Op.load 27 (Operand.tmp 1)), none⟩,
  ⟨(some 8), (Op.call { callee := (Callee.value (Operand.func 13)), args := #[(Operand.tmp 7)], argTypes := #[27] }), none⟩,
  ⟨(some 9), (Op.unOp UnOp.not 4 (Operand.tmp 8)), none⟩]
def r19_2 : List PO := [⟨(some 2), (Op.assign (Operand.const (Value.bool false))), none⟩,
  ⟨(some 3), (Op.assign (Operand.const (Value.bool false))), none⟩]
def r19_3 : List PO := [⟨(some 10), (Op.fieldAddr 27 (Operand.tmp 1) 1), none⟩,
  ⟨(some 11), (Op.load 22 (Operand.tmp 10)), none⟩,
  ⟨(some 12), (Op.call { callee := (Callee.builtin Builtin.len), args := #[(Operand.tmp 11)], argTypes := #[22] }), none⟩,
  ⟨(some 13), (Op.move (Operand.const (Value.int IntKind.i64 0))), none⟩]
def r19_4 : List PO := [⟨(some 14), (Op.binOp BinOp.lss 3 (Operand.tmp 13) (Operand.tmp 12) 3), none⟩]
def r19_5 : List PO := [⟨(some 15), (Op.indexAddr 22 (Operand.tmp 11) (Operand.tmp 13)), none⟩,
  ⟨(some 16), (Op.load 38 (Operand.tmp 15)), none⟩,
  ⟨(some 5), (Op.assign (Operand.tmp 16)), none⟩]
def r19_6 : List PO := [⟨(some 6), (Op.assign (Operand.const (Value.int IntKind.i64 1))), none⟩]
def r19_7 : List PO := [⟨(some 17), (Op.move (Operand.tmp 6)), none⟩,
  ⟨(some 18), (Op.move (Operand.tmp 5)), none⟩,
  ⟨(some 19), (Op.call { callee := (Callee.builtin Builtin.len), args := #[(Operand.tmp 18)], argTypes := #[38] }), none⟩,
  ⟨(some 20), (Op.binOp BinOp.lss 3 (Operand.tmp 17) (Operand.tmp 19) 3), none⟩]
def r19_9 : List PO := [⟨(some 23), (Op.move (Operand.tmp 5)), none⟩,
  ⟨(some 24), (Op.move (Operand.tmp 6)), none⟩,
  ⟨(some 25), (Op.binOp BinOp.sub 3 (Operand.tmp 24) (Operand.const (Value.int IntKind.i64 1)) 3), none⟩,
  ⟨(some 26), (Op.indexAddr 38 (Operand.tmp 23) (Operand.tmp 25)), none⟩,
  ⟨(some 27), (Op.load 3 (Operand.tmp 26)), none⟩,
  ⟨(some 28), (Op.move (Operand.tmp 5)), none⟩,
  ⟨(some 29), (Op.move (Operand.tmp 6)), none⟩,
  ⟨(some 30), (Op.indexAddr 38 (Operand.tmp 28) (Operand.tmp 29)), none⟩,
  ⟨(some 31), (Op.load 3 (Operand.tmp 30)), none⟩,
  ⟨(some 32), (Op.binOp BinOp.gtr 3 (Operand.tmp 27) (Operand.tmp 31) 3), none⟩]
def r19_10 : List PO := [⟨(some 2), (Op.assign (Operand.const (Value.bool false))), none⟩,
  ⟨(some 3), (Op.assign (Operand.const (Value.bool true))), none⟩]
def r19_8 : List PO := [⟨(some 21), (Op.move (Operand.tmp 6)), none⟩,
  ⟨(some 22), (Op.binOp BinOp.add 3 (Operand.tmp 21) (Operand.const (Value.int IntKind.i64 1)) 3), none⟩,
  ⟨(some 6), (Op.assign (Operand.tmp 22)), none⟩]
def l19_0 : PC := (.seq (.seq (.reg r19_7) (.cond (Operand.tmp 20) .skip (.exit 2))) (.seq (.block 3 (.seq (.fz r19_9) (.cond (Operand.tmp 32) (.seq (.reg r19_10) .ret) .skip))) (.reg r19_8)))
def r19_11 : List PO := [⟨(some 33), (Op.binOp BinOp.add 3 (Operand.tmp 13) (Operand.const (Value.int IntKind.i64 1)) 3), none⟩,
  ⟨(some 13), (Op.move (Operand.tmp 33)), none⟩]
def l19_1 : PC := (.seq (.reg r19_4) (.seq (.cond (Operand.tmp 14) .skip (.exit 0)) (.seq (.block 1 (.seq (.reg r19_5) (.seq (.reg r19_6) (.block 2 (.loop l19_0))))) (.reg r19_11))))
def r19_12 : List PO := [⟨(some 2), (Op.assign (Operand.const (Value.bool true))), none⟩,
  ⟨(some 3), (Op.assign (Operand.const (Value.bool true))), none⟩]
def c19 : PC := (.seq (.reg r19_0) (.seq (.seq (.reg r19_1) (.cond (Operand.tmp 9) (.seq (.reg r19_2) .ret) .skip)) (.seq (.seq (.reg r19_3) (.block 0 (.loop l19_1))) (.seq (.reg r19_12) .ret))))
def i19 : FnI := ⟨34, [(ResultVar.tmp 2), (ResultVar.tmp 3)], c19, 0, [[0, 1]], [[0], [0]], false⟩
-- loop.example/g00344/impl.IsIsotone
def r20_0 : List PO := [⟨(some 1), (Op.box 27 (Operand.tmp 0)), none⟩,
  ⟨(some 2), (Op.assign (Operand.const (Value.bool false))), none⟩,
  ⟨(some 3), (Op.assign (Operand.const (Value.bool false))), none⟩]
def r20_1 : List PO := [⟨(some 4), (Op.load 27 (Operand.tmp 1)), none⟩,
  ⟨(some 5), (Op.call { callee := (Callee.value (Operand.func 15)), args := #[(Operand.tmp 4)], argTypes := #[27] }), none⟩,
  ⟨(some 6), (Op.unOp UnOp.not 4 (Operand.tmp 5)), none⟩]
def r20_2 : List PO := [⟨(some 2), (Op.assign (Operand.const (Value.bool false))), none⟩,
  ⟨(some 3), (Op.assign (Operand.const (Value.bool false))), none⟩]
def r20_3 : List PO := [⟨(some 7), (Op.fieldAddr 27 (Operand.tmp 1) 1), none⟩,
  ⟨(some 8), (Op.load 22 (Operand.tmp 7)), none⟩,
  ⟨(some 9), (Op.call { callee := (Callee.value (Operand.func 49)), args := #[(Operand.tmp 8), (Operand.func 55)], argTypes := #[22, 70] }), none⟩,
  ⟨(some 10), (Op.unOp UnOp.not 4 (Operand.tmp 9)), none⟩,
  ⟨(some 2), (Op.assign (Operand.tmp 10)), none⟩,
  ⟨(some 3), (Op.assign (Operand.const (Value.bool true))), none⟩]
def c20 : PC := (.seq (.reg r20_0) (.seq (.seq (.reg r20_1) (.cond (Operand.tmp 6) (.seq (.reg r20_2) .ret) .skip)) (.seq (.reg r20_3) .ret)))
def i20 : FnI := ⟨11, [(ResultVar.tmp 2), (ResultVar.tmp 3)], c20, 0, [[0, 1]], [[0], [0]], false⟩
-- loop.example/g00344/laws.toIntS
def r28_0 : List PO := [⟨(some 2), (Op.assign (Operand.const (Value.slice none 0 0))), none⟩]
def r28_1 : List PO := [⟨(some 5), (Op.move (Operand.tmp 0)), none⟩,
  ⟨(some 6), (Op.call { callee := (Callee.builtin Builtin.len), args := #[(Operand.tmp 5)], argTypes := #[38] }), none⟩,
  ⟨(some 7), (Op.makeSlice 38 (Operand.tmp 6) (Operand.tmp 6)), none⟩,
  ⟨(some 3), (Op.assign (Operand.tmp 7)), none⟩]
def r28_2 : List PO := [⟨(some 4), (Op.assign (Operand.const (Value.int IntKind.i64 0))), none⟩]
def r28_3 : List PO := [⟨(some 8), (Op.move (Operand.tmp 4)), none⟩,
  ⟨(some 9), (Op.move (Operand.tmp 0)), none⟩,
  ⟨(some 10), (Op.call { callee := (Callee.builtin Builtin.len), args := #[(Operand.tmp 9)], argTypes := #[38] }), none⟩,
  ⟨(some 11), (Op.binOp BinOp.lss 3 (Operand.tmp 8) (Operand.tmp 10) 3), none⟩]
def r28_5 : List PO := [⟨(some 14), (Op.move (Operand.tmp 3)), none⟩,
  ⟨(some 15), (Op.move (Operand.tmp 4)), none⟩,
  ⟨(some 16), (Op.move (Operand.tmp 0)), none⟩,
  ⟨(some 17), (Op.move (Operand.tmp 4)), none⟩,
  ⟨(some 18), (Op.indexAddr 38 (Operand.tmp 16) (Operand.tmp 17)), none⟩,
  ⟨(some 19), (Op.load 3 (Operand.tmp 18)), none⟩,
  ⟨(some 20), (Op.indexAddr 38 (Operand.tmp 14) (Operand.tmp 15)), none⟩,
  ⟨none, (Op.store 3 (Operand.tmp 20) (Operand.tmp 19)), none⟩]
def r28_4 : List PO := [⟨(some 12), (Op.move (Operand.tmp 4)), none⟩,
  ⟨(some 13), (Op.binOp BinOp.add 3 (Operand.tmp 12) (Operand.const (Value.int IntKind.i64 1)) 3), none⟩,
  ⟨(some 4), (Op.assign (Operand.tmp 13)), none⟩]
def l28_0 : PC := (.seq (.seq (.reg r28_3) (.cond (Operand.tmp 11) .skip (.exit 0))) (.seq (.block 1 (.reg r28_5)) (.reg r28_4)))
def r28_6 : List PO := [⟨(some 21), (Op.move (Operand.tmp 3)), none⟩,
  ⟨(some 2), (Op.assign (Operand.tmp 21)), none⟩]
def c28 : PC := (.seq (.reg r28_0) (.seq (.reg r28_1) (.seq (.seq (.reg r28_2) (.block 0 (.loop l28_0))) (.seq (.reg r28_6) .ret))))
def i28 : FnI := ⟨22, [(ResultVar.tmp 2)], c28, 0, [[1]], [[1]], false⟩
-- loop.example/g00344/laws.eqIntS
def r31_0 : List PO := [⟨(some 4), (Op.assign (Operand.const (Value.bool false))), none⟩]
def r31_1 : List PO := [⟨(some 6), (Op.move (Operand.tmp 0)), none⟩,
  ⟨(some 7), (Op.call { callee := (Callee.builtin Builtin.len), args := #[(Operand.tmp 6)], argTypes := #[38] }), none⟩,
  ⟨(some 8), (Op.move (Operand.tmp 1)), none⟩,
  ⟨(some 9), (Op.call { callee := (Callee.builtin Builtin.len), args := #[(Operand.tmp 8)], argTypes := #[38] }), none⟩,
  ⟨(some 10), (Op.binOp BinOp.neq 3 (Operand.tmp 7) (Operand.tmp 9) 3), none⟩]
def r31_2 : List PO := [⟨(some 4), (Op.assign (Operand.const (Value.bool false))), none⟩]
def r31_3 : List PO := [⟨(some 5), (Op.assign (Operand.const (Value.int IntKind.i64 0))), none⟩]
def r31_4 : List PO := [⟨(some 11), (Op.move (Operand.tmp 5)), none⟩,
  ⟨(some 12), (Op.move (Operand.tmp 0)), none⟩,
  ⟨(some 13), (Op.call { callee := (Callee.builtin Builtin.len), args := #[(Operand.tmp 12)], argTypes := #[38] }), none⟩,
  ⟨(some 14), (Op.binOp BinOp.lss 3 (Operand.tmp 11) (Operand.tmp 13) 3), none⟩]
def r31_6 : List PO := [⟨(some 17), (Op.move (Operand.tmp 0)), none⟩,
  ⟨(some 18), (Op.move (Operand.tmp 5)), none⟩,
  ⟨(some 19), (Op.indexAddr 38 (Operand.tmp 17) (Operand.tmp 18)), none⟩,
  ⟨(some 20), (Op.load 3 (Operand.tmp 19)), none⟩,
  ⟨(some 21), (Op.move (Operand.tmp 1)), none⟩,
  ⟨(some 22), (Op.move (Operand.tmp 5)), none⟩,
  ⟨(some 23), (Op.indexAddr 38 (Operand.tmp 21) (Operand.tmp 22)), none⟩,
  ⟨(some 24), (Op.load 3 (Operand.tmp 23)), none⟩,
  ⟨(some 25), (Op.binOp BinOp.neq 3 (Operand.tmp 20) (Operand.tmp 24) 3), none⟩]
def r31_7 : List PO := [⟨(some 4), (Op.assign (Operand.const (Value.bool false))), none⟩]
def r31_5 : List PO := [⟨(some 15), (Op.move (Operand.tmp 5)), none⟩,
  ⟨(some 16), (Op.binOp BinOp.add 3 (Operand.tmp 15) (Operand.const (Value.int IntKind.i64 1)) 3), none⟩,
  ⟨(some 5), (Op.assign (Operand.tmp 16)), none⟩]
def l31_0 : PC := (.seq (.seq (.reg r31_4) (.cond (Operand.tmp 14) .skip (.exit 0))) (.seq (.block 1 (.seq (.fz r31_6) (.cond (Operand.tmp 25) (.seq (.reg r31_7) .ret) .skip))) (.reg r31_5)))
def r31_8 : List PO := [⟨(some 4), (Op.assign (Operand.const (Value.bool true))), none⟩]
def c31 : PC := (.seq (.reg r31_0) (.seq (.seq (.reg r31_1) (.cond (Operand.tmp 10) (.seq (.reg r31_2) .ret) .skip)) (.seq (.seq (.reg r31_3) (.block 0 (.loop l31_0))) (.seq (.reg r31_8) .ret))))
def i31 : FnI := ⟨26, [(ResultVar.tmp 4)], c31, 0, [[1], [1]], [[0]], false⟩
-- loop.example/g00344/laws.szIntSS
def r44_0 : List PO := [⟨(some 4), (Op.assign (Operand.const (Value.int IntKind.i64 0))), none⟩]
def r44_1 : List PO := [⟨(some 6), (Op.move (Operand.tmp 1)), none⟩,
  ⟨(some 7), (Op.move (Operand.tmp 0)), none⟩,
  ⟨(some 8), (Op.call { callee := (Callee.builtin Builtin.len), args := #[(Operand.tmp 7)], argTypes := #[22] }), none⟩,
  ⟨(some 9), (Op.binOp BinOp.sub 3 (Operand.tmp 6) (Operand.tmp 8) 3), none⟩,
  ⟨(some 1), (Op.assign (Operand.tmp 9)), none⟩]
def r44_2 : List PO := [⟨(some 10), (Op.move (Operand.tmp 1)), none⟩,
  ⟨(some 11), (Op.binOp BinOp.lss 3 (Operand.tmp 10) (Operand.const (Value.int IntKind.i64 0)) 3), none⟩]
def r44_3 : List PO := [⟨(some 4), (Op.assign (Operand.const (Value.int IntKind.i64 (-1)))), none⟩]
def r44_4 : List PO := [⟨(some 5), (Op.assign (Operand.const (Value.int IntKind.i64 0))), none⟩]
def r44_5 : List PO := [⟨(some 12), (Op.move (Operand.tmp 5)), none⟩,
  ⟨(some 13), (Op.move (Operand.tmp 0)), none⟩,
  ⟨(some 14), (Op.call { callee := (Callee.builtin Builtin.len), args := #[(Operand.tmp 13)], argTypes := #[22] }), none⟩,
  ⟨(some 15), (Op.binOp BinOp.lss 3 (Operand.tmp 12) (Operand.tmp 14) 3), none⟩]
def r44_7 : List PO := [⟨(some 18), (Op.move (Operand.tmp 0)), none⟩,
  ⟨(some 19), (Op.move (Operand.tmp 5)), none⟩,
  ⟨(some 20), (Op.indexAddr 22 (Operand.tmp 18) (Operand.tmp 19)), none⟩,
  ⟨(some 21), (Op.load 38 (Operand.tmp 20)), none⟩,
  ⟨(some 22), (Op.move (Operand.tmp 1)), none⟩,
  ⟨(some 23), (Op.call { callee := (Callee.value (Operand.func 76)), args := #[(Operand.tmp 21), (Operand.tmp 22)], argTypes := #[38, 3] }), none⟩,
  ⟨(some 1), (Op.assign (Operand.tmp 23)), none⟩]
def r44_8 : List PO := [⟨(some 24), (Op.move (Operand.tmp 1)), none⟩,
  ⟨(some 25), (Op.binOp BinOp.lss 3 (Operand.tmp 24) (Operand.const (Value.int IntKind.i64 0)) 3), none⟩]
def r44_9 : List PO := [⟨(some 4), (Op.assign (Operand.const (Value.int IntKind.i64 (-1)))), none⟩]
def r44_6 : List PO := [⟨(some 16), (Op.move (Operand.tmp 5)), none⟩,
  ⟨(some 17), (Op.binOp BinOp.add 3 (Operand.tmp 16) (Operand.const (Value.int IntKind.i64 1)) 3), none⟩,
  ⟨(some 5), (Op.assign (Operand.tmp 17)), none⟩]
def l44_0 : PC := (.seq (.seq (.reg r44_5) (.cond (Operand.tmp 15) .skip (.exit 0))) (.seq (.block 1 (.seq (.reg r44_7) (.seq (.reg r44_8) (.cond (Operand.tmp 25) (.seq (.reg r44_9) .ret) .skip)))) (.reg r44_6)))
def r44_10 : List PO := [⟨(some 26), (Op.move (Operand.tmp 1)), none⟩,
  ⟨(some 4), (Op.assign (Operand.tmp 26)), none⟩]
def c44 : PC := (.seq (.reg r44_0) (.seq (.reg r44_1) (.seq (.seq (.reg r44_2) (.cond (Operand.tmp 11) (.seq (.reg r44_3) .ret) .skip)) (.seq (.seq (.reg r44_4) (.block 0 (.loop l44_0))) (.seq (.reg r44_10) .ret)))))
def i44 : FnI := ⟨27, [(ResultVar.tmp 4)], c44, 0, [[1], [0]], [[0]], false⟩
-- loop.example/g00344/spec.l1In
def r45_0 : List PO := [⟨(some 6), (Op.assign (Operand.const (Value.bool false))), none⟩]
def r45_1 : List PO := [⟨(some 7), (Op.move (Operand.tmp 0)), none⟩,
  ⟨(some 8), (Op.move (Operand.tmp 1)), none⟩,
  ⟨(some 9), (Op.binOp BinOp.geq 3 (Operand.tmp 7) (Operand.tmp 8) 3), none⟩,
  ⟨(some 10), (Op.move (Operand.tmp 9)), none⟩,
  ⟨(some 11), (Op.move (Operand.tmp 0)), (some (10, true))⟩,
  ⟨(some 12), (Op.move (Operand.tmp 2)), (some (10, true))⟩,
  ⟨(some 13), (Op.binOp BinOp.leq 3 (Operand.tmp 11) (Operand.tmp 12) 3), (some (10, true))⟩,
  ⟨(some 14), (Op.pick (Operand.tmp 10) (Operand.tmp 13) (Operand.const (Value.bool false))), none⟩,
  ⟨(some 6), (Op.assign (Operand.tmp 14)), none⟩]
def c45 : PC := (.seq (.reg r45_0) (.seq (.reg r45_1) .ret))
def i45 : FnI := ⟨15, [(ResultVar.tmp 6)], c45, 0, [[0], [0], [0]], [[0]], false⟩
-- loop.example/g00344/spec.l9Apply
def r46_0 : List PO := [⟨(some 4), (Op.assign (Operand.const (Value.bool false))), none⟩]
def r46_1 : List PO := [⟨(some 7), (Op.move (Operand.tmp 0)), none⟩,
  ⟨(some 8), (Op.call { callee := (Callee.builtin Builtin.len), args := #[(Operand.tmp 7)], argTypes := #[38] }), none⟩,
  ⟨(some 9), (Op.move (Operand.const (Value.int IntKind.i64 0))), none⟩]
def r46_2 : List PO := [⟨(some 10), (Op.binOp BinOp.lss 3 (Operand.tmp 9) (Operand.tmp 8) 3), none⟩]
def r46_3 : List PO := [⟨(some 11), (Op.indexAddr 38 (Operand.tmp 7) (Operand.tmp 9)), none⟩,
  ⟨(some 12), (Op.load 3 (Operand.tmp 11)), none⟩,
  ⟨(some 6), (Op.assign (Operand.tmp 12)), none⟩]
def r46_4 : List PO := [⟨(some 13), (Op.move (Operand.tmp 6)), none⟩,
  ⟨(some 14), (Op.binOp BinOp.lss 3 (Operand.tmp 13) (Operand.const (Value.int IntKind.i64 0)) 3), none⟩,
  ⟨(some 15), (Op.move (Operand.tmp 14)), none⟩,
  ⟨(some 16), (Op.move (Operand.tmp 6)), (some (15, false))⟩,
  ⟨(some 17), (Op.move (Operand.tmp 1)), (some (15, false))⟩,
  ⟨(some 18), (Op.binOp BinOp.geq 3 (Operand.tmp 16) (Operand.tmp 17) 3), (some (15, false))⟩,
  ⟨(some 19), (Op.pick (Operand.tmp 15) (Operand.const (Value.bool true)) (Operand.tmp 18)), none⟩]
def r46_5 : List PO := [⟨(some 4), (Op.assign (Operand.const (Value.bool false))), none⟩]
def r46_6 : List PO := [⟨(some 20), (Op.binOp BinOp.add 3 (Operand.tmp 9) (Operand.const (Value.int IntKind.i64 1)) 3), none⟩,
  ⟨(some 9), (Op.move (Operand.tmp 20)), none⟩]
def l46_0 : PC := (.seq (.reg r46_2) (.seq (.cond (Operand.tmp 10) .skip (.exit 0)) (.seq (.block 1 (.seq (.reg r46_3) (.seq (.reg r46_4) (.cond (Operand.tmp 19) (.seq (.reg r46_5) .ret) .skip)))) (.reg r46_6))))
def r46_7 : List PO := [⟨(some 21), (Op.move (Operand.tmp 0)), none⟩,
  ⟨(some 22), (Op.call { callee := (Callee.builtin Builtin.len), args := #[(Operand.tmp 21)], argTypes := #[38] }), none⟩,
  ⟨(some 23), (Op.move (Operand.tmp 1)), none⟩,
  ⟨(some 24), (Op.binOp BinOp.eql 3 (Operand.tmp 22) (Operand.tmp 23) 3), none⟩,
  ⟨(some 25), (Op.move (Operand.tmp 24)), none⟩,
  ⟨(some 26), (Op.move (Operand.tmp 0)), (some (25, true))⟩,
  ⟨(some 27), (Op.move (Operand.tmp 1)), (some (25, true))⟩,
  ⟨(some 28), (Op.binOp BinOp.sub 3 (Operand.tmp 27) (Operand.const (Value.int IntKind.i64 1)) 3), (some (25, true))⟩,
  ⟨(some 29), (Op.indexAddr 38 (Operand.tmp 26) (Operand.tmp 28)), (some (25, true))⟩,
  ⟨(some 30), (Op.load 3 (Operand.tmp 29)), (some (25, true))⟩,
  ⟨(some 31), (Op.move (Operand.tmp 1)), (some (25, true))⟩,
  ⟨(some 32), (Op.binOp BinOp.sub 3 (Operand.tmp 31) (Operand.const (Value.int IntKind.i64 1)) 3), (some (25, true))⟩,
  ⟨(some 33), (Op.binOp BinOp.eql 3 (Operand.tmp 30) (Operand.tmp 32) 3), (some (25, true))⟩,
  ⟨(some 34), (Op.pick (Operand.tmp 25) (Operand.tmp 33) (Operand.const (Value.bool false))), none⟩,
  ⟨(some 4), (Op.assign (Operand.tmp 34)), none⟩]
def c46 : PC := (.seq (.reg r46_0) (.seq (.seq (.reg r46_1) (.block 0 (.loop l46_0))) (.seq (.reg r46_7) .ret)))
def i46 : FnI := ⟨35, [(ResultVar.tmp 4)], c46, 0, [[1], [0]], [[0]], false⟩
-- loop.example/g00344/laws.toIntSS
def r47_0 : List PO := [⟨(some 2), (Op.assign (Operand.const (Value.slice none 0 0))), none⟩]
def r47_1 : List PO := [⟨(some 5), (Op.move (Operand.tmp 0)), none⟩,
  ⟨(some 6), (Op.call { callee := (Callee.builtin Builtin.len), args := #[(Operand.tmp 5)], argTypes := #[22] }), none⟩,
  ⟨(some 7), (Op.makeSlice 22 (Operand.tmp 6) (Operand.tmp 6)), none⟩,
  ⟨(some 3), (Op.assign (Operand.tmp 7)), none⟩]
def r47_2 : List PO := [⟨(some 4), (Op.assign (Operand.const (Value.int IntKind.i64 0))), none⟩]
def r47_3 : List PO := [⟨(some 8), (Op.move (Operand.tmp 4)), none⟩,
  ⟨(some 9), (Op.move (Operand.tmp 0)), none⟩,
  ⟨(some 10), (Op.call { callee := (Callee.builtin Builtin.len), args := #[(Operand.tmp 9)], argTypes := #[22] }), none⟩,
  ⟨(some 11), (Op.binOp BinOp.lss 3 (Operand.tmp 8) (Operand.tmp 10) 3), none⟩]
def r47_5 : List PO := [⟨(some 14), (Op.move (Operand.tmp 3)), none⟩,
  ⟨(some 15), (Op.move (Operand.tmp 4)), none⟩,
  ⟨(some 16), (Op.move (Operand.tmp 0)), none⟩,
  ⟨(some 17), (Op.move (Operand.tmp 4)), none⟩,
  ⟨(some 18), (Op.indexAddr 22 (Operand.tmp 16) (Operand.tmp 17)), none⟩,
  ⟨(some 19), (Op.load 38 (Operand.tmp 18)), none⟩,
  ⟨(some 20), (Op.call { callee := (Callee.value (Operand.func 28)), args := #[(Operand.tmp 19)], argTypes := #[38] }), none⟩,
  ⟨(some 21), (Op.indexAddr 22 (Operand.tmp 14) (Operand.tmp 15)), none⟩,
  ⟨none, (Op.store 38 (Operand.tmp 21) (Operand.tmp 20)), none⟩]
def r47_4 : List PO := [⟨(some 12), (Op.move (Operand.tmp 4)), none⟩,
  ⟨(some 13), (Op.binOp BinOp.add 3 (Operand.tmp 12) (Operand.const (Value.int IntKind.i64 1)) 3), none⟩,
  ⟨(some 4), (Op.assign (Operand.tmp 13)), none⟩]
def l47_0 : PC := (.seq (.seq (.reg r47_3) (.cond (Operand.tmp 11) .skip (.exit 0))) (.seq (.block 1 (.reg r47_5)) (.reg r47_4)))
def r47_6 : List PO := [⟨(some 22), (Op.move (Operand.tmp 3)), none⟩,
  ⟨(some 2), (Op.assign (Operand.tmp 22)), none⟩]
def c47 : PC := (.seq (.reg r47_0) (.seq (.reg r47_1) (.seq (.seq (.reg r47_2) (.block 0 (.loop l47_0))) (.seq (.reg r47_6) .ret))))
def i47 : FnI := ⟨23, [(ResultVar.tmp 2)], c47, 0, [[1]], [[1]], false⟩
-- loop.example/g00344/impl.within
def r48_0 : List PO := [⟨(some 6), (Op.assign (Operand.const (Value.bool false))), none⟩]
def r48_1 : List PO := [⟨(some 7), (Op.move (Operand.tmp 0)), none⟩,
  ⟨(some 8), (Op.move (Operand.tmp 1)), none⟩,
  ⟨(some 9), (Op.binOp BinOp.geq 3 (Operand.tmp 7) (Operand.tmp 8) 3), none⟩,
  ⟨(some 10), (Op.move (Operand.tmp 9)), none⟩,
  ⟨(some 11), (Op.move (Operand.tmp 0)), (some (10, true))⟩,
  ⟨(some 12), (Op.move (Operand.tmp 2)), (some (10, true))⟩,
  ⟨(some 13), (Op.binOp BinOp.leq 3 (Operand.tmp 11) (Operand.tmp 12) 3), (some (10, true))⟩,
  ⟨(some 14), (Op.pick (Operand.tmp 10) (Operand.tmp 13) (Operand.const (Value.bool false))), none⟩,
  ⟨(some 6), (Op.assign (Operand.tmp 14)), none⟩]
def c48 : PC := (.seq (.reg r48_0) (.seq (.reg r48_1) .ret))
def i48 : FnI := ⟨15, [(ResultVar.tmp 6)], c48, 0, [[0], [0], [0]], [[0]], false⟩
-- slices.ContainsFunc[[][]int,[]int]
def r49_0 : List PO := [⟨(some 4), (Op.assign (Operand.const (Value.bool false))), none⟩]
def r49_1 : List PO := [⟨(some 5), (Op.move (Operand.tmp 0)), none⟩,
  ⟨(some 6), (Op.move (Operand.tmp 1)), none⟩,
  ⟨(some 7), (Op.call { callee := (Callee.value (Operand.func 77)), args := #[(Operand.tmp 5), (Operand.tmp 6)], argTypes := #[22, 70] }), none⟩,
  ⟨(some 8), (Op.binOp BinOp.geq 3 (Operand.tmp 7) (Operand.const (Value.int IntKind.i64 0)) 3), none⟩,
  ⟨(some 4), (Op.assign (Operand.tmp 8)), none⟩]
def c49 : PC := (.seq (.reg r49_0) (.seq (.reg r49_1) .ret))
def i49 : FnI := ⟨9, [(ResultVar.tmp 4)], c49, 0, [[1], [0]], [[0]], false⟩
-- loop.example/g00344/impl.GoodAlgebra$1
def r50_0 : List PO := [⟨(some 3), (Op.assign (Operand.const (Value.bool false))), none⟩]
def r50_1 : List PO := [⟨(some 4), (Op.move (Operand.tmp 0)), none⟩,
  ⟨(some 5), (Op.call { callee := (Callee.builtin Builtin.len), args := #[(Operand.tmp 4)], argTypes := #[38] }), none⟩,
  ⟨(some 6), (Op.fieldAddr 27 (Operand.tmp 1) 0), none⟩,
  ⟨(some 7), (Op.load 3 (Operand.tmp 6)), none⟩,
  ⟨(some 8), (Op.binOp BinOp.neq 3 (Operand.tmp 5) (Operand.tmp 7) 3), none⟩,
  ⟨(some 9), (Op.move (Operand.tmp 8)), none⟩,
  ⟨(some 10), (Op.move (Operand.tmp 0)), (some (9, false))⟩,
  ⟨(some 11), (Op.load 27 (Operand.tmp 1)), (some (9, false))⟩,
  ⟨(some 12), (Op.call { callee := (Callee.value (Operand.func 51)), args := #[(Operand.tmp 11)], argTypes := #[27] }), (some (9, false))⟩,
  ⟨(some 13), (Op.indexAddr 38 (Operand.tmp 10) (Operand.tmp 12)), (some (9, false))⟩,
  ⟨(some 14), (Op.load 3 (Operand.tmp 13)), (some (9, false))⟩,
  ⟨(some 15), (Op.load 27 (Operand.tmp 1)), (some (9, false))⟩,
  ⟨(some 16), (Op.call { callee := (Callee.value (Operand.func 51)), args := #[(Operand.tmp 15)], argTypes := #[27] }), (some (9, false))⟩,
  ⟨(some 17), (Op.binOp BinOp.neq 3 (Operand.tmp 14) (Operand.tmp 16) 3), (some (9, false))⟩,
  ⟨(some 18), (Op.pick (Operand.tmp 9) (Operand.const (Value.bool true)) (Operand.tmp 17)), none⟩,
  ⟨(some 19), (Op.move (Operand.tmp 18)), none⟩,
  ⟨(some 20), (Op.move (Operand.tmp 0)), (some (19, false))⟩,
  ⟨(some 21), (Op.makeFunc (Fn.func 53) #[] #[(Operand.tmp 1)]), (some (19, false))⟩,
  ⟨(some 22), (Op.call { callee := (Callee.value (Operand.func 52)), args := #[(Operand.tmp 20), (Operand.tmp 21)], argTypes := #[38, 69] }), (some (19, false))⟩,
  ⟨(some 23), (Op.pick (Operand.tmp 19) (Operand.const (Value.bool true)) (Operand.tmp 22)), none⟩,
  ⟨(some 3), (Op.assign (Operand.tmp 23)), none⟩]
def c50 : PC := (.seq (.reg r50_0) (.seq (.fz r50_1) .ret))
def i50 : FnI := ⟨24, [(ResultVar.tmp 3)], c50, 0, [[1], [0]], [[0]], false⟩
-- (loop.example/g00344/impl.Algebra).worst
def r51_0 : List PO := [⟨(some 1), (Op.box 27 (Operand.tmp 0)), none⟩,
  ⟨(some 2), (Op.assign (Operand.const (Value.int IntKind.i64 0))), none⟩]
def r51_1 : List PO := [⟨(some 3), (Op.fieldAddr 27 (Operand.tmp 1) 0), none⟩,
  ⟨(some 4), (Op.load 3 (Operand.tmp 3)), none⟩,
  ⟨(some 5), (Op.binOp BinOp.sub 3 (Operand.tmp 4) (Operand.const (Value.int IntKind.i64 1)) 3), none⟩,
  ⟨(some 2), (Op.assign (Operand.tmp 5)), none⟩]
def c51 : PC := (.seq (.reg r51_0) (.seq (.reg r51_1) .ret))
def i51 : FnI := ⟨6, [(ResultVar.tmp 2)], c51, 0, [[0, 1]], [[0]], false⟩
-- slices.ContainsFunc[[]int,int]
def r52_0 : List PO := [⟨(some 4), (Op.assign (Operand.const (Value.bool false))), none⟩]
def r52_1 : List PO := [⟨(some 5), (Op.move (Operand.tmp 0)), none⟩,
  ⟨(some 6), (Op.move (Operand.tmp 1)), none⟩,
  ⟨(some 7), (Op.call { callee := (Callee.value (Operand.func 78)), args := #[(Operand.tmp 5), (Operand.tmp 6)], argTypes := #[38, 69] }), none⟩,
  ⟨(some 8), (Op.binOp BinOp.geq 3 (Operand.tmp 7) (Operand.const (Value.int IntKind.i64 0)) 3), none⟩,
  ⟨(some 4), (Op.assign (Operand.tmp 8)), none⟩]
def c52 : PC := (.seq (.reg r52_0) (.seq (.reg r52_1) .ret))
def i52 : FnI := ⟨9, [(ResultVar.tmp 4)], c52, 0, [[1], [0]], [[0]], false⟩
-- loop.example/g00344/impl.GoodAlgebra$1$1
def r53_0 : List PO := [⟨(some 3), (Op.assign (Operand.const (Value.bool false))), none⟩]
def r53_1 : List PO := [⟨(some 4), (Op.move (Operand.tmp 0)), none⟩,
  ⟨(some 5), (Op.load 27 (Operand.tmp 1)), none⟩,
  ⟨(some 6), (Op.call { callee := (Callee.value (Operand.func 51)), args := #[(Operand.tmp 5)], argTypes := #[27] }), none⟩,
  ⟨(some 7), (Op.call { callee := (Callee.value (Operand.func 48)), args := #[(Operand.tmp 4), (Operand.const (Value.int IntKind.i64 0)), (Operand.tmp 6)], argTypes := #[3, 3, 3] }), none⟩,
  ⟨(some 8), (Op.unOp UnOp.not 4 (Operand.tmp 7)), none⟩,
  ⟨(some 3), (Op.assign (Operand.tmp 8)), none⟩]
def c53 : PC := (.seq (.reg r53_0) (.seq (.reg r53_1) .ret))
def i53 : FnI := ⟨9, [(ResultVar.tmp 3)], c53, 0, [[0], [0]], [[0]], false⟩
-- loop.example/g00344/laws.eqIntSS
def r54_0 : List PO := [⟨(some 4), (Op.assign (Operand.const (Value.bool false))), none⟩]
def r54_1 : List PO := [⟨(some 6), (Op.move (Operand.tmp 0)), none⟩,
  ⟨(some 7), (Op.call { callee := (Callee.builtin Builtin.len), args := #[(Operand.tmp 6)], argTypes := #[22] }), none⟩,
  ⟨(some 8), (Op.move (Operand.tmp 1)), none⟩,
  ⟨(some 9), (Op.call { callee := (Callee.builtin Builtin.len), args := #[(Operand.tmp 8)], argTypes := #[22] }), none⟩,
  ⟨(some 10), (Op.binOp BinOp.neq 3 (Operand.tmp 7) (Operand.tmp 9) 3), none⟩]
def r54_2 : List PO := [⟨(some 4), (Op.assign (Operand.const (Value.bool false))), none⟩]
def r54_3 : List PO := [⟨(some 5), (Op.assign (Operand.const (Value.int IntKind.i64 0))), none⟩]
def r54_4 : List PO := [⟨(some 11), (Op.move (Operand.tmp 5)), none⟩,
  ⟨(some 12), (Op.move (Operand.tmp 0)), none⟩,
  ⟨(some 13), (Op.call { callee := (Callee.builtin Builtin.len), args := #[(Operand.tmp 12)], argTypes := #[22] }), none⟩,
  ⟨(some 14), (Op.binOp BinOp.lss 3 (Operand.tmp 11) (Operand.tmp 13) 3), none⟩]
def r54_6 : List PO := [⟨(some 17), (Op.move (Operand.tmp 0)), none⟩,
  ⟨(some 18), (Op.move (Operand.tmp 5)), none⟩,
  ⟨(some 19), (Op.indexAddr 22 (Operand.tmp 17) (Operand.tmp 18)), none⟩,
  ⟨(some 20), (Op.load 38 (Operand.tmp 19)), none⟩,
  ⟨(some 21), (Op.move (Operand.tmp 1)), none⟩,
  ⟨(some 22), (Op.move (Operand.tmp 5)), none⟩,
  ⟨(some 23), (Op.indexAddr 22 (Operand.tmp 21) (Operand.tmp 22)), none⟩,
  ⟨(some 24), (Op.load 38 (Operand.tmp 23)), none⟩,
  ⟨(some 25), (Op.call { callee := (Callee.value (Operand.func 31)), args := #[(Operand.tmp 20), (Operand.tmp 24)], argTypes := #[38, 38] }), none⟩,
  ⟨(some 26), (Op.unOp UnOp.not 4 (Operand.tmp 25)), none⟩]
def r54_7 : List PO := [⟨(some 4), (Op.assign (Operand.const (Value.bool false))), none⟩]
def r54_5 : List PO := [⟨(some 15), (Op.move (Operand.tmp 5)), none⟩,
  ⟨(some 16), (Op.binOp BinOp.add 3 (Operand.tmp 15) (Operand.const (Value.int IntKind.i64 1)) 3), none⟩,
  ⟨(some 5), (Op.assign (Operand.tmp 16)), none⟩]
def l54_0 : PC := (.seq (.seq (.reg r54_4) (.cond (Operand.tmp 14) .skip (.exit 0))) (.seq (.block 1 (.seq (.fz r54_6) (.cond (Operand.tmp 26) (.seq (.reg r54_7) .ret) .skip))) (.reg r54_5)))
def r54_8 : List PO := [⟨(some 4), (Op.assign (Operand.const (Value.bool true))), none⟩]
def c54 : PC := (.seq (.reg r54_0) (.seq (.seq (.reg r54_1) (.cond (Operand.tmp 10) (.seq (.reg r54_2) .ret) .skip)) (.seq (.seq (.reg r54_3) (.block 0 (.loop l54_0))) (.seq (.reg r54_8) .ret))))
def i54 : FnI := ⟨27, [(ResultVar.tmp 4)], c54, 0, [[1], [1]], [[0]], false⟩
-- loop.example/g00344/impl.IsIsotone$1
def r55_0 : List PO := [⟨(some 2), (Op.assign (Operand.const (Value.bool false))), none⟩]
def r55_1 : List PO := [⟨(some 3), (Op.move (Operand.tmp 0)), none⟩,
  ⟨(some 4), (Op.call { callee := (Callee.value (Operand.func 56)), args := #[(Operand.tmp 3)], argTypes := #[38] }), none⟩,
  ⟨(some 5), (Op.unOp UnOp.not 4 (Operand.tmp 4)), none⟩,
  ⟨(some 2), (Op.assign (Operand.tmp 5)), none⟩]
def c55 : PC := (.seq (.reg r55_0) (.seq (.reg r55_1) .ret))
def i55 : FnI := ⟨6, [(ResultVar.tmp 2)], c55, 0, [[1]], [[0]], false⟩
-- slices.IsSorted[[]int,int]
def r56_0 : List PO := [⟨(some 2), (Op.assign (Operand.const (Value.bool false))), none⟩]
def r56_1 : List PO := [⟨(some 4), (Op.move (Operand.tmp 0)), none⟩,
  ⟨(some 5), (Op.call { callee := (Callee.builtin Builtin.len), args := #[(Operand.tmp 4)], argTypes := #[38] }), none⟩,
  ⟨(some 6), (Op.binOp BinOp.sub 3 (Operand.tmp 5) (Operand.const (Value.int IntKind.i64 1)) 3), none⟩,
  ⟨(some 3), (Op.assign (Operand.tmp 6)), none⟩]
def r56_2 : List PO := [⟨(some 7), (Op.move (Operand.tmp 3)), none⟩,
  ⟨(some 8), (Op.binOp BinOp.gtr 3 (Operand.tmp 7) (Operand.const (Value.int IntKind.i64 0)) 3), none⟩]
def r56_4 : List PO := [⟨(some 11), (Op.move (Operand.tmp 0)), none⟩,
  ⟨(some 12), (Op.move (Operand.tmp 3)), none⟩,
  ⟨(some 13), (Op.indexAddr 38 (Operand.tmp 11) (Operand.tmp 12)), none⟩,
  ⟨(some 14), (Op.load 3 (Operand.tmp 13)), none⟩,
  ⟨(some 15), (Op.move (Operand.tmp 0)), none⟩,
  ⟨(some 16), (Op.move (Operand.tmp 3)), none⟩,
  ⟨(some 17), (Op.binOp BinOp.sub 3 (Operand.tmp 16) (Operand.const (Value.int IntKind.i64 1)) 3), none⟩,
  ⟨(some 18), (Op.indexAddr 38 (Operand.tmp 15) (Operand.tmp 17)), none⟩,
  ⟨(some 19), (Op.load 3 (Operand.tmp 18)), none⟩,
  ⟨(some 20), (Op.call { callee := (Callee.value (Operand.func 79)), args := #[(Operand.tmp 14), (Operand.tmp 19)], argTypes := #[3, 3] }), none⟩]
def r56_5 : List PO := [⟨(some 2), (Op.assign (Operand.const (Value.bool false))), none⟩]
def r56_3 : List PO := [⟨(some 9), (Op.move (Operand.tmp 3)), none⟩,
  ⟨(some 10), (Op.binOp BinOp.sub 3 (Operand.tmp 9) (Operand.const (Value.int IntKind.i64 1)) 3), none⟩,
  ⟨(some 3), (Op.assign (Operand.tmp 10)), none⟩]
def l56_0 : PC := (.seq (.seq (.reg r56_2) (.cond (Operand.tmp 8) .skip (.exit 0))) (.seq (.block 1 (.seq (.fz r56_4) (.cond (Operand.tmp 20) (.seq (.reg r56_5) .ret) .skip))) (.reg r56_3)))
def r56_6 : List PO := [⟨(some 2), (Op.assign (Operand.const (Value.bool true))), none⟩]
def c56 : PC := (.seq (.reg r56_0) (.seq (.seq (.reg r56_1) (.block 0 (.loop l56_0))) (.seq (.reg r56_6) .ret)))
def i56 : FnI := ⟨21, [(ResultVar.tmp 2)], c56, 0, [[1]], [[0]], false⟩
-- loop.example/g00344/laws.szIntS
def r76_0 : List PO := [⟨(some 4), (Op.assign (Operand.const (Value.int IntKind.i64 0))), none⟩]
def r76_1 : List PO := [⟨(some 5), (Op.move (Operand.tmp 1)), none⟩,
  ⟨(some 6), (Op.move (Operand.tmp 0)), none⟩,
  ⟨(some 7), (Op.call { callee := (Callee.builtin Builtin.len), args := #[(Operand.tmp 6)], argTypes := #[38] }), none⟩,
  ⟨(some 8), (Op.binOp BinOp.sub 3 (Operand.tmp 5) (Operand.tmp 7) 3), none⟩,
  ⟨(some 1), (Op.assign (Operand.tmp 8)), none⟩]
def r76_2 : List PO := [⟨(some 9), (Op.move (Operand.tmp 1)), none⟩,
  ⟨(some 10), (Op.binOp BinOp.lss 3 (Operand.tmp 9) (Operand.const (Value.int IntKind.i64 0)) 3), none⟩]
def r76_3 : List PO := [⟨(some 4), (Op.assign (Operand.const (Value.int IntKind.i64 (-1)))), none⟩]
def r76_4 : List PO := [⟨(some 11), (Op.move (Operand.tmp 1)), none⟩,
  ⟨(some 4), (Op.assign (Operand.tmp 11)), none⟩]
def c76 : PC := (.seq (.reg r76_0) (.seq (.reg r76_1) (.seq (.seq (.reg r76_2) (.cond (Operand.tmp 10) (.seq (.reg r76_3) .ret) .skip)) (.seq (.reg r76_4) .ret))))
def i76 : FnI := ⟨12, [(ResultVar.tmp 4)], c76, 0, [[1], [0]], [[0]], false⟩
-- slices.IndexFunc[[][]int,[]int]
def r77_0 : List PO := [⟨(some 4), (Op.assign (Operand.const (Value.int IntKind.i64 0))), none⟩]
def r77_1 : List PO := [⟨(some 6), (Op.move (Operand.tmp 0)), none⟩,
  ⟨(some 7), (Op.call { callee := (Callee.builtin Builtin.len), args := #[(Operand.tmp 6)], argTypes := #[22] }), none⟩,
  ⟨(some 8), (Op.move (Operand.const (Value.int IntKind.i64 0))), none⟩]
def r77_2 : List PO := [⟨(some 9), (Op.binOp BinOp.lss 3 (Operand.tmp 8) (Operand.tmp 7) 3), none⟩]
def r77_3 : List PO := [⟨(some 10), (Op.move (Operand.tmp 8)), none⟩,
  ⟨(some 5), (Op.assign (Operand.tmp 10)), none⟩]
def r77_4 : List PO := [⟨(some 11), (Op.move (Operand.tmp 1)), none⟩,
  ⟨(some 12), (Op.move (Operand.tmp 0)), none⟩,
  ⟨(some 13), (Op.move (Operand.tmp 5)), none⟩,
  ⟨(some 14), (Op.indexAddr 22 (Operand.tmp 12) (Operand.tmp 13)), none⟩,
  ⟨(some 15), (Op.load 38 (Operand.tmp 14)), none⟩,
  ⟨(some 16), (Op.call { callee := (Callee.value (Operand.tmp 11)), args := #[(Operand.tmp 15)], argTypes := #[38] }), none⟩]
def r77_5 : List PO := [⟨(some 17), (Op.move (Operand.tmp 5)), none⟩,
  ⟨(some 4), (Op.assign (Operand.tmp 17)), none⟩]
def r77_6 : List PO := [⟨(some 18), (Op.binOp BinOp.add 3 (Operand.tmp 8) (Operand.const (Value.int IntKind.i64 1)) 3), none⟩,
  ⟨(some 8), (Op.move (Operand.tmp 18)), none⟩]
def l77_0 : PC := (.seq (.reg r77_2) (.seq (.cond (Operand.tmp 9) .skip (.exit 0)) (.seq (.block 1 (.seq (.reg r77_3) (.seq (.reg r77_4) (.cond (Operand.tmp 16) (.seq (.reg r77_5) .ret) .skip)))) (.reg r77_6))))
def r77_7 : List PO := [⟨(some 4), (Op.assign (Operand.const (Value.int IntKind.i64 (-1)))), none⟩]
def c77 : PC := (.seq (.reg r77_0) (.seq (.seq (.reg r77_1) (.block 0 (.loop l77_0))) (.seq (.reg r77_7) .ret)))
def i77 : FnI := ⟨19, [(ResultVar.tmp 4)], c77, 0, [[1], [0]], [[0]], false⟩
-- slices.IndexFunc[[]int,int]
def r78_0 : List PO := [⟨(some 4), (Op.assign (Operand.const (Value.int IntKind.i64 0))), none⟩]
def r78_1 : List PO := [⟨(some 6), (Op.move (Operand.tmp 0)), none⟩,
  ⟨(some 7), (Op.call { callee := (Callee.builtin Builtin.len), args := #[(Operand.tmp 6)], argTypes := #[38] }), none⟩,
  ⟨(some 8), (Op.move (Operand.const (Value.int IntKind.i64 0))), none⟩]
def r78_2 : List PO := [⟨(some 9), (Op.binOp BinOp.lss 3 (Operand.tmp 8) (Operand.tmp 7) 3), none⟩]
def r78_3 : List PO := [⟨(some 10), (Op.move (Operand.tmp 8)), none⟩,
  ⟨(some 5), (Op.assign (Operand.tmp 10)), none⟩]
def r78_4 : List PO := [⟨(some 11), (Op.move (Operand.tmp 1)), none⟩,
  ⟨(some 12), (Op.move (Operand.tmp 0)), none⟩,
  ⟨(some 13), (Op.move (Operand.tmp 5)), none⟩,
  ⟨(some 14), (Op.indexAddr 38 (Operand.tmp 12) (Operand.tmp 13)), none⟩,
  ⟨(some 15), (Op.load 3 (Operand.tmp 14)), none⟩,
  ⟨(some 16), (Op.call { callee := (Callee.value (Operand.tmp 11)), args := #[(Operand.tmp 15)], argTypes := #[3] }), none⟩]
def r78_5 : List PO := [⟨(some 17), (Op.move (Operand.tmp 5)), none⟩,
  ⟨(some 4), (Op.assign (Operand.tmp 17)), none⟩]
def r78_6 : List PO := [⟨(some 18), (Op.binOp BinOp.add 3 (Operand.tmp 8) (Operand.const (Value.int IntKind.i64 1)) 3), none⟩,
  ⟨(some 8), (Op.move (Operand.tmp 18)), none⟩]
def l78_0 : PC := (.seq (.reg r78_2) (.seq (.cond (Operand.tmp 9) .skip (.exit 0)) (.seq (.block 1 (.seq (.reg r78_3) (.seq (.reg r78_4) (.cond (Operand.tmp 16) (.seq (.reg r78_5) .ret) .skip)))) (.reg r78_6))))
def r78_7 : List PO := [⟨(some 4), (Op.assign (Operand.const (Value.int IntKind.i64 (-1)))), none⟩]
def c78 : PC := (.seq (.reg r78_0) (.seq (.seq (.reg r78_1) (.block 0 (.loop l78_0))) (.seq (.reg r78_7) .ret)))
def i78 : FnI := ⟨19, [(ResultVar.tmp 4)], c78, 0, [[1], [0]], [[0]], false⟩
-- cmp.Less[int]
def r79_0 : List PO := [⟨(some 4), (Op.assign (Operand.const (Value.bool false))), none⟩]
def r79_1 : List PO := [⟨(some 5), (Op.move (Operand.tmp 0)), none⟩,
  ⟨(some 6), (Op.call { callee := (Callee.value (Operand.func 88)), args := #[(Operand.tmp 5)], argTypes := #[3] }), none⟩,
  ⟨(some 7), (Op.move (Operand.tmp 6)), none⟩,
  ⟨(some 8), (Op.move (Operand.tmp 1)), (some (7, true))⟩,
  ⟨(some 9), (Op.call { callee := (Callee.value (Operand.func 88)), args := #[(Operand.tmp 8)], argTypes := #[3] }), (some (7, true))⟩,
  ⟨(some 10), (Op.unOp UnOp.not 4 (Operand.tmp 9)), (some (7, true))⟩,
  ⟨(some 11), (Op.pick (Operand.tmp 7) (Operand.tmp 10) (Operand.const (Value.bool false))), none⟩,
  ⟨(some 12), (Op.move (Operand.tmp 11)), none⟩,
  ⟨(some 13), (Op.move (Operand.tmp 0)), (some (12, false))⟩,
  ⟨(some 14), (Op.move (Operand.tmp 1)), (some (12, false))⟩,
  ⟨(some 15), (Op.binOp BinOp.lss 3 (Operand.tmp 13) (Operand.tmp 14) 3), (some (12, false))⟩,
  ⟨(some 16), (Op.pick (Operand.tmp 12) (Operand.const (Value.bool true)) (Operand.tmp 15)), none⟩,
  ⟨(some 4), (Op.assign (Operand.tmp 16)), none⟩]
def c79 : PC := (.seq (.reg r79_0) (.seq (.reg r79_1) .ret))
def i79 : FnI := ⟨17, [(ResultVar.tmp 4)], c79, 0, [[0], [0]], [[0]], false⟩
-- cmp.isNaN[int]
def r88_0 : List PO := [⟨(some 2), (Op.assign (Operand.const (Value.bool false))), none⟩]
def r88_1 : List PO := [⟨(some 3), (Op.move (Operand.tmp 0)), none⟩,
  ⟨(some 4), (Op.move (Operand.tmp 0)), none⟩,
  ⟨(some 5), (Op.binOp BinOp.neq 3 (Operand.tmp 3) (Operand.tmp 4) 3), none⟩,
  ⟨(some 2), (Op.assign (Operand.tmp 5)), none⟩]
def c88 : PC := (.seq (.reg r88_0) (.seq (.reg r88_1) .ret))
def i88 : FnI := ⟨6, [(ResultVar.tmp 2)], c88, 0, [[0]], [[0]], false⟩
def tys : List (Nat × TyI) := [(3, ⟨1, 8, false, [.int .i64 0], [0], 0, [], .int .i64, false⟩),
  (4, ⟨1, 1, false, [.bool false], [0], 0, [], .bool, false⟩),
  (22, ⟨1, 24, false, [.nil], [1], 38, [], .other, false⟩),
  (24, ⟨2, 32, true, [.int .i64 0, .nil], [0, 1], 0, [(0, 1, false), (1, 1, false)], .other, false⟩),
  (27, ⟨2, 32, true, [.int .i64 0, .nil], [0, 1], 0, [(0, 1, false), (1, 1, false)], .other, false⟩),
  (38, ⟨1, 24, false, [.nil], [1], 3, [], .other, false⟩)]
def fns : List (Nat × FnI) := [(5, i5), (12, i12), (13, i13), (14, i14), (15, i15), (16, i16), (19, i19), (20, i20), (28, i28), (31, i31), (44, i44), (45, i45), (46, i46), (47, i47), (48, i48), (49, i49), (50, i50), (51, i51), (52, i52), (53, i53), (54, i54), (55, i55), (56, i56), (76, i76), (77, i77), (78, i78), (79, i79), (88, i88)]
def T : Tab := mkTab tys fns
@[simp] theorem ty3 : T.ty 3 = some ⟨1, 8, false, [.int .i64 0], [0], 0, [], .int .i64, false⟩ := rfl
@[simp] theorem base3 : T.baseOf 3 = Bs.int .i64 := rfl
@[simp] theorem ty4 : T.ty 4 = some ⟨1, 1, false, [.bool false], [0], 0, [], .bool, false⟩ := rfl
@[simp] theorem base4 : T.baseOf 4 = Bs.bool := rfl
@[simp] theorem ty22 : T.ty 22 = some ⟨1, 24, false, [.nil], [1], 38, [], .other, false⟩ := rfl
@[simp] theorem base22 : T.baseOf 22 = Bs.other := rfl
@[simp] theorem elem22 : T.elemOf 22 = some ⟨1, 24, false, [.nil], [1], 3, [], .other, false⟩ := rfl
@[simp] theorem ty24 : T.ty 24 = some ⟨2, 32, true, [.int .i64 0, .nil], [0, 1], 0, [(0, 1, false), (1, 1, false)], .other, false⟩ := rfl
@[simp] theorem base24 : T.baseOf 24 = Bs.other := rfl
@[simp] theorem ty27 : T.ty 27 = some ⟨2, 32, true, [.int .i64 0, .nil], [0, 1], 0, [(0, 1, false), (1, 1, false)], .other, false⟩ := rfl
@[simp] theorem base27 : T.baseOf 27 = Bs.other := rfl
@[simp] theorem ty38 : T.ty 38 = some ⟨1, 24, false, [.nil], [1], 3, [], .other, false⟩ := rfl
@[simp] theorem base38 : T.baseOf 38 = Bs.other := rfl
@[simp] theorem elem38 : T.elemOf 38 = some ⟨1, 8, false, [.int .i64 0], [0], 0, [], .int .i64, false⟩ := rfl
theorem ok5 : FnOk Try.prog (5, i5) := ⟨Try.f5, _, Try.func5, rfl, by kernel_rfl, rfl, rfl, by kernel_rfl⟩
theorem ok12 : FnOk Try.prog (12, i12) := ⟨Try.f12, _, Try.func12, rfl, by kernel_rfl, rfl, rfl, by kernel_rfl⟩
theorem ok13 : FnOk Try.prog (13, i13) := ⟨Try.f13, _, Try.func13, rfl, by kernel_rfl, rfl, rfl, by kernel_rfl⟩
theorem ok14 : FnOk Try.prog (14, i14) := ⟨Try.f14, _, Try.func14, rfl, by kernel_rfl, rfl, rfl, by kernel_rfl⟩
theorem ok15 : FnOk Try.prog (15, i15) := ⟨Try.f15, _, Try.func15, rfl, by kernel_rfl, rfl, rfl, by kernel_rfl⟩
theorem ok16 : FnOk Try.prog (16, i16) := ⟨Try.f16, _, Try.func16, rfl, by kernel_rfl, rfl, rfl, by kernel_rfl⟩
theorem ok19 : FnOk Try.prog (19, i19) := ⟨Try.f19, _, Try.func19, rfl, by kernel_rfl, rfl, rfl, by kernel_rfl⟩
theorem ok20 : FnOk Try.prog (20, i20) := ⟨Try.f20, _, Try.func20, rfl, by kernel_rfl, rfl, rfl, by kernel_rfl⟩
theorem ok28 : FnOk Try.prog (28, i28) := ⟨Try.f28, _, Try.func28, rfl, by kernel_rfl, rfl, rfl, by kernel_rfl⟩
theorem ok31 : FnOk Try.prog (31, i31) := ⟨Try.f31, _, Try.func31, rfl, by kernel_rfl, rfl, rfl, by kernel_rfl⟩
theorem ok44 : FnOk Try.prog (44, i44) := ⟨Try.f44, _, Try.func44, rfl, by kernel_rfl, rfl, rfl, by kernel_rfl⟩
theorem ok45 : FnOk Try.prog (45, i45) := ⟨Try.f45, _, Try.func45, rfl, by kernel_rfl, rfl, rfl, by kernel_rfl⟩
theorem ok46 : FnOk Try.prog (46, i46) := ⟨Try.f46, _, Try.func46, rfl, by kernel_rfl, rfl, rfl, by kernel_rfl⟩
theorem ok47 : FnOk Try.prog (47, i47) := ⟨Try.f47, _, Try.func47, rfl, by kernel_rfl, rfl, rfl, by kernel_rfl⟩
theorem ok48 : FnOk Try.prog (48, i48) := ⟨Try.f48, _, Try.func48, rfl, by kernel_rfl, rfl, rfl, by kernel_rfl⟩
theorem ok49 : FnOk Try.prog (49, i49) := ⟨Try.f49, _, Try.func49, rfl, by kernel_rfl, rfl, rfl, by kernel_rfl⟩
theorem ok50 : FnOk Try.prog (50, i50) := ⟨Try.f50, _, Try.func50, rfl, by kernel_rfl, rfl, rfl, by kernel_rfl⟩
theorem ok51 : FnOk Try.prog (51, i51) := ⟨Try.f51, _, Try.func51, rfl, by kernel_rfl, rfl, rfl, by kernel_rfl⟩
theorem ok52 : FnOk Try.prog (52, i52) := ⟨Try.f52, _, Try.func52, rfl, by kernel_rfl, rfl, rfl, by kernel_rfl⟩
theorem ok53 : FnOk Try.prog (53, i53) := ⟨Try.f53, _, Try.func53, rfl, by kernel_rfl, rfl, rfl, by kernel_rfl⟩
theorem ok54 : FnOk Try.prog (54, i54) := ⟨Try.f54, _, Try.func54, rfl, by kernel_rfl, rfl, rfl, by kernel_rfl⟩
theorem ok55 : FnOk Try.prog (55, i55) := ⟨Try.f55, _, Try.func55, rfl, by kernel_rfl, rfl, rfl, by kernel_rfl⟩
theorem ok56 : FnOk Try.prog (56, i56) := ⟨Try.f56, _, Try.func56, rfl, by kernel_rfl, rfl, rfl, by kernel_rfl⟩
theorem ok76 : FnOk Try.prog (76, i76) := ⟨Try.f76, _, Try.func76, rfl, by kernel_rfl, rfl, rfl, by kernel_rfl⟩
theorem ok77 : FnOk Try.prog (77, i77) := ⟨Try.f77, _, Try.func77, rfl, by kernel_rfl, rfl, rfl, by kernel_rfl⟩
theorem ok78 : FnOk Try.prog (78, i78) := ⟨Try.f78, _, Try.func78, rfl, by kernel_rfl, rfl, rfl, by kernel_rfl⟩
theorem ok79 : FnOk Try.prog (79, i79) := ⟨Try.f79, _, Try.func79, rfl, by kernel_rfl, rfl, rfl, by kernel_rfl⟩
theorem ok88 : FnOk Try.prog (88, i88) := ⟨Try.f88, _, Try.func88, rfl, by kernel_rfl, rfl, rfl, by kernel_rfl⟩
theorem tab : TabOk Try.prog T := tabOk_of (by kernel_rfl) (.cons ok5 (.cons ok12 (.cons ok13 (.cons ok14 (.cons ok15 (.cons ok16 (.cons ok19 (.cons ok20 (.cons ok28 (.cons ok31 (.cons ok44 (.cons ok45 (.cons ok46 (.cons ok47 (.cons ok48 (.cons ok49 (.cons ok50 (.cons ok51 (.cons ok52 (.cons ok53 (.cons ok54 (.cons ok55 (.cons ok56 (.cons ok76 (.cons ok77 (.cons ok78 (.cons ok79 (.cons ok88 (.nil)))))))))))))))))))))))))))))
theorem fn5 : T.fn 5 = some i5 := rfl
theorem fn12 : T.fn 12 = some i12 := rfl
theorem fn13 : T.fn 13 = some i13 := rfl
theorem fn14 : T.fn 14 = some i14 := rfl
theorem fn15 : T.fn 15 = some i15 := rfl
theorem fn16 : T.fn 16 = some i16 := rfl
theorem fn19 : T.fn 19 = some i19 := rfl
theorem fn20 : T.fn 20 = some i20 := rfl
theorem fn28 : T.fn 28 = some i28 := rfl
theorem fn31 : T.fn 31 = some i31 := rfl
theorem fn44 : T.fn 44 = some i44 := rfl
theorem fn45 : T.fn 45 = some i45 := rfl
theorem fn46 : T.fn 46 = some i46 := rfl
theorem fn47 : T.fn 47 = some i47 := rfl
theorem fn48 : T.fn 48 = some i48 := rfl
theorem fn49 : T.fn 49 = some i49 := rfl
theorem fn50 : T.fn 50 = some i50 := rfl
theorem fn51 : T.fn 51 = some i51 := rfl
theorem fn52 : T.fn 52 = some i52 := rfl
theorem fn53 : T.fn 53 = some i53 := rfl
theorem fn54 : T.fn 54 = some i54 := rfl
theorem fn55 : T.fn 55 = some i55 := rfl
theorem fn56 : T.fn 56 = some i56 := rfl
theorem fn76 : T.fn 76 = some i76 := rfl
theorem fn77 : T.fn 77 = some i77 := rfl
theorem fn78 : T.fn 78 = some i78 := rfl
theorem fn79 : T.fn 79 = some i79 := rfl
theorem fn88 : T.fn 88 = some i88 := rfl

end Go.Pi.Ytbohlpligkfkiaa.IsIsotone
