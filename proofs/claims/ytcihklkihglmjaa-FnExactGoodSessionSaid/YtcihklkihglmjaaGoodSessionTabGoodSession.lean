/- What functions of the program answer, and that the law answers true at every input; no condition -/
import Derived.Test.YtcihklkihglmjaaProg
import Derived.Test.YtcihklkihglmjaaPiC
set_option linter.all false
/- The program's tables for Pi: types and functions, as they stand in the loaded program. -/
namespace Go.Pi.Ytcihklkihglmjaa.GoodSession
open Go Go.Proofs Go.Pi
set_option maxRecDepth 100000

-- loop.example/g00344/laws.FnExactGoodSession
def r4_0 : List PO := [⟨(some 1), (Op.box 28 (Operand.tmp 0)), none⟩,
  ⟨(some 2), (Op.assign (Operand.const (Value.bool false))), none⟩]
def r4_1 : List PO := [⟨(some 5), (Op.load 28 (Operand.tmp 1)), none⟩,
  ⟨(some 6), (Op.call { callee := (Callee.value (Operand.func 15)), args := #[(Operand.tmp 5)], argTypes := #[28] }), none⟩,
  ⟨(some 7), (Op.call { callee := (Callee.value (Operand.func 14)), args := #[(Operand.tmp 6)], argTypes := #[23] }), none⟩,
  ⟨(some 3), (Op.assign (Operand.tmp 7)), none⟩]
def r4_2 : List PO := [⟨(some 8), (Op.load 28 (Operand.tmp 1)), none⟩,
  ⟨(some 9), (Op.call { callee := (Callee.value (Operand.func 15)), args := #[(Operand.tmp 8)], argTypes := #[28] }), none⟩,
  ⟨(some 10), (Op.call { callee := (Callee.value (Operand.func 16)), args := #[(Operand.tmp 9)], argTypes := #[23] }), none⟩,
  ⟨(some 4), (Op.assign (Operand.tmp 10)), none⟩]
def r4_3 : List PO := [⟨(some 11), (Op.move (Operand.tmp 4)), none⟩,
  ⟨(some 12), (Op.move (Operand.tmp 3)), none⟩,
  ⟨(some 13), (Op.binOp BinOp.neq 4 (Operand.tmp 11) (Operand.tmp 12) 4), none⟩]
def r4_4 : List PO := [⟨(some 2), (Op.assign (Operand.const (Value.bool false))), none⟩]
def r4_5 : List PO := [⟨(some 2), (Op.assign (Operand.const (Value.bool true))), none⟩]
def c4 : PC := (.seq (.reg r4_0) (.seq (.reg r4_1) (.seq (.reg r4_2) (.seq (.seq (.reg r4_3) (.cond (Operand.tmp 13) (.seq (.reg r4_4) .ret) .skip)) (.seq (.reg r4_5) .ret)))))
def i4 : FnI := ⟨14, [(ResultVar.tmp 2)], c4, 0, [[0, 0, 0, 0, 0]], [[0]], false⟩
-- loop.example/g00344/spec.GoodSession
def r14_0 : List PO := [⟨(some 1), (Op.box 23 (Operand.tmp 0)), none⟩,
  ⟨(some 2), (Op.assign (Operand.const (Value.bool false))), none⟩]
def r14_1 : List PO := [⟨(some 3), (Op.fieldAddr 23 (Operand.tmp 1) 0), none⟩,
  ⟨(some 4), (Op.load 3 (Operand.tmp 3)), none⟩,
  ⟨(some 5), (Op.call { callee := (Callee.value (Operand.func 39)), args := #[(Operand.tmp 4), (Operand.const (Value.int IntKind.i64 0)), (Operand.const (Value.int IntKind.i64 4))], argTypes := #[3, 3, 3] }), none⟩,
  ⟨(some 6), (Op.unOp UnOp.not 4 (Operand.tmp 5)), none⟩,
  ⟨(some 7), (Op.move (Operand.tmp 6)), none⟩,
  ⟨(some 8), (Op.fieldAddr 23 (Operand.tmp 1) 1), (some (7, false))⟩,
  ⟨(some 9), (Op.load 3 (Operand.tmp 8)), (some (7, false))⟩,
  ⟨(some 10), (Op.call { callee := (Callee.value (Operand.func 39)), args := #[(Operand.tmp 9), (Operand.const (Value.int IntKind.i64 3)), (Operand.const (Value.int IntKind.i64 90))], argTypes := #[3, 3, 3] }), (some (7, false))⟩,
  ⟨(some 11), (Op.unOp UnOp.not 4 (Operand.tmp 10)), (some (7, false))⟩,
  ⟨(some 12), (Op.pick (Operand.tmp 7) (Operand.const (Value.bool true)) (Operand.tmp 11)), none⟩,
  ⟨(some 13), (Op.move (Operand.tmp 12)), none⟩,
  ⟨(some 14), (Op.fieldAddr 23 (Operand.tmp 1) 4), (some (13, false))⟩,
  ⟨(some 15), (Op.load 3 (Operand.tmp 14)), (some (13, false))⟩,
  ⟨(some 16), (Op.call { callee := (Callee.value (Operand.func 39)), args := #[(Operand.tmp 15), (Operand.const (Value.int IntKind.i64 0)), (Operand.const (Value.int IntKind.i64 1000))], argTypes := #[3, 3, 3] }), (some (13, false))⟩,
  ⟨(some 17), (Op.unOp UnOp.not 4 (Operand.tmp 16)), (some (13, false))⟩,
  ⟨(some 18), (Op.pick (Operand.tmp 13) (Operand.const (Value.bool true)) (Operand.tmp 17)), none⟩]
def r14_2 : List PO := [⟨(some 2), (Op.assign (Operand.const (Value.bool false))), none⟩]
def r14_3 : List PO := [⟨(some 19), (Op.fieldAddr 23 (Operand.tmp 1) 0), none⟩,
  ⟨(some 20), (Op.load 3 (Operand.tmp 19)), none⟩]
def r14_4 : List PO := [⟨(some 22), (Op.binOp BinOp.eql 3 (Operand.tmp 20) (Operand.const (Value.int IntKind.i64 0)) 3), none⟩,
  ⟨(some 21), (Op.assign (Operand.tmp 22)), none⟩]
def r14_5 : List PO := [⟨(some 23), (Op.binOp BinOp.eql 3 (Operand.tmp 20) (Operand.const (Value.int IntKind.i64 1)) 3), none⟩,
  ⟨(some 21), (Op.assign (Operand.tmp 23)), none⟩]
def r14_6 : List PO := [⟨(some 24), (Op.fieldAddr 23 (Operand.tmp 1) 2), none⟩,
  ⟨(some 25), (Op.load 3 (Operand.tmp 24)), none⟩,
  ⟨(some 26), (Op.binOp BinOp.eql 3 (Operand.tmp 25) (Operand.const (Value.int IntKind.i64 0)) 3), none⟩,
  ⟨(some 27), (Op.move (Operand.tmp 26)), none⟩,
  ⟨(some 28), (Op.fieldAddr 23 (Operand.tmp 1) 3), (some (27, true))⟩,
  ⟨(some 29), (Op.load 3 (Operand.tmp 28)), (some (27, true))⟩,
  ⟨(some 30), (Op.binOp BinOp.eql 3 (Operand.tmp 29) (Operand.const (Value.int IntKind.i64 0)) 3), (some (27, true))⟩,
  ⟨(some 31), (Op.pick (Operand.tmp 27) (Operand.tmp 30) (Operand.const (Value.bool false))), none⟩,
  ⟨(some 2), (Op.assign (Operand.tmp 31)), none⟩]
def r14_7 : List PO := [⟨(some 33), (Op.binOp BinOp.eql 3 (Operand.tmp 20) (Operand.const (Value.int IntKind.i64 2)) 3), none⟩,
  ⟨(some 32), (Op.assign (Operand.tmp 33)), none⟩]
def r14_8 : List PO := [⟨(some 34), (Op.fieldAddr 23 (Operand.tmp 1) 2), none⟩,
  ⟨(some 35), (Op.load 3 (Operand.tmp 34)), none⟩,
  ⟨(some 36), (Op.call { callee := (Callee.value (Operand.func 39)), args := #[(Operand.tmp 35), (Operand.const (Value.int IntKind.i64 1)), (Operand.const (Value.int IntKind.i64 90))], argTypes := #[3, 3, 3] }), none⟩,
  ⟨(some 37), (Op.move (Operand.tmp 36)), none⟩,
  ⟨(some 38), (Op.fieldAddr 23 (Operand.tmp 1) 3), (some (37, true))⟩,
  ⟨(some 39), (Op.load 3 (Operand.tmp 38)), (some (37, true))⟩,
  ⟨(some 40), (Op.binOp BinOp.eql 3 (Operand.tmp 39) (Operand.const (Value.int IntKind.i64 0)) 3), (some (37, true))⟩,
  ⟨(some 41), (Op.pick (Operand.tmp 37) (Operand.tmp 40) (Operand.const (Value.bool false))), none⟩,
  ⟨(some 2), (Op.assign (Operand.tmp 41)), none⟩]
def r14_9 : List PO := [⟨(some 42), (Op.fieldAddr 23 (Operand.tmp 1) 2), none⟩,
  ⟨(some 43), (Op.load 3 (Operand.tmp 42)), none⟩,
  ⟨(some 44), (Op.call { callee := (Callee.value (Operand.func 39)), args := #[(Operand.tmp 43), (Operand.const (Value.int IntKind.i64 1)), (Operand.const (Value.int IntKind.i64 90))], argTypes := #[3, 3, 3] }), none⟩,
  ⟨(some 45), (Op.move (Operand.tmp 44)), none⟩,
  ⟨(some 46), (Op.fieldAddr 23 (Operand.tmp 1) 3), (some (45, true))⟩,
  ⟨(some 47), (Op.load 3 (Operand.tmp 46)), (some (45, true))⟩,
  ⟨(some 48), (Op.call { callee := (Callee.value (Operand.func 39)), args := #[(Operand.tmp 47), (Operand.const (Value.int IntKind.i64 1)), (Operand.const (Value.int IntKind.i64 30))], argTypes := #[3, 3, 3] }), (some (45, true))⟩,
  ⟨(some 49), (Op.pick (Operand.tmp 45) (Operand.tmp 48) (Operand.const (Value.bool false))), none⟩,
  ⟨(some 2), (Op.assign (Operand.tmp 49)), none⟩]
def c14 : PC := (.seq (.reg r14_0) (.seq (.seq (.reg r14_1) (.cond (Operand.tmp 18) (.seq (.reg r14_2) .ret) .skip)) (.seq (.seq (.reg r14_3) (.block 0 (.seq (.seq (.reg r14_4) (.cond (Operand.tmp 21) .skip (.reg r14_5))) (.cond (Operand.tmp 21) (.seq (.reg r14_6) .ret) (.seq (.reg r14_7) (.cond (Operand.tmp 32) (.seq (.reg r14_8) .ret) .skip)))))) (.seq (.reg r14_9) .ret))))
def i14 : FnI := ⟨50, [(ResultVar.tmp 2)], c14, 0, [[0, 0, 0, 0, 0]], [[0]], false⟩
-- loop.example/g00344/laws.toSession
def r15_0 : List PO := [⟨(some 1), (Op.box 28 (Operand.tmp 0)), none⟩,
  ⟨(some 2), (Op.alloc 23), none⟩]
def r15_1 : List PO := [⟨(some 3), (Op.alloc 23), none⟩]
def r15_2 : List PO := [⟨(some 4), (Op.fieldAddr 28 (Operand.tmp 1) 0), none⟩,
  ⟨(some 5), (Op.load 3 (Operand.tmp 4)), none⟩,
  ⟨(some 6), (Op.fieldAddr 23 (Operand.tmp 3) 0), none⟩,
  ⟨none, (Op.store 3 (Operand.tmp 6) (Operand.tmp 5)), none⟩]
def r15_3 : List PO := [⟨(some 7), (Op.fieldAddr 28 (Operand.tmp 1) 1), none⟩,
  ⟨(some 8), (Op.load 3 (Operand.tmp 7)), none⟩,
  ⟨(some 9), (Op.fieldAddr 23 (Operand.tmp 3) 1), none⟩,
  ⟨none, (Op.store 3 (Operand.tmp 9) (Operand.tmp 8)), none⟩]
def r15_4 : List PO := [⟨(some 10), (Op.fieldAddr 28 (Operand.tmp 1) 2), none⟩,
  ⟨(some 11), (Op.load 3 (Operand.tmp 10)), none⟩,
  ⟨(some 12), (Op.fieldAddr 23 (Operand.tmp 3) 2), none⟩,
  ⟨none, (Op.store 3 (Operand.tmp 12) (Operand.tmp 11)), none⟩]
def r15_5 : List PO := [⟨(some 13), (Op.fieldAddr 28 (Operand.tmp 1) 3), none⟩,
  ⟨(some 14), (Op.load 3 (Operand.tmp 13)), none⟩,
  ⟨(some 15), (Op.fieldAddr 23 (Operand.tmp 3) 3), none⟩,
  ⟨none, (Op.store 3 (Operand.tmp 15) (Operand.tmp 14)), none⟩]
def r15_6 : List PO := [⟨(some 16), (Op.fieldAddr 28 (Operand.tmp 1) 4), none⟩,
  ⟨(some 17), (Op.load 3 (Operand.tmp 16)), none⟩,
  ⟨(some 18), (Op.fieldAddr 23 (Operand.tmp 3) 4), none⟩,
  ⟨none, (Op.store 3 (Operand.tmp 18) (Operand.tmp 17)), none⟩]
def r15_7 : List PO := [⟨(some 19), (Op.load 23 (Operand.tmp 3)), none⟩,
  ⟨none, (Op.store 23 (Operand.tmp 2) (Operand.tmp 19)), none⟩]
def c15 : PC := (.seq (.reg r15_0) (.seq (.reg r15_1) (.seq (.reg r15_2) (.seq (.reg r15_3) (.seq (.reg r15_4) (.seq (.reg r15_5) (.seq (.reg r15_6) (.seq (.reg r15_7) .ret))))))))
def i15 : FnI := ⟨20, [(ResultVar.cell 2 23)], c15, 0, [[0, 0, 0, 0, 0]], [[0, 0, 0, 0, 0]], false⟩
-- loop.example/g00344/impl.GoodSession
def r16_0 : List PO := [⟨(some 1), (Op.box 23 (Operand.tmp 0)), none⟩,
  ⟨(some 2), (Op.assign (Operand.const (Value.bool false))), none⟩]
def r16_1 : List PO := [⟨(some 5), (Op.fieldAddr 23 (Operand.tmp 1) 0), none⟩,
  ⟨(some 6), (Op.load 3 (Operand.tmp 5)), none⟩,
  ⟨(some 7), (Op.call { callee := (Callee.value (Operand.func 40)), args := #[(Operand.tmp 6), (Operand.const (Value.int IntKind.i64 0)), (Operand.const (Value.int IntKind.i64 4))], argTypes := #[3, 3, 3] }), none⟩,
  ⟨(some 8), (Op.unOp UnOp.not 4 (Operand.tmp 7)), none⟩,
  ⟨(some 9), (Op.move (Operand.tmp 8)), none⟩,
  ⟨(some 10), (Op.fieldAddr 23 (Operand.tmp 1) 1), (some (9, false))⟩,
  ⟨(some 11), (Op.load 3 (Operand.tmp 10)), (some (9, false))⟩,
  ⟨(some 12), (Op.call { callee := (Callee.value (Operand.func 40)), args := #[(Operand.tmp 11), (Operand.const (Value.int IntKind.i64 3)), (Operand.const (Value.int IntKind.i64 90))], argTypes := #[3, 3, 3] }), (some (9, false))⟩,
  ⟨(some 13), (Op.unOp UnOp.not 4 (Operand.tmp 12)), (some (9, false))⟩,
  ⟨(some 14), (Op.pick (Operand.tmp 9) (Operand.const (Value.bool true)) (Operand.tmp 13)), none⟩,
  ⟨(some 15), (Op.move (Operand.tmp 14)), none⟩,
  ⟨(some 16), (Op.fieldAddr 23 (Operand.tmp 1) 4), (some (15, false))⟩,
  ⟨(some 17), (Op.load 3 (Operand.tmp 16)), (some (15, false))⟩,
  ⟨(some 18), (Op.call { callee := (Callee.value (Operand.func 40)), args := #[(Operand.tmp 17), (Operand.const (Value.int IntKind.i64 0)), (Operand.const (Value.int IntKind.i64 1000))], argTypes := #[3, 3, 3] }), (some (15, false))⟩,
  ⟨(some 19), (Op.unOp UnOp.not 4 (Operand.tmp 18)), (some (15, false))⟩,
  ⟨(some 20), (Op.pick (Operand.tmp 15) (Operand.const (Value.bool true)) (Operand.tmp 19)), none⟩]
def r16_2 : List PO := [⟨(some 2), (Op.assign (Operand.const (Value.bool false))), none⟩]
def r16_3 : List PO := [⟨(some 21), (Op.fieldAddr 23 (Operand.tmp 1) 2), none⟩,
  ⟨(some 22), (Op.load 3 (Operand.tmp 21)), none⟩,
  ⟨(some 23), (Op.binOp BinOp.eql 3 (Operand.tmp 22) (Operand.const (Value.int IntKind.i64 0)) 3), none⟩,
  ⟨(some 24), (Op.fieldAddr 23 (Operand.tmp 1) 3), none⟩,
  ⟨(some 25), (Op.load 3 (Operand.tmp 24)), none⟩,
  ⟨(some 26), (Op.binOp BinOp.eql 3 (Operand.tmp 25) (Operand.const (Value.int IntKind.i64 0)) 3), none⟩,
  ⟨(some 3), (Op.assign (Operand.tmp 23)), none⟩,
  ⟨(some 4), (Op.assign (Operand.tmp 26)), none⟩]
def r16_4 : List PO := [⟨(some 27), (Op.fieldAddr 23 (Operand.tmp 1) 0), none⟩,
  ⟨(some 28), (Op.load 3 (Operand.tmp 27)), none⟩,
  ⟨(some 29), (Op.binOp BinOp.geq 3 (Operand.tmp 28) (Operand.const (Value.int IntKind.i64 2)) 3), none⟩]
def r16_5 : List PO := [⟨(some 30), (Op.fieldAddr 23 (Operand.tmp 1) 2), none⟩,
  ⟨(some 31), (Op.load 3 (Operand.tmp 30)), none⟩,
  ⟨(some 32), (Op.call { callee := (Callee.value (Operand.func 40)), args := #[(Operand.tmp 31), (Operand.const (Value.int IntKind.i64 1)), (Operand.const (Value.int IntKind.i64 90))], argTypes := #[3, 3, 3] }), none⟩,
  ⟨(some 3), (Op.assign (Operand.tmp 32)), none⟩]
def r16_6 : List PO := [⟨(some 33), (Op.fieldAddr 23 (Operand.tmp 1) 0), none⟩,
  ⟨(some 34), (Op.load 3 (Operand.tmp 33)), none⟩,
  ⟨(some 35), (Op.binOp BinOp.geq 3 (Operand.tmp 34) (Operand.const (Value.int IntKind.i64 3)) 3), none⟩]
def r16_7 : List PO := [⟨(some 36), (Op.fieldAddr 23 (Operand.tmp 1) 3), none⟩,
  ⟨(some 37), (Op.load 3 (Operand.tmp 36)), none⟩,
  ⟨(some 38), (Op.call { callee := (Callee.value (Operand.func 40)), args := #[(Operand.tmp 37), (Operand.const (Value.int IntKind.i64 1)), (Operand.const (Value.int IntKind.i64 30))], argTypes := #[3, 3, 3] }), none⟩,
  ⟨(some 4), (Op.assign (Operand.tmp 38)), none⟩]
def r16_8 : List PO := [⟨(some 39), (Op.move (Operand.tmp 3)), none⟩,
  ⟨(some 40), (Op.move (Operand.tmp 39)), none⟩,
  ⟨(some 41), (Op.move (Operand.tmp 4)), (some (40, true))⟩,
  ⟨(some 42), (Op.pick (Operand.tmp 40) (Operand.tmp 41) (Operand.const (Value.bool false))), none⟩,
  ⟨(some 2), (Op.assign (Operand.tmp 42)), none⟩]
def c16 : PC := (.seq (.reg r16_0) (.seq (.seq (.reg r16_1) (.cond (Operand.tmp 20) (.seq (.reg r16_2) .ret) .skip)) (.seq (.fz r16_3) (.seq (.seq (.reg r16_4) (.cond (Operand.tmp 29) (.reg r16_5) .skip)) (.seq (.seq (.reg r16_6) (.cond (Operand.tmp 35) (.reg r16_7) .skip)) (.seq (.reg r16_8) .ret))))))
def i16 : FnI := ⟨43, [(ResultVar.tmp 2)], c16, 0, [[0, 0, 0, 0, 0]], [[0]], false⟩
-- loop.example/g00344/spec.l1In
def r39_0 : List PO := [⟨(some 6), (Op.assign (Operand.const (Value.bool false))), none⟩]
def r39_1 : List PO := [⟨(some 7), (Op.move (Operand.tmp 0)), none⟩,
  ⟨(some 8), (Op.move (Operand.tmp 1)), none⟩,
  ⟨(some 9), (Op.binOp BinOp.geq 3 (Operand.tmp 7) (Operand.tmp 8) 3), none⟩,
  ⟨(some 10), (Op.move (Operand.tmp 9)), none⟩,
  ⟨(some 11), (Op.move (Operand.tmp 0)), (some (10, true))⟩,
  ⟨(some 12), (Op.move (Operand.tmp 2)), (some (10, true))⟩,
  ⟨(some 13), (Op.binOp BinOp.leq 3 (Operand.tmp 11) (Operand.tmp 12) 3), (some (10, true))⟩,
  ⟨(some 14), (Op.pick (Operand.tmp 10) (Operand.tmp 13) (Operand.const (Value.bool false))), none⟩,
  ⟨(some 6), (Op.assign (Operand.tmp 14)), none⟩]
def c39 : PC := (.seq (.reg r39_0) (.seq (.reg r39_1) .ret))
def i39 : FnI := ⟨15, [(ResultVar.tmp 6)], c39, 0, [[0], [0], [0]], [[0]], false⟩
-- loop.example/g00344/impl.within
def r40_0 : List PO := [⟨(some 6), (Op.assign (Operand.const (Value.bool false))), none⟩]
def r40_1 : List PO := [⟨(some 7), (Op.move (Operand.tmp 0)), none⟩,
  ⟨(some 8), (Op.move (Operand.tmp 1)), none⟩,
  ⟨(some 9), (Op.binOp BinOp.geq 3 (Operand.tmp 7) (Operand.tmp 8) 3), none⟩,
  ⟨(some 10), (Op.move (Operand.tmp 9)), none⟩,
  ⟨(some 11), (Op.move (Operand.tmp 0)), (some (10, true))⟩,
  ⟨(some 12), (Op.move (Operand.tmp 2)), (some (10, true))⟩,
  ⟨(some 13), (Op.binOp BinOp.leq 3 (Operand.tmp 11) (Operand.tmp 12) 3), (some (10, true))⟩,
  ⟨(some 14), (Op.pick (Operand.tmp 10) (Operand.tmp 13) (Operand.const (Value.bool false))), none⟩,
  ⟨(some 6), (Op.assign (Operand.tmp 14)), none⟩]
def c40 : PC := (.seq (.reg r40_0) (.seq (.reg r40_1) .ret))
def i40 : FnI := ⟨15, [(ResultVar.tmp 6)], c40, 0, [[0], [0], [0]], [[0]], false⟩
def tys : List (Nat × TyI) := [(3, ⟨1, 8, false, [.int .i64 0], [0], 0, [], .int .i64, false⟩),
  (4, ⟨1, 1, false, [.bool false], [0], 0, [], .bool, false⟩),
  (23, ⟨5, 40, true, [.int .i64 0, .int .i64 0, .int .i64 0, .int .i64 0, .int .i64 0], [0, 0, 0, 0, 0], 0, [(0, 1, false), (1, 1, false), (2, 1, false), (3, 1, false), (4, 1, false)], .other, false⟩),
  (28, ⟨5, 40, true, [.int .i64 0, .int .i64 0, .int .i64 0, .int .i64 0, .int .i64 0], [0, 0, 0, 0, 0], 0, [(0, 1, false), (1, 1, false), (2, 1, false), (3, 1, false), (4, 1, false)], .other, false⟩)]
def fns : List (Nat × FnI) := [(4, i4), (14, i14), (15, i15), (16, i16), (39, i39), (40, i40)]
def T : Tab := mkTab tys fns
@[simp] theorem ty3 : T.ty 3 = some ⟨1, 8, false, [.int .i64 0], [0], 0, [], .int .i64, false⟩ := rfl
@[simp] theorem base3 : T.baseOf 3 = Bs.int .i64 := rfl
@[simp] theorem ty4 : T.ty 4 = some ⟨1, 1, false, [.bool false], [0], 0, [], .bool, false⟩ := rfl
@[simp] theorem base4 : T.baseOf 4 = Bs.bool := rfl
@[simp] theorem ty23 : T.ty 23 = some ⟨5, 40, true, [.int .i64 0, .int .i64 0, .int .i64 0, .int .i64 0, .int .i64 0], [0, 0, 0, 0, 0], 0, [(0, 1, false), (1, 1, false), (2, 1, false), (3, 1, false), (4, 1, false)], .other, false⟩ := rfl
@[simp] theorem base23 : T.baseOf 23 = Bs.other := rfl
@[simp] theorem ty28 : T.ty 28 = some ⟨5, 40, true, [.int .i64 0, .int .i64 0, .int .i64 0, .int .i64 0, .int .i64 0], [0, 0, 0, 0, 0], 0, [(0, 1, false), (1, 1, false), (2, 1, false), (3, 1, false), (4, 1, false)], .other, false⟩ := rfl
@[simp] theorem base28 : T.baseOf 28 = Bs.other := rfl
theorem ok4 : FnOk Try.prog (4, i4) := ⟨Try.f4, _, Try.func4, rfl, by kernel_rfl, rfl, rfl, by kernel_rfl⟩
theorem ok14 : FnOk Try.prog (14, i14) := ⟨Try.f14, _, Try.func14, rfl, by kernel_rfl, rfl, rfl, by kernel_rfl⟩
theorem ok15 : FnOk Try.prog (15, i15) := ⟨Try.f15, _, Try.func15, rfl, by kernel_rfl, rfl, rfl, by kernel_rfl⟩
theorem ok16 : FnOk Try.prog (16, i16) := ⟨Try.f16, _, Try.func16, rfl, by kernel_rfl, rfl, rfl, by kernel_rfl⟩
theorem ok39 : FnOk Try.prog (39, i39) := ⟨Try.f39, _, Try.func39, rfl, by kernel_rfl, rfl, rfl, by kernel_rfl⟩
theorem ok40 : FnOk Try.prog (40, i40) := ⟨Try.f40, _, Try.func40, rfl, by kernel_rfl, rfl, rfl, by kernel_rfl⟩
theorem tab : TabOk Try.prog T := tabOk_of (by kernel_rfl) (.cons ok4 (.cons ok14 (.cons ok15 (.cons ok16 (.cons ok39 (.cons ok40 (.nil)))))))
theorem fn4 : T.fn 4 = some i4 := rfl
theorem fn14 : T.fn 14 = some i14 := rfl
theorem fn15 : T.fn 15 = some i15 := rfl
theorem fn16 : T.fn 16 = some i16 := rfl
theorem fn39 : T.fn 39 = some i39 := rfl
theorem fn40 : T.fn 40 = some i40 := rfl

end Go.Pi.Ytcihklkihglmjaa.GoodSession
