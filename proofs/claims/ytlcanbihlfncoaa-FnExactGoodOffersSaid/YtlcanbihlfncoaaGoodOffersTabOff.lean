/- What functions of the program answer, and that the law answers true at every input; no condition -/
import Derived.Test.YtlcanbihlfncoaaProg
import Derived.Test.YtlcanbihlfncoaaPiB
set_option linter.all false
/- The program's tables for Pi: types and functions, as they stand in the loaded program. -/
namespace Go.Pi.Ytlcanbihlfncoaa
open Go Go.Proofs Go.Pi
set_option maxRecDepth 100000

-- loop.example/g00344/laws.FnExactGoodOffers
def r3_0 : List PO := [⟨(some 2), (Op.assign (Operand.const (Value.bool false))), none⟩]
def r3_1 : List PO := [⟨(some 3), (Op.assign (Operand.const (Value.int IntKind.i64 1048576))), none⟩]
def r3_2 : List PO := [⟨(some 7), (Op.move (Operand.tmp 0)), none⟩,
  ⟨(some 8), (Op.move (Operand.tmp 3)), none⟩,
  ⟨(some 9), (Op.call { callee := (Callee.value (Operand.func 12)), args := #[(Operand.tmp 7), (Operand.tmp 8)], argTypes := #[22, 3] }), none⟩,
  ⟨(some 3), (Op.assign (Operand.tmp 9)), none⟩]
def r3_3 : List PO := [⟨(some 10), (Op.move (Operand.tmp 3)), none⟩,
  ⟨(some 11), (Op.binOp BinOp.lss 3 (Operand.tmp 10) (Operand.const (Value.int IntKind.i64 0)) 3), none⟩]
def r3_4 : List PO := [⟨(some 2), (Op.assign (Operand.const (Value.bool true))), none⟩]
def r3_5 : List PO := [⟨(some 12), (Op.move (Operand.tmp 0)), none⟩,
  ⟨(some 13), (Op.call { callee := (Callee.value (Operand.func 14)), args := #[(Operand.tmp 12)], argTypes := #[22] }), none⟩,
  ⟨(some 14), (Op.call { callee := (Callee.value (Operand.func 13)), args := #[(Operand.tmp 13)], argTypes := #[25] }), none⟩,
  ⟨(some 4), (Op.assign (Operand.tmp 14)), none⟩]
def r3_6 : List PO := [⟨(some 15), (Op.move (Operand.tmp 0)), none⟩,
  ⟨(some 16), (Op.call { callee := (Callee.value (Operand.func 14)), args := #[(Operand.tmp 15)], argTypes := #[22] }), none⟩,
  ⟨(some 5), (Op.assign (Operand.tmp 16)), none⟩]
def r3_7 : List PO := [⟨(some 17), (Op.move (Operand.tmp 5)), none⟩,
  ⟨(some 18), (Op.call { callee := (Callee.value (Operand.func 15)), args := #[(Operand.tmp 17)], argTypes := #[25] }), none⟩,
  ⟨(some 6), (Op.assign (Operand.tmp 18)), none⟩]
def r3_8 : List PO := [⟨(some 19), (Op.move (Operand.tmp 6)), none⟩,
  ⟨(some 20), (Op.move (Operand.tmp 4)), none⟩,
  ⟨(some 21), (Op.binOp BinOp.neq 4 (Operand.tmp 19) (Operand.tmp 20) 4), none⟩]
def r3_9 : List PO := [⟨(some 2), (Op.assign (Operand.const (Value.bool false))), none⟩]
def r3_10 : List PO := [⟨(some 22), (Op.move (Operand.tmp 5)), none⟩,
  ⟨(some 23), (Op.move (Operand.tmp 0)), none⟩,
  ⟨(some 24), (Op.call { callee := (Callee.value (Operand.func 14)), args := #[(Operand.tmp 23)], argTypes := #[22] }), none⟩,
  ⟨(some 25), (Op.call { callee := (Callee.value (Operand.func 16)), args := #[(Operand.tmp 22), (Operand.tmp 24)], argTypes := #[25, 25] }), none⟩,
  ⟨(some 26), (Op.unOp UnOp.not 4 (Operand.tmp 25)), none⟩]
def r3_11 : List PO := [⟨(some 2), (Op.assign (Operand.const (Value.bool false))), none⟩]
def r3_12 : List PO := [⟨(some 2), (Op.assign (Operand.const (Value.bool true))), none⟩]
def c3 : PC := (.seq (.reg r3_0) (.seq (.reg r3_1) (.seq (.reg r3_2) (.seq (.seq (.reg r3_3) (.cond (Operand.tmp 11) (.seq (.reg r3_4) .ret) .skip)) (.seq (.reg r3_5) (.seq (.reg r3_6) (.seq (.reg r3_7) (.seq (.seq (.reg r3_8) (.cond (Operand.tmp 21) (.seq (.reg r3_9) .ret) .skip)) (.seq (.seq (.reg r3_10) (.cond (Operand.tmp 26) (.seq (.reg r3_11) .ret) .skip)) (.seq (.reg r3_12) .ret))))))))))
def i3 : FnI := ⟨27, [(ResultVar.tmp 2)], c3, 0, [[7]], [[0]], false⟩
-- loop.example/g00344/laws.szOfferS
def r12_0 : List PO := [⟨(some 4), (Op.assign (Operand.const (Value.int IntKind.i64 0))), none⟩]
def r12_1 : List PO := [⟨(some 6), (Op.move (Operand.tmp 1)), none⟩,
  ⟨(some 7), (Op.move (Operand.tmp 0)), none⟩,
  ⟨(some 8), (Op.call { callee := (Callee.builtin Builtin.len), args := #[(Operand.tmp 7)], argTypes := #[22] }), none⟩,
  ⟨(some 9), (Op.binOp BinOp.sub 3 (Operand.tmp 6) (Operand.tmp 8) 3), none⟩,
  ⟨(some 1), (Op.assign (Operand.tmp 9)), none⟩]
def r12_2 : List PO := [⟨(some 10), (Op.move (Operand.tmp 1)), none⟩,
  ⟨(some 11), (Op.binOp BinOp.lss 3 (Operand.tmp 10) (Operand.const (Value.int IntKind.i64 0)) 3), none⟩]
def r12_3 : List PO := [⟨(some 4), (Op.assign (Operand.const (Value.int IntKind.i64 (-1)))), none⟩]
def r12_4 : List PO := [⟨(some 5), (Op.assign (Operand.const (Value.int IntKind.i64 0))), none⟩]
def r12_5 : List PO := [⟨(some 12), (Op.move (Operand.tmp 5)), none⟩,
  ⟨(some 13), (Op.move (Operand.tmp 0)), none⟩,
  ⟨(some 14), (Op.call { callee := (Callee.builtin Builtin.len), args := #[(Operand.tmp 13)], argTypes := #[22] }), none⟩,
  ⟨(some 15), (Op.binOp BinOp.lss 3 (Operand.tmp 12) (Operand.tmp 14) 3), none⟩]
def r12_7 : List PO := [⟨(some 18), (Op.move (Operand.tmp 0)), none⟩,
  ⟨(some 19), (Op.move (Operand.tmp 5)), none⟩,
  ⟨(some 20), (Op.indexAddr 22 (Operand.tmp 18) (Operand.tmp 19)), none⟩,
  ⟨(some 21), (Op.load 33 (Operand.tmp 20)), none⟩,
  ⟨(some 22), (Op.move (Operand.tmp 1)), none⟩,
  ⟨(some 23), (Op.call { callee := (Callee.value (Operand.func 17)), args := #[(Operand.tmp 21), (Operand.tmp 22)], argTypes := #[33, 3] }), none⟩,
  ⟨(some 1), (Op.assign (Operand.tmp 23)), none⟩]
def r12_8 : List PO := [⟨(some 24), (Op.move (Operand.tmp 1)), none⟩,
  ⟨(some 25), (Op.binOp BinOp.lss 3 (Operand.tmp 24) (Operand.const (Value.int IntKind.i64 0)) 3), none⟩]
def r12_9 : List PO := [⟨(some 4), (Op.assign (Operand.const (Value.int IntKind.i64 (-1)))), none⟩]
def r12_6 : List PO := [⟨(some 16), (Op.move (Operand.tmp 5)), none⟩,
  ⟨(some 17), (Op.binOp BinOp.add 3 (Operand.tmp 16) (Operand.const (Value.int IntKind.i64 1)) 3), none⟩,
  ⟨(some 5), (Op.assign (Operand.tmp 17)), none⟩]
def l12_0 : PC := (.seq (.seq (.reg r12_5) (.cond (Operand.tmp 15) .skip (.exit 0))) (.seq (.block 1 (.seq (.reg r12_7) (.seq (.reg r12_8) (.cond (Operand.tmp 25) (.seq (.reg r12_9) .ret) .skip)))) (.reg r12_6)))
def r12_10 : List PO := [⟨(some 26), (Op.move (Operand.tmp 1)), none⟩,
  ⟨(some 4), (Op.assign (Operand.tmp 26)), none⟩]
def c12 : PC := (.seq (.reg r12_0) (.seq (.reg r12_1) (.seq (.seq (.reg r12_2) (.cond (Operand.tmp 11) (.seq (.reg r12_3) .ret) .skip)) (.seq (.seq (.reg r12_4) (.block 0 (.loop l12_0))) (.seq (.reg r12_10) .ret)))))
def i12 : FnI := ⟨27, [(ResultVar.tmp 4)], c12, 0, [[7], [0]], [[0]], false⟩
-- loop.example/g00344/spec.GoodOffers
def r13_0 : List PO := [⟨(some 2), (Op.assign (Operand.const (Value.bool false))), none⟩]
def r13_1 : List PO := [⟨(some 5), (Op.move (Operand.tmp 0)), none⟩,
  ⟨(some 6), (Op.call { callee := (Callee.builtin Builtin.len), args := #[(Operand.tmp 5)], argTypes := #[25] }), none⟩,
  ⟨(some 7), (Op.move (Operand.const (Value.int IntKind.i64 0))), none⟩]
def r13_2 : List PO := [⟨(some 8), (Op.binOp BinOp.lss 3 (Operand.tmp 7) (Operand.tmp 6) 3), none⟩]
def r13_3 : List PO := [⟨(some 9), (Op.move (Operand.tmp 7)), none⟩,
  ⟨(some 10), (Op.indexAddr 25 (Operand.tmp 5) (Operand.tmp 7)), none⟩,
  ⟨(some 11), (Op.load 39 (Operand.tmp 10)), none⟩,
  ⟨(some 4), (Op.alloc 39), none⟩,
  ⟨(some 3), (Op.assign (Operand.tmp 9)), none⟩,
  ⟨none, (Op.store 39 (Operand.tmp 4) (Operand.tmp 11)), none⟩]
def r13_4 : List PO := [⟨(some 12), (Op.fieldAddr 39 (Operand.tmp 4) 0), none⟩,
  ⟨(some 13), (Op.load 3 (Operand.tmp 12)), none⟩,
  ⟨(some 14), (Op.call { callee := (Callee.value (Operand.func 48)), args := #[(Operand.tmp 13), (Operand.const (Value.int IntKind.i64 0)), (Operand.const (Value.int IntKind.i64 5))], argTypes := #[3, 3, 3] }), none⟩,
  ⟨(some 15), (Op.unOp UnOp.not 4 (Operand.tmp 14)), none⟩,
  ⟨(some 16), (Op.move (Operand.tmp 15)), none⟩,
  ⟨(some 17), (Op.fieldAddr 39 (Operand.tmp 4) 1), (some (16, false))⟩,
  ⟨(some 18), (Op.load 37 (Operand.tmp 17)), (some (16, false))⟩,
  ⟨(some 19), (Op.call { callee := (Callee.value (Operand.func 49)), args := #[(Operand.tmp 18)], argTypes := #[37] }), (some (16, false))⟩,
  ⟨(some 20), (Op.unOp UnOp.not 4 (Operand.tmp 19)), (some (16, false))⟩,
  ⟨(some 21), (Op.pick (Operand.tmp 16) (Operand.const (Value.bool true)) (Operand.tmp 20)), none⟩,
  ⟨(some 22), (Op.move (Operand.tmp 21)), none⟩,
  ⟨(some 23), (Op.move (Operand.tmp 3)), (some (22, false))⟩,
  ⟨(some 24), (Op.binOp BinOp.gtr 3 (Operand.tmp 23) (Operand.const (Value.int IntKind.i64 0)) 3), (some (22, false))⟩,
  ⟨(some 25), (Op.move (Operand.tmp 24)), (some (22, false))⟩,
  ⟨(some 26), (Op.move (Operand.tmp 0)), (some (25, true))⟩,
  ⟨(some 27), (Op.move (Operand.tmp 3)), (some (25, true))⟩,
  ⟨(some 28), (Op.binOp BinOp.sub 3 (Operand.tmp 27) (Operand.const (Value.int IntKind.i64 1)) 3), (some (25, true))⟩,
  ⟨(some 29), (Op.indexAddr 25 (Operand.tmp 26) (Operand.tmp 28)), (some (25, true))⟩,
  ⟨(some 30), (Op.fieldAddr 39 (Operand.tmp 29) 0), (some (25, true))⟩,
  ⟨(some 31), (Op.load 3 (Operand.tmp 30)), (some (25, true))⟩,
  ⟨(some 32), (Op.fieldAddr 39 (Operand.tmp 4) 0), (some (25, true))⟩,
  ⟨(some 33), (Op.load 3 (Operand.tmp 32)), (some (25, true))⟩,
  ⟨(some 34), (Op.binOp BinOp.geq 3 (Operand.tmp 31) (Operand.tmp 33) 3), (some (25, true))⟩,
  ⟨(some 35), (Op.pick (Operand.tmp 25) (Operand.tmp 34) (Operand.const (Value.bool false))), (some (22, false))⟩,
  ⟨(some 36), (Op.pick (Operand.tmp 22) (Operand.const (Value.bool true)) (Operand.tmp 35)), none⟩]
def r13_5 : List PO := [⟨(some 2), (Op.assign (Operand.const (Value.bool false))), none⟩]
def r13_6 : List PO := [⟨(some 37), (Op.binOp BinOp.add 3 (Operand.tmp 7) (Operand.const (Value.int IntKind.i64 1)) 3), none⟩,
  ⟨(some 7), (Op.move (Operand.tmp 37)), none⟩]
def l13_0 : PC := (.seq (.reg r13_2) (.seq (.cond (Operand.tmp 8) .skip (.exit 0)) (.seq (.block 1 (.seq (.reg r13_3) (.seq (.fz r13_4) (.cond (Operand.tmp 36) (.seq (.reg r13_5) .ret) .skip)))) (.reg r13_6))))
def r13_7 : List PO := [⟨(some 2), (Op.assign (Operand.const (Value.bool true))), none⟩]
def c13 : PC := (.seq (.reg r13_0) (.seq (.seq (.reg r13_1) (.block 0 (.loop l13_0))) (.seq (.reg r13_7) .ret)))
def i13 : FnI := ⟨38, [(ResultVar.tmp 2)], c13, 0, [[7]], [[0]], false⟩
-- loop.example/g00344/laws.toOfferS
def r14_0 : List PO := [⟨(some 2), (Op.assign (Operand.const (Value.slice none 0 0))), none⟩]
def r14_1 : List PO := [⟨(some 5), (Op.move (Operand.tmp 0)), none⟩,
  ⟨(some 6), (Op.call { callee := (Callee.builtin Builtin.len), args := #[(Operand.tmp 5)], argTypes := #[22] }), none⟩,
  ⟨(some 7), (Op.makeSlice 25 (Operand.tmp 6) (Operand.tmp 6)), none⟩,
  ⟨(some 3), (Op.assign (Operand.tmp 7)), none⟩]
def r14_2 : List PO := [⟨(some 4), (Op.assign (Operand.const (Value.int IntKind.i64 0))), none⟩]
def r14_3 : List PO := [⟨(some 8), (Op.move (Operand.tmp 4)), none⟩,
  ⟨(some 9), (Op.move (Operand.tmp 0)), none⟩,
  ⟨(some 10), (Op.call { callee := (Callee.builtin Builtin.len), args := #[(Operand.tmp 9)], argTypes := #[22] }), none⟩,
  ⟨(some 11), (Op.binOp BinOp.lss 3 (Operand.tmp 8) (Operand.tmp 10) 3), none⟩]
def r14_5 : List PO := [⟨(some 14), (Op.move (Operand.tmp 3)), none⟩,
  ⟨(some 15), (Op.move (Operand.tmp 4)), none⟩,
  ⟨(some 16), (Op.move (Operand.tmp 0)), none⟩,
  ⟨(some 17), (Op.move (Operand.tmp 4)), none⟩,
  ⟨(some 18), (Op.indexAddr 22 (Operand.tmp 16) (Operand.tmp 17)), none⟩,
  ⟨(some 19), (Op.load 33 (Operand.tmp 18)), none⟩,
  ⟨(some 20), (Op.call { callee := (Callee.value (Operand.func 19)), args := #[(Operand.tmp 19)], argTypes := #[33] }), none⟩,
  ⟨(some 21), (Op.indexAddr 25 (Operand.tmp 14) (Operand.tmp 15)), none⟩,
  ⟨none, (Op.store 39 (Operand.tmp 21) (Operand.tmp 20)), none⟩]
def r14_4 : List PO := [⟨(some 12), (Op.move (Operand.tmp 4)), none⟩,
  ⟨(some 13), (Op.binOp BinOp.add 3 (Operand.tmp 12) (Operand.const (Value.int IntKind.i64 1)) 3), none⟩,
  ⟨(some 4), (Op.assign (Operand.tmp 13)), none⟩]
def l14_0 : PC := (.seq (.seq (.reg r14_3) (.cond (Operand.tmp 11) .skip (.exit 0))) (.seq (.block 1 (.reg r14_5)) (.reg r14_4)))
def r14_6 : List PO := [⟨(some 22), (Op.move (Operand.tmp 3)), none⟩,
  ⟨(some 2), (Op.assign (Operand.tmp 22)), none⟩]
def c14 : PC := (.seq (.reg r14_0) (.seq (.reg r14_1) (.seq (.seq (.reg r14_2) (.block 0 (.loop l14_0))) (.seq (.reg r14_6) .ret))))
def i14 : FnI := ⟨23, [(ResultVar.tmp 2)], c14, 0, [[7]], [[7]], false⟩
-- loop.example/g00344/impl.GoodOffers
def r15_0 : List PO := [⟨(some 2), (Op.assign (Operand.const (Value.bool false))), none⟩]
def r15_1 : List PO := [⟨(some 5), (Op.move (Operand.tmp 0)), none⟩,
  ⟨(some 6), (Op.call { callee := (Callee.builtin Builtin.len), args := #[(Operand.tmp 5)], argTypes := #[25] }), none⟩,
  ⟨(some 7), (Op.move (Operand.const (Value.int IntKind.i64 0))), none⟩]
def r15_2 : List PO := [⟨(some 8), (Op.binOp BinOp.lss 3 (Operand.tmp 7) (Operand.tmp 6) 3), none⟩]
def r15_3 : List PO := [⟨(some 9), (Op.move (Operand.tmp 7)), none⟩,
  ⟨(some 10), (Op.indexAddr 25 (Operand.tmp 5) (Operand.tmp 7)), none⟩,
  ⟨(some 11), (Op.load 39 (Operand.tmp 10)), none⟩,
  ⟨(some 4), (Op.alloc 39), none⟩,
  ⟨(some 3), (Op.assign (Operand.tmp 9)), none⟩,
  ⟨none, (Op.store 39 (Operand.tmp 4) (Operand.tmp 11)), none⟩]
def r15_4 : List PO := [⟨(some 12), (Op.load 39 (Operand.tmp 4)), none⟩,
  ⟨(some 13), (Op.call { callee := (Callee.value (Operand.func 50)), args := #[(Operand.tmp 12)], argTypes := #[39] }), none⟩,
  ⟨(some 14), (Op.unOp UnOp.not 4 (Operand.tmp 13)), none⟩,
  ⟨(some 15), (Op.move (Operand.tmp 14)), none⟩,
  ⟨(some 16), (Op.move (Operand.tmp 3)), (some (15, false))⟩,
  ⟨(some 17), (Op.binOp BinOp.gtr 3 (Operand.tmp 16) (Operand.const (Value.int IntKind.i64 0)) 3), (some (15, false))⟩,
  ⟨(some 18), (Op.move (Operand.tmp 17)), (some (15, false))⟩,
  ⟨(some 19), (Op.fieldAddr 39 (Operand.tmp 4) 0), (some (18, true))⟩,
  ⟨(some 20), (Op.load 3 (Operand.tmp 19)), (some (18, true))⟩,
  ⟨(some 21), (Op.move (Operand.tmp 0)), (some (18, true))⟩,
  ⟨(some 22), (Op.move (Operand.tmp 3)), (some (18, true))⟩,
  ⟨(some 23), (Op.binOp BinOp.sub 3 (Operand.tmp 22) (Operand.const (Value.int IntKind.i64 1)) 3), (some (18, true))⟩,
  ⟨(some 24), (Op.indexAddr 25 (Operand.tmp 21) (Operand.tmp 23)), (some (18, true))⟩,
  ⟨(some 25), (Op.fieldAddr 39 (Operand.tmp 24) 0), (some (18, true))⟩,
  ⟨(some 26), (Op.load 3 (Operand.tmp 25)), (some (18, true))⟩,
  ⟨(some 27), (Op.binOp BinOp.leq 3 (Operand.tmp 20) (Operand.tmp 26) 3), (some (18, true))⟩,
  ⟨(some 28), (Op.pick (Operand.tmp 18) (Operand.tmp 27) (Operand.const (Value.bool false))), (some (15, false))⟩,
  ⟨(some 29), (Op.pick (Operand.tmp 15) (Operand.const (Value.bool true)) (Operand.tmp 28)), none⟩]
def r15_5 : List PO := [⟨(some 2), (Op.assign (Operand.const (Value.bool false))), none⟩]
def r15_6 : List PO := [⟨(some 30), (Op.binOp BinOp.add 3 (Operand.tmp 7) (Operand.const (Value.int IntKind.i64 1)) 3), none⟩,
  ⟨(some 7), (Op.move (Operand.tmp 30)), none⟩]
def l15_0 : PC := (.seq (.reg r15_2) (.seq (.cond (Operand.tmp 8) .skip (.exit 0)) (.seq (.block 1 (.seq (.reg r15_3) (.seq (.fz r15_4) (.cond (Operand.tmp 29) (.seq (.reg r15_5) .ret) .skip)))) (.reg r15_6))))
def r15_7 : List PO := [⟨(some 2), (Op.assign (Operand.const (Value.bool true))), none⟩]
def c15 : PC := (.seq (.reg r15_0) (.seq (.seq (.reg r15_1) (.block 0 (.loop l15_0))) (.seq (.reg r15_7) .ret)))
def i15 : FnI := ⟨31, [(ResultVar.tmp 2)], c15, 0, [[7]], [[0]], false⟩
-- loop.example/g00344/laws.eqOfferS
def r16_0 : List PO := [⟨(some 4), (Op.assign (Operand.const (Value.bool false))), none⟩]
def r16_1 : List PO := [⟨(some 6), (Op.move (Operand.tmp 0)), none⟩,
  ⟨(some 7), (Op.call { callee := (Callee.builtin Builtin.len), args := #[(Operand.tmp 6)], argTypes := #[25] }), none⟩,
  ⟨(some 8), (Op.move (Operand.tmp 1)), none⟩,
  ⟨(some 9), (Op.call { callee := (Callee.builtin Builtin.len), args := #[(Operand.tmp 8)], argTypes := #[25] }), none⟩,
  ⟨(some 10), (Op.binOp BinOp.neq 3 (Operand.tmp 7) (Operand.tmp 9) 3), none⟩]
def r16_2 : List PO := [⟨(some 4), (Op.assign (Operand.const (Value.bool false))), none⟩]
def r16_3 : List PO := [⟨(some 5), (Op.assign (Operand.const (Value.int IntKind.i64 0))), none⟩]
def r16_4 : List PO := [⟨(some 11), (Op.move (Operand.tmp 5)), none⟩,
  ⟨(some 12), (Op.move (Operand.tmp 0)), none⟩,
  ⟨(some 13), (Op.call { callee := (Callee.builtin Builtin.len), args := #[(Operand.tmp 12)], argTypes := #[25] }), none⟩,
  ⟨(some 14), (Op.binOp BinOp.lss 3 (Operand.tmp 11) (Operand.tmp 13) 3), none⟩]
def r16_6 : List PO := [⟨(some 17), (Op.move (Operand.tmp 0)), none⟩,
  ⟨(some 18), (Op.move (Operand.tmp 5)), none⟩,
  ⟨(some 19), (Op.indexAddr 25 (Operand.tmp 17) (Operand.tmp 18)), none⟩,
  ⟨(some 20), (Op.load 39 (Operand.tmp 19)), none⟩,
  ⟨(some 21), (Op.move (Operand.tmp 1)), none⟩,
  ⟨(some 22), (Op.move (Operand.tmp 5)), none⟩,
  ⟨(some 23), (Op.indexAddr 25 (Operand.tmp 21) (Operand.tmp 22)), none⟩,
  ⟨(some 24), (Op.load 39 (Operand.tmp 23)), none⟩,
  ⟨(some 25), (Op.call { callee := (Callee.value (Operand.func 21)), args := #[(Operand.tmp 20), (Operand.tmp 24)], argTypes := #[39, 39] }), none⟩,
  ⟨(some 26), (Op.unOp UnOp.not 4 (Operand.tmp 25)), none⟩]
def r16_7 : List PO := [⟨(some 4), (Op.assign (Operand.const (Value.bool false))), none⟩]
def r16_5 : List PO := [⟨(some 15), (Op.move (Operand.tmp 5)), none⟩,
  ⟨(some 16), (Op.binOp BinOp.add 3 (Operand.tmp 15) (Operand.const (Value.int IntKind.i64 1)) 3), none⟩,
  ⟨(some 5), (Op.assign (Operand.tmp 16)), none⟩]
def l16_0 : PC := (.seq (.seq (.reg r16_4) (.cond (Operand.tmp 14) .skip (.exit 0))) (.seq (.block 1 (.seq (.fz r16_6) (.cond (Operand.tmp 26) (.seq (.reg r16_7) .ret) .skip))) (.reg r16_5)))
def r16_8 : List PO := [⟨(some 4), (Op.assign (Operand.const (Value.bool true))), none⟩]
def c16 : PC := (.seq (.reg r16_0) (.seq (.seq (.reg r16_1) (.cond (Operand.tmp 10) (.seq (.reg r16_2) .ret) .skip)) (.seq (.seq (.reg r16_3) (.block 0 (.loop l16_0))) (.seq (.reg r16_8) .ret))))
def i16 : FnI := ⟨27, [(ResultVar.tmp 4)], c16, 0, [[7], [7]], [[0]], false⟩
-- loop.example/g00344/laws.szOffer
def r17_0 : List PO := [⟨(some 2), (Op.box 33 (Operand.tmp 0)), none⟩,
  ⟨(some 4), (Op.assign (Operand.const (Value.int IntKind.i64 0))), none⟩]
def r17_1 : List PO := [⟨(some 5), (Op.fieldAddr 33 (Operand.tmp 2) 1), none⟩,
  ⟨(some 6), (Op.load 31 (Operand.tmp 5)), none⟩,
  ⟨(some 7), (Op.move (Operand.tmp 1)), none⟩,
  ⟨(some 8), (Op.call { callee := (Callee.value (Operand.func 51)), args := #[(Operand.tmp 6), (Operand.tmp 7)], argTypes := #[31, 3] }), none⟩,
  ⟨(some 1), (Op.assign (Operand.tmp 8)), none⟩]
def r17_2 : List PO := [⟨(some 9), (Op.move (Operand.tmp 1)), none⟩,
  ⟨(some 10), (Op.binOp BinOp.lss 3 (Operand.tmp 9) (Operand.const (Value.int IntKind.i64 0)) 3), none⟩]
def r17_3 : List PO := [⟨(some 4), (Op.assign (Operand.const (Value.int IntKind.i64 (-1)))), none⟩]
def r17_4 : List PO := [⟨(some 11), (Op.move (Operand.tmp 1)), none⟩,
  ⟨(some 4), (Op.assign (Operand.tmp 11)), none⟩]
def c17 : PC := (.seq (.reg r17_0) (.seq (.reg r17_1) (.seq (.seq (.reg r17_2) (.cond (Operand.tmp 10) (.seq (.reg r17_3) .ret) .skip)) (.seq (.reg r17_4) .ret))))
def i17 : FnI := ⟨12, [(ResultVar.tmp 4)], c17, 0, [[0, 0, 1, 0, 0, 0, 1], [0]], [[0]], false⟩
-- loop.example/g00344/laws.toOffer
def r19_0 : List PO := [⟨(some 1), (Op.box 33 (Operand.tmp 0)), none⟩,
  ⟨(some 2), (Op.alloc 39), none⟩]
def r19_1 : List PO := [⟨(some 3), (Op.alloc 39), none⟩]
def r19_2 : List PO := [⟨(some 4), (Op.fieldAddr 33 (Operand.tmp 1) 0), none⟩,
  ⟨(some 5), (Op.load 3 (Operand.tmp 4)), none⟩,
  ⟨(some 6), (Op.fieldAddr 39 (Operand.tmp 3) 0), none⟩,
  ⟨none, (Op.store 3 (Operand.tmp 6) (Operand.tmp 5)), none⟩]
def r19_3 : List PO := [⟨(some 7), (Op.fieldAddr 33 (Operand.tmp 1) 1), none⟩,
  ⟨(some 8), (Op.load 31 (Operand.tmp 7)), none⟩,
  ⟨(some 9), (Op.call { callee := (Callee.value (Operand.func 53)), args := #[(Operand.tmp 8)], argTypes := #[31] }), none⟩,
  ⟨(some 10), (Op.fieldAddr 39 (Operand.tmp 3) 1), none⟩,
  ⟨none, (Op.store 37 (Operand.tmp 10) (Operand.tmp 9)), none⟩]
def r19_4 : List PO := [⟨(some 11), (Op.load 39 (Operand.tmp 3)), none⟩,
  ⟨none, (Op.store 39 (Operand.tmp 2) (Operand.tmp 11)), none⟩]
def c19 : PC := (.seq (.reg r19_0) (.seq (.reg r19_1) (.seq (.reg r19_2) (.seq (.reg r19_3) (.seq (.reg r19_4) .ret)))))
def i19 : FnI := ⟨12, [(ResultVar.cell 2 39)], c19, 0, [[0, 0, 1, 0, 0, 0, 1]], [[0, 0, 1, 0, 0, 0, 1]], false⟩
-- loop.example/g00344/laws.eqOffer
def r21_0 : List PO := [⟨(some 2), (Op.box 39 (Operand.tmp 0)), none⟩,
  ⟨(some 3), (Op.box 39 (Operand.tmp 1)), none⟩,
  ⟨(some 4), (Op.assign (Operand.const (Value.bool false))), none⟩]
def r21_1 : List PO := [⟨(some 5), (Op.fieldAddr 39 (Operand.tmp 2) 0), none⟩,
  ⟨(some 6), (Op.load 3 (Operand.tmp 5)), none⟩,
  ⟨(some 7), (Op.fieldAddr 39 (Operand.tmp 3) 0), none⟩,
  ⟨(some 8), (Op.load 3 (Operand.tmp 7)), none⟩,
  ⟨(some 9), (Op.binOp BinOp.neq 3 (Operand.tmp 6) (Operand.tmp 8) 3), none⟩]
def r21_2 : List PO := [⟨(some 4), (Op.assign (Operand.const (Value.bool false))), none⟩]
def r21_3 : List PO := [⟨(some 10), (Op.fieldAddr 39 (Operand.tmp 2) 1), none⟩,
  ⟨(some 11), (Op.load 37 (Operand.tmp 10)), none⟩,
  ⟨(some 12), (Op.fieldAddr 39 (Operand.tmp 3) 1), none⟩,
  ⟨(some 13), (Op.load 37 (Operand.tmp 12)), none⟩,
  ⟨(some 14), (Op.call { callee := (Callee.value (Operand.func 55)), args := #[(Operand.tmp 11), (Operand.tmp 13)], argTypes := #[37, 37] }), none⟩,
  ⟨(some 15), (Op.unOp UnOp.not 4 (Operand.tmp 14)), none⟩]
def r21_4 : List PO := [⟨(some 4), (Op.assign (Operand.const (Value.bool false))), none⟩]
def r21_5 : List PO := [⟨(some 4), (Op.assign (Operand.const (Value.bool true))), none⟩]
def c21 : PC := (.seq (.reg r21_0) (.seq (.seq (.reg r21_1) (.cond (Operand.tmp 9) (.seq (.reg r21_2) .ret) .skip)) (.seq (.seq (.reg r21_3) (.cond (Operand.tmp 15) (.seq (.reg r21_4) .ret) .skip)) (.seq (.reg r21_5) .ret))))
def i21 : FnI := ⟨16, [(ResultVar.tmp 4)], c21, 0, [[0, 0, 1, 0, 0, 0, 1], [0, 0, 1, 0, 0, 0, 1]], [[0]], false⟩
-- loop.example/g00344/laws.eqIntS
def r33_0 : List PO := [⟨(some 4), (Op.assign (Operand.const (Value.bool false))), none⟩]
def r33_1 : List PO := [⟨(some 6), (Op.move (Operand.tmp 0)), none⟩,
  ⟨(some 7), (Op.call { callee := (Callee.builtin Builtin.len), args := #[(Operand.tmp 6)], argTypes := #[29] }), none⟩,
  ⟨(some 8), (Op.move (Operand.tmp 1)), none⟩,
  ⟨(some 9), (Op.call { callee := (Callee.builtin Builtin.len), args := #[(Operand.tmp 8)], argTypes := #[29] }), none⟩,
  ⟨(some 10), (Op.binOp BinOp.neq 3 (Operand.tmp 7) (Operand.tmp 9) 3), none⟩]
def r33_2 : List PO := [⟨(some 4), (Op.assign (Operand.const (Value.bool false))), none⟩]
def r33_3 : List PO := [⟨(some 5), (Op.assign (Operand.const (Value.int IntKind.i64 0))), none⟩]
def r33_4 : List PO := [⟨(some 11), (Op.move (Operand.tmp 5)), none⟩,
  ⟨(some 12), (Op.move (Operand.tmp 0)), none⟩,
  ⟨(some 13), (Op.call { callee := (Callee.builtin Builtin.len), args := #[(Operand.tmp 12)], argTypes := #[29] }), none⟩,
  ⟨(some 14), (Op.binOp BinOp.lss 3 (Operand.tmp 11) (Operand.tmp 13) 3), none⟩]
def r33_6 : List PO := [⟨(some 17), (Op.move (Operand.tmp 0)), none⟩,
  ⟨(some 18), (Op.move (Operand.tmp 5)), none⟩,
  ⟨(some 19), (Op.indexAddr 29 (Operand.tmp 17) (Operand.tmp 18)), none⟩,
  ⟨(some 20), (Op.load 3 (Operand.tmp 19)), none⟩,
  ⟨(some 21), (Op.move (Operand.tmp 1)), none⟩,
  ⟨(some 22), (Op.move (Operand.tmp 5)), none⟩,
  ⟨(some 23), (Op.indexAddr 29 (Operand.tmp 21) (Operand.tmp 22)), none⟩,
  ⟨(some 24), (Op.load 3 (Operand.tmp 23)), none⟩,
  ⟨(some 25), (Op.binOp BinOp.neq 3 (Operand.tmp 20) (Operand.tmp 24) 3), none⟩]
def r33_7 : List PO := [⟨(some 4), (Op.assign (Operand.const (Value.bool false))), none⟩]
def r33_5 : List PO := [⟨(some 15), (Op.move (Operand.tmp 5)), none⟩,
  ⟨(some 16), (Op.binOp BinOp.add 3 (Operand.tmp 15) (Operand.const (Value.int IntKind.i64 1)) 3), none⟩,
  ⟨(some 5), (Op.assign (Operand.tmp 16)), none⟩]
def l33_0 : PC := (.seq (.seq (.reg r33_4) (.cond (Operand.tmp 14) .skip (.exit 0))) (.seq (.block 1 (.seq (.fz r33_6) (.cond (Operand.tmp 25) (.seq (.reg r33_7) .ret) .skip))) (.reg r33_5)))
def r33_8 : List PO := [⟨(some 4), (Op.assign (Operand.const (Value.bool true))), none⟩]
def c33 : PC := (.seq (.reg r33_0) (.seq (.seq (.reg r33_1) (.cond (Operand.tmp 10) (.seq (.reg r33_2) .ret) .skip)) (.seq (.seq (.reg r33_3) (.block 0 (.loop l33_0))) (.seq (.reg r33_8) .ret))))
def i33 : FnI := ⟨26, [(ResultVar.tmp 4)], c33, 0, [[1], [1]], [[0]], false⟩
-- loop.example/g00344/spec.l1In
def r48_0 : List PO := [⟨(some 6), (Op.assign (Operand.const (Value.bool false))), none⟩]
def r48_1 : List PO := [⟨(some 7), (Op.move (Operand.tmp 0)), none⟩,
  ⟨(some 8), (Op.move (Operand.tmp 1)), none⟩,
  ⟨(some 9), (Op.binOp BinOp.geq 3 (Operand.tmp 7) (Operand.tmp 8) 3), none⟩,
  ⟨(some 10), (Op.move (Operand.tmp 9)), none⟩,
  ⟨(some 11), (Op.move (Operand.tmp 0)), (some (10, true))⟩,
  ⟨(some 12), (Op.move (Operand.tmp 2)), (some (10, true))⟩,
  ⟨(some 13), (Op.binOp BinOp.leq 3 (Operand.tmp 11) (Operand.tmp 12) 3), (some (10, true))⟩,
  ⟨(some 14), (Op.pick (Operand.tmp 10) (Operand.tmp 13) (Operand.const (Value.bool false))), none⟩,
  ⟨(some 6), (Op.assign (Operand.tmp 14)), none⟩]
def c48 : PC := (.seq (.reg r48_0) (.seq (.reg r48_1) .ret))
def i48 : FnI := ⟨15, [(ResultVar.tmp 6)], c48, 0, [[0], [0], [0]], [[0]], false⟩
-- loop.example/g00344/spec.GoodAttrs
def r49_0 : List PO := [⟨(some 1), (Op.box 37 (Operand.tmp 0)), none⟩,
  ⟨(some 2), (Op.assign (Operand.const (Value.bool false))), none⟩]
def r49_1 : List PO := [⟨(some 7), (Op.fieldAddr 37 (Operand.tmp 1) 1), none⟩,
  ⟨(some 8), (Op.load 29 (Operand.tmp 7)), none⟩,
  ⟨(some 9), (Op.call { callee := (Callee.builtin Builtin.len), args := #[(Operand.tmp 8)], argTypes := #[29] }), none⟩,
  ⟨(some 10), (Op.move (Operand.const (Value.int IntKind.i64 0))), none⟩]
def r49_2 : List PO := [⟨(some 11), (Op.binOp BinOp.lss 3 (Operand.tmp 10) (Operand.tmp 9) 3), none⟩]
def r49_3 : List PO := [⟨(some 12), (Op.indexAddr 29 (Operand.tmp 8) (Operand.tmp 10)), none⟩,
  ⟨(some 13), (Op.load 3 (Operand.tmp 12)), none⟩,
  ⟨(some 4), (Op.assign (Operand.tmp 13)), none⟩]
def r49_4 : List PO := [⟨(some 14), (Op.move (Operand.tmp 4)), none⟩,
  ⟨(some 15), (Op.call { callee := (Callee.value (Operand.func 48)), args := #[(Operand.tmp 14), (Operand.const (Value.int IntKind.i64 1)), (Operand.const (Value.int IntKind.i64 65535))], argTypes := #[3, 3, 3] }), none⟩,
  ⟨(some 16), (Op.unOp UnOp.not 4 (Operand.tmp 15)), none⟩]
def r49_5 : List PO := [⟨(some 2), (Op.assign (Operand.const (Value.bool false))), none⟩]
def r49_6 : List PO := [⟨(some 17), (Op.binOp BinOp.add 3 (Operand.tmp 10) (Operand.const (Value.int IntKind.i64 1)) 3), none⟩,
  ⟨(some 10), (Op.move (Operand.tmp 17)), none⟩]
def l49_0 : PC := (.seq (.reg r49_2) (.seq (.cond (Operand.tmp 11) .skip (.exit 0)) (.seq (.block 1 (.seq (.reg r49_3) (.seq (.reg r49_4) (.cond (Operand.tmp 16) (.seq (.reg r49_5) .ret) .skip)))) (.reg r49_6))))
def r49_7 : List PO := [⟨(some 18), (Op.fieldAddr 37 (Operand.tmp 1) 5), none⟩,
  ⟨(some 19), (Op.load 29 (Operand.tmp 18)), none⟩,
  ⟨(some 20), (Op.call { callee := (Callee.builtin Builtin.len), args := #[(Operand.tmp 19)], argTypes := #[29] }), none⟩,
  ⟨(some 21), (Op.move (Operand.const (Value.int IntKind.i64 0))), none⟩]
def r49_8 : List PO := [⟨(some 22), (Op.binOp BinOp.lss 3 (Operand.tmp 21) (Operand.tmp 20) 3), none⟩]
def r49_9 : List PO := [⟨(some 23), (Op.move (Operand.tmp 21)), none⟩,
  ⟨(some 24), (Op.indexAddr 29 (Operand.tmp 19) (Operand.tmp 21)), none⟩,
  ⟨(some 25), (Op.load 3 (Operand.tmp 24)), none⟩,
  ⟨(some 5), (Op.assign (Operand.tmp 23)), none⟩,
  ⟨(some 6), (Op.assign (Operand.tmp 25)), none⟩]
def r49_10 : List PO := [⟨(some 26), (Op.move (Operand.tmp 6)), none⟩,
  ⟨(some 27), (Op.call { callee := (Callee.value (Operand.func 48)), args := #[(Operand.tmp 26), (Operand.const (Value.int IntKind.i64 0)), (Operand.const (Value.int IntKind.i64 1000000))], argTypes := #[3, 3, 3] }), none⟩,
  ⟨(some 28), (Op.unOp UnOp.not 4 (Operand.tmp 27)), none⟩,
  ⟨(some 29), (Op.move (Operand.tmp 28)), none⟩,
  ⟨(some 30), (Op.move (Operand.tmp 5)), (some (29, false))⟩,
  ⟨(some 31), (Op.binOp BinOp.gtr 3 (Operand.tmp 30) (Operand.const (Value.int IntKind.i64 0)) 3), (some (29, false))⟩,
  ⟨(some 32), (Op.move (Operand.tmp 31)), (some (29, false))⟩,
  ⟨(some 33), (Op.fieldAddr 37 (Operand.tmp 1) 5), (some (32, true))⟩,
  ⟨(some 34), (Op.load 29 (Operand.tmp 33)), (some (32, true))⟩,
  ⟨(some 35), (Op.move (Operand.tmp 5)), (some (32, true))⟩,
  ⟨(some 36), (Op.binOp BinOp.sub 3 (Operand.tmp 35) (Operand.const (Value.int IntKind.i64 1)) 3), (some (32, true))⟩,
  ⟨(some 37), (Op.indexAddr 29 (Operand.tmp 34) (Operand.tmp 36)), (some (32, true))⟩,
  ⟨(some 38), (Op.load 3 (Operand.tmp 37)), (some (32, true))⟩,
  ⟨(some 39), (Op.move (Operand.tmp 6)), (some (32, true))⟩,
  ⟨(some 40), (Op.binOp BinOp.geq 3 (Operand.tmp 38) (Operand.tmp 39) 3), (some (32, true))⟩,
  ⟨(some 41), (Op.pick (Operand.tmp 32) (Operand.tmp 40) (Operand.const (Value.bool false))), (some (29, false))⟩,
  ⟨(some 42), (Op.pick (Operand.tmp 29) (Operand.const (Value.bool true)) (Operand.tmp 41)), none⟩]
def r49_11 : List PO := [⟨(some 2), (Op.assign (Operand.const (Value.bool false))), none⟩]
def r49_12 : List PO := [⟨(some 43), (Op.binOp BinOp.add 3 (Operand.tmp 21) (Operand.const (Value.int IntKind.i64 1)) 3), none⟩,
  ⟨(some 21), (Op.move (Operand.tmp 43)), none⟩]
def l49_1 : PC := (.seq (.reg r49_8) (.seq (.cond (Operand.tmp 22) .skip (.exit 2)) (.seq (.block 3 (.seq (.reg r49_9) (.seq (.reg r49_10) (.cond (Operand.tmp 42) (.seq (.reg r49_11) .ret) .skip)))) (.reg r49_12))))
def r49_13 : List PO := [⟨(some 44), (Op.fieldAddr 37 (Operand.tmp 1) 0), none⟩,
  ⟨(some 45), (Op.load 3 (Operand.tmp 44)), none⟩,
  ⟨(some 46), (Op.call { callee := (Callee.value (Operand.func 48)), args := #[(Operand.tmp 45), (Operand.const (Value.int IntKind.i64 0)), (Operand.const (Value.int IntKind.i64 2))], argTypes := #[3, 3, 3] }), none⟩,
  ⟨(some 47), (Op.move (Operand.tmp 46)), none⟩,
  ⟨(some 48), (Op.fieldAddr 37 (Operand.tmp 1) 1), (some (47, true))⟩,
  ⟨(some 49), (Op.load 29 (Operand.tmp 48)), (some (47, true))⟩,
  ⟨(some 50), (Op.call { callee := (Callee.builtin Builtin.len), args := #[(Operand.tmp 49)], argTypes := #[29] }), (some (47, true))⟩,
  ⟨(some 51), (Op.binOp BinOp.leq 3 (Operand.tmp 50) (Operand.const (Value.int IntKind.i64 10)) 3), (some (47, true))⟩,
  ⟨(some 52), (Op.pick (Operand.tmp 47) (Operand.tmp 51) (Operand.const (Value.bool false))), none⟩,
  ⟨(some 53), (Op.move (Operand.tmp 52)), none⟩,
  ⟨(some 54), (Op.fieldAddr 37 (Operand.tmp 1) 2), (some (53, true))⟩,
  ⟨(some 55), (Op.load 3 (Operand.tmp 54)), (some (53, true))⟩,
  ⟨(some 56), (Op.call { callee := (Callee.value (Operand.func 75)), args := #[(Operand.tmp 55)], argTypes := #[3] }), (some (53, true))⟩,
  ⟨(some 57), (Op.pick (Operand.tmp 53) (Operand.tmp 56) (Operand.const (Value.bool false))), none⟩,
  ⟨(some 58), (Op.move (Operand.tmp 57)), none⟩,
  ⟨(some 59), (Op.fieldAddr 37 (Operand.tmp 1) 3), (some (58, true))⟩,
  ⟨(some 60), (Op.load 3 (Operand.tmp 59)), (some (58, true))⟩,
  ⟨(some 61), (Op.call { callee := (Callee.value (Operand.func 48)), args := #[(Operand.tmp 60), (Operand.const (Value.int IntKind.i64 0)), (Operand.const (Value.int IntKind.i64 1000000))], argTypes := #[3, 3, 3] }), (some (58, true))⟩,
  ⟨(some 62), (Op.pick (Operand.tmp 58) (Operand.tmp 61) (Operand.const (Value.bool false))), none⟩,
  ⟨(some 63), (Op.move (Operand.tmp 62)), none⟩,
  ⟨(some 64), (Op.fieldAddr 37 (Operand.tmp 1) 4), (some (63, true))⟩,
  ⟨(some 65), (Op.load 3 (Operand.tmp 64)), (some (63, true))⟩,
  ⟨(some 66), (Op.call { callee := (Callee.value (Operand.func 48)), args := #[(Operand.tmp 65), (Operand.const (Value.int IntKind.i64 0)), (Operand.const (Value.int IntKind.i64 1000000))], argTypes := #[3, 3, 3] }), (some (63, true))⟩,
  ⟨(some 67), (Op.pick (Operand.tmp 63) (Operand.tmp 66) (Operand.const (Value.bool false))), none⟩,
  ⟨(some 68), (Op.move (Operand.tmp 67)), none⟩,
  ⟨(some 69), (Op.fieldAddr 37 (Operand.tmp 1) 5), (some (68, true))⟩,
  ⟨(some 70), (Op.load 29 (Operand.tmp 69)), (some (68, true))⟩,
  ⟨(some 71), (Op.call { callee := (Callee.builtin Builtin.len), args := #[(Operand.tmp 70)], argTypes := #[29] }), (some (68, true))⟩,
  ⟨(some 72), (Op.binOp BinOp.leq 3 (Operand.tmp 71) (Operand.const (Value.int IntKind.i64 6)) 3), (some (68, true))⟩,
  ⟨(some 73), (Op.pick (Operand.tmp 68) (Operand.tmp 72) (Operand.const (Value.bool false))), none⟩,
  ⟨(some 2), (Op.assign (Operand.tmp 73)), none⟩]
def c49 : PC := (.seq (.reg r49_0) (.seq (.seq (.reg r49_1) (.block 0 (.loop l49_0))) (.seq (.seq (.reg r49_7) (.block 2 (.loop l49_1))) (.seq (.reg r49_13) .ret))))
def i49 : FnI := ⟨74, [(ResultVar.tmp 2)], c49, 0, [[0, 1, 0, 0, 0, 1]], [[0]], false⟩
-- loop.example/g00344/impl.isOffer
def r50_0 : List PO := [⟨(some 1), (Op.box 39 (Operand.tmp 0)), none⟩,
  ⟨(some 2), (Op.assign (Operand.const (Value.bool false))), none⟩]
def r50_1 : List PO := [⟨(some 3), (Op.fieldAddr 39 (Operand.tmp 1) 0), none⟩,
  ⟨(some 4), (Op.load 3 (Operand.tmp 3)), none⟩,
  ⟨(some 5), (Op.call { callee := (Callee.value (Operand.func 76)), args := #[(Operand.tmp 4)], argTypes := #[3] }), none⟩,
  ⟨(some 6), (Op.move (Operand.tmp 5)), none⟩,
  ⟨(some 7), (Op.fieldAddr 39 (Operand.tmp 1) 1), (some (6, true))⟩,
  ⟨(some 8), (Op.load 37 (Operand.tmp 7)), (some (6, true))⟩,
  ⟨(some 9), (Op.call { callee := (Callee.value (Operand.func 77)), args := #[(Operand.tmp 8)], argTypes := #[37] }), (some (6, true))⟩,
  ⟨(some 10), (Op.pick (Operand.tmp 6) (Operand.tmp 9) (Operand.const (Value.bool false))), none⟩,
  ⟨(some 2), (Op.assign (Operand.tmp 10)), none⟩]
def c50 : PC := (.seq (.reg r50_0) (.seq (.reg r50_1) .ret))
def i50 : FnI := ⟨11, [(ResultVar.tmp 2)], c50, 0, [[0, 0, 1, 0, 0, 0, 1]], [[0]], false⟩
-- loop.example/g00344/laws.szAttrs
def r51_0 : List PO := [⟨(some 2), (Op.box 31 (Operand.tmp 0)), none⟩,
  ⟨(some 4), (Op.assign (Operand.const (Value.int IntKind.i64 0))), none⟩]
def r51_1 : List PO := [⟨(some 5), (Op.fieldAddr 31 (Operand.tmp 2) 1), none⟩,
  ⟨(some 6), (Op.load 29 (Operand.tmp 5)), none⟩,
  ⟨(some 7), (Op.move (Operand.tmp 1)), none⟩,
  ⟨(some 8), (Op.call { callee := (Callee.value (Operand.func 78)), args := #[(Operand.tmp 6), (Operand.tmp 7)], argTypes := #[29, 3] }), none⟩,
  ⟨(some 1), (Op.assign (Operand.tmp 8)), none⟩]
def r51_2 : List PO := [⟨(some 9), (Op.move (Operand.tmp 1)), none⟩,
  ⟨(some 10), (Op.binOp BinOp.lss 3 (Operand.tmp 9) (Operand.const (Value.int IntKind.i64 0)) 3), none⟩]
def r51_3 : List PO := [⟨(some 4), (Op.assign (Operand.const (Value.int IntKind.i64 (-1)))), none⟩]
def r51_4 : List PO := [⟨(some 11), (Op.fieldAddr 31 (Operand.tmp 2) 5), none⟩,
  ⟨(some 12), (Op.load 29 (Operand.tmp 11)), none⟩,
  ⟨(some 13), (Op.move (Operand.tmp 1)), none⟩,
  ⟨(some 14), (Op.call { callee := (Callee.value (Operand.func 78)), args := #[(Operand.tmp 12), (Operand.tmp 13)], argTypes := #[29, 3] }), none⟩,
  ⟨(some 1), (Op.assign (Operand.tmp 14)), none⟩]
def r51_5 : List PO := [⟨(some 15), (Op.move (Operand.tmp 1)), none⟩,
  ⟨(some 16), (Op.binOp BinOp.lss 3 (Operand.tmp 15) (Operand.const (Value.int IntKind.i64 0)) 3), none⟩]
def r51_6 : List PO := [⟨(some 4), (Op.assign (Operand.const (Value.int IntKind.i64 (-1)))), none⟩]
def r51_7 : List PO := [⟨(some 17), (Op.move (Operand.tmp 1)), none⟩,
  ⟨(some 4), (Op.assign (Operand.tmp 17)), none⟩]
def c51 : PC := (.seq (.reg r51_0) (.seq (.reg r51_1) (.seq (.seq (.reg r51_2) (.cond (Operand.tmp 10) (.seq (.reg r51_3) .ret) .skip)) (.seq (.reg r51_4) (.seq (.seq (.reg r51_5) (.cond (Operand.tmp 16) (.seq (.reg r51_6) .ret) .skip)) (.seq (.reg r51_7) .ret))))))
def i51 : FnI := ⟨18, [(ResultVar.tmp 4)], c51, 0, [[0, 1, 0, 0, 0, 1], [0]], [[0]], false⟩
-- loop.example/g00344/laws.toAttrs
def r53_0 : List PO := [⟨(some 1), (Op.box 31 (Operand.tmp 0)), none⟩,
  ⟨(some 2), (Op.alloc 37), none⟩]
def r53_1 : List PO := [⟨(some 3), (Op.alloc 37), none⟩]
def r53_2 : List PO := [⟨(some 4), (Op.fieldAddr 31 (Operand.tmp 1) 0), none⟩,
  ⟨(some 5), (Op.load 3 (Operand.tmp 4)), none⟩,
  ⟨(some 6), (Op.fieldAddr 37 (Operand.tmp 3) 0), none⟩,
  ⟨none, (Op.store 3 (Operand.tmp 6) (Operand.tmp 5)), none⟩]
def r53_3 : List PO := [⟨(some 7), (Op.fieldAddr 31 (Operand.tmp 1) 1), none⟩,
  ⟨(some 8), (Op.load 29 (Operand.tmp 7)), none⟩,
  ⟨(some 9), (Op.call { callee := (Callee.value (Operand.func 80)), args := #[(Operand.tmp 8)], argTypes := #[29] }), none⟩,
  ⟨(some 10), (Op.fieldAddr 37 (Operand.tmp 3) 1), none⟩,
  ⟨none, (Op.store 29 (Operand.tmp 10) (Operand.tmp 9)), none⟩]
def r53_4 : List PO := [⟨(some 11), (Op.fieldAddr 31 (Operand.tmp 1) 2), none⟩,
  ⟨(some 12), (Op.load 3 (Operand.tmp 11)), none⟩,
  ⟨(some 13), (Op.fieldAddr 37 (Operand.tmp 3) 2), none⟩,
  ⟨none, (Op.store 3 (Operand.tmp 13) (Operand.tmp 12)), none⟩]
def r53_5 : List PO := [⟨(some 14), (Op.fieldAddr 31 (Operand.tmp 1) 3), none⟩,
  ⟨(some 15), (Op.load 3 (Operand.tmp 14)), none⟩,
  ⟨(some 16), (Op.fieldAddr 37 (Operand.tmp 3) 3), none⟩,
  ⟨none, (Op.store 3 (Operand.tmp 16) (Operand.tmp 15)), none⟩]
def r53_6 : List PO := [⟨(some 17), (Op.fieldAddr 31 (Operand.tmp 1) 4), none⟩,
  ⟨(some 18), (Op.load 3 (Operand.tmp 17)), none⟩,
  ⟨(some 19), (Op.fieldAddr 37 (Operand.tmp 3) 4), none⟩,
  ⟨none, (Op.store 3 (Operand.tmp 19) (Operand.tmp 18)), none⟩]
def r53_7 : List PO := [⟨(some 20), (Op.fieldAddr 31 (Operand.tmp 1) 5), none⟩,
  ⟨(some 21), (Op.load 29 (Operand.tmp 20)), none⟩,
  ⟨(some 22), (Op.call { callee := (Callee.value (Operand.func 80)), args := #[(Operand.tmp 21)], argTypes := #[29] }), none⟩,
  ⟨(some 23), (Op.fieldAddr 37 (Operand.tmp 3) 5), none⟩,
  ⟨none, (Op.store 29 (Operand.tmp 23) (Operand.tmp 22)), none⟩]
def r53_8 : List PO := [⟨(some 24), (Op.load 37 (Operand.tmp 3)), none⟩,
  ⟨none, (Op.store 37 (Operand.tmp 2) (Operand.tmp 24)), none⟩]
def c53 : PC := (.seq (.reg r53_0) (.seq (.reg r53_1) (.seq (.reg r53_2) (.seq (.reg r53_3) (.seq (.reg r53_4) (.seq (.reg r53_5) (.seq (.reg r53_6) (.seq (.reg r53_7) (.seq (.reg r53_8) .ret)))))))))
def i53 : FnI := ⟨25, [(ResultVar.cell 2 37)], c53, 0, [[0, 1, 0, 0, 0, 1]], [[0, 1, 0, 0, 0, 1]], false⟩
-- loop.example/g00344/laws.eqAttrs
def r55_0 : List PO := [⟨(some 2), (Op.box 37 (Operand.tmp 0)), none⟩,
  ⟨(some 3), (Op.box 37 (Operand.tmp 1)), none⟩,
  ⟨(some 4), (Op.assign (Operand.const (Value.bool false))), none⟩]
def r55_1 : List PO := [⟨(some 5), (Op.fieldAddr 37 (Operand.tmp 2) 0), none⟩,
  ⟨(some 6), (Op.load 3 (Operand.tmp 5)), none⟩,
  ⟨(some 7), (Op.fieldAddr 37 (Operand.tmp 3) 0), none⟩,
  ⟨(some 8), (Op.load 3 (Operand.tmp 7)), none⟩,
  ⟨(some 9), (Op.binOp BinOp.neq 3 (Operand.tmp 6) (Operand.tmp 8) 3), none⟩]
def r55_2 : List PO := [⟨(some 4), (Op.assign (Operand.const (Value.bool false))), none⟩]
def r55_3 : List PO := [⟨(some 10), (Op.fieldAddr 37 (Operand.tmp 2) 1), none⟩,
  ⟨(some 11), (Op.load 29 (Operand.tmp 10)), none⟩,
  ⟨(some 12), (Op.fieldAddr 37 (Operand.tmp 3) 1), none⟩,
  ⟨(some 13), (Op.load 29 (Operand.tmp 12)), none⟩,
  ⟨(some 14), (Op.call { callee := (Callee.value (Operand.func 33)), args := #[(Operand.tmp 11), (Operand.tmp 13)], argTypes := #[29, 29] }), none⟩,
  ⟨(some 15), (Op.unOp UnOp.not 4 (Operand.tmp 14)), none⟩]
def r55_4 : List PO := [⟨(some 4), (Op.assign (Operand.const (Value.bool false))), none⟩]
def r55_5 : List PO := [⟨(some 16), (Op.fieldAddr 37 (Operand.tmp 2) 2), none⟩,
  ⟨(some 17), (Op.load 3 (Operand.tmp 16)), none⟩,
  ⟨(some 18), (Op.fieldAddr 37 (Operand.tmp 3) 2), none⟩,
  ⟨(some 19), (Op.load 3 (Operand.tmp 18)), none⟩,
  ⟨(some 20), (Op.binOp BinOp.neq 3 (Operand.tmp 17) (Operand.tmp 19) 3), none⟩]
def r55_6 : List PO := [⟨(some 4), (Op.assign (Operand.const (Value.bool false))), none⟩]
def r55_7 : List PO := [⟨(some 21), (Op.fieldAddr 37 (Operand.tmp 2) 3), none⟩,
  ⟨(some 22), (Op.load 3 (Operand.tmp 21)), none⟩,
  ⟨(some 23), (Op.fieldAddr 37 (Operand.tmp 3) 3), none⟩,
  ⟨(some 24), (Op.load 3 (Operand.tmp 23)), none⟩,
  ⟨(some 25), (Op.binOp BinOp.neq 3 (Operand.tmp 22) (Operand.tmp 24) 3), none⟩]
def r55_8 : List PO := [⟨(some 4), (Op.assign (Operand.const (Value.bool false))), none⟩]
def r55_9 : List PO := [⟨(some 26), (Op.fieldAddr 37 (Operand.tmp 2) 4), none⟩,
  ⟨(some 27), (Op.load 3 (Operand.tmp 26)), none⟩,
  ⟨(some 28), (Op.fieldAddr 37 (Operand.tmp 3) 4), none⟩,
  ⟨(some 29), (Op.load 3 (Operand.tmp 28)), none⟩,
  ⟨(some 30), (Op.binOp BinOp.neq 3 (Operand.tmp 27) (Operand.tmp 29) 3), none⟩]
def r55_10 : List PO := [⟨(some 4), (Op.assign (Operand.const (Value.bool false))), none⟩]
def r55_11 : List PO := [⟨(some 31), (Op.fieldAddr 37 (Operand.tmp 2) 5), none⟩,
  ⟨(some 32), (Op.load 29 (Operand.tmp 31)), none⟩,
  ⟨(some 33), (Op.fieldAddr 37 (Operand.tmp 3) 5), none⟩,
  ⟨(some 34), (Op.load 29 (Operand.tmp 33)), none⟩,
  ⟨(some 35), (Op.call { callee := (Callee.value (Operand.func 33)), args := #[(Operand.tmp 32), (Operand.tmp 34)], argTypes := #[29, 29] }), none⟩,
  ⟨(some 36), (Op.unOp UnOp.not 4 (Operand.tmp 35)), none⟩]
def r55_12 : List PO := [⟨(some 4), (Op.assign (Operand.const (Value.bool false))), none⟩]
def r55_13 : List PO := [⟨(some 4), (Op.assign (Operand.const (Value.bool true))), none⟩]
def c55 : PC := (.seq (.reg r55_0) (.seq (.seq (.reg r55_1) (.cond (Operand.tmp 9) (.seq (.reg r55_2) .ret) .skip)) (.seq (.seq (.reg r55_3) (.cond (Operand.tmp 15) (.seq (.reg r55_4) .ret) .skip)) (.seq (.seq (.reg r55_5) (.cond (Operand.tmp 20) (.seq (.reg r55_6) .ret) .skip)) (.seq (.seq (.reg r55_7) (.cond (Operand.tmp 25) (.seq (.reg r55_8) .ret) .skip)) (.seq (.seq (.reg r55_9) (.cond (Operand.tmp 30) (.seq (.reg r55_10) .ret) .skip)) (.seq (.seq (.reg r55_11) (.cond (Operand.tmp 36) (.seq (.reg r55_12) .ret) .skip)) (.seq (.reg r55_13) .ret))))))))
def i55 : FnI := ⟨37, [(ResultVar.tmp 4)], c55, 0, [[0, 1, 0, 0, 0, 1], [0, 1, 0, 0, 0, 1]], [[0]], false⟩
-- loop.example/g00344/impl.isAsn
def r66_0 : List PO := [⟨(some 2), (Op.assign (Operand.const (Value.bool false))), none⟩]
def r66_1 : List PO := [⟨(some 3), (Op.move (Operand.tmp 0)), none⟩,
  ⟨(some 4), (Op.call { callee := (Callee.value (Operand.func 91)), args := #[(Operand.tmp 3), (Operand.const (Value.int IntKind.i64 1)), (Operand.const (Value.int IntKind.i64 65535))], argTypes := #[3, 3, 3] }), none⟩,
  ⟨(some 2), (Op.assign (Operand.tmp 4)), none⟩]
def c66 : PC := (.seq (.reg r66_0) (.seq (.reg r66_1) .ret))
def i66 : FnI := ⟨5, [(ResultVar.tmp 2)], c66, 0, [[0]], [[0]], false⟩
-- loop.example/g00344/spec.l1Addr
def r75_0 : List PO := [⟨(some 2), (Op.assign (Operand.const (Value.bool false))), none⟩]
def r75_1 : List PO := [⟨(some 3), (Op.move (Operand.tmp 0)), none⟩,
  ⟨(some 4), (Op.call { callee := (Callee.value (Operand.func 48)), args := #[(Operand.tmp 3), (Operand.const (Value.int IntKind.i64 0)), (Operand.const (Value.int IntKind.i64 4294967295))], argTypes := #[3, 3, 3] }), none⟩,
  ⟨(some 2), (Op.assign (Operand.tmp 4)), none⟩]
def c75 : PC := (.seq (.reg r75_0) (.seq (.reg r75_1) .ret))
def i75 : FnI := ⟨5, [(ResultVar.tmp 2)], c75, 0, [[0]], [[0]], false⟩
-- loop.example/g00344/impl.isPeer
def r76_0 : List PO := [⟨(some 2), (Op.assign (Operand.const (Value.bool false))), none⟩]
def r76_1 : List PO := [⟨(some 3), (Op.move (Operand.tmp 0)), none⟩,
  ⟨(some 4), (Op.call { callee := (Callee.value (Operand.func 91)), args := #[(Operand.tmp 3), (Operand.const (Value.int IntKind.i64 0)), (Operand.const (Value.int IntKind.i64 5))], argTypes := #[3, 3, 3] }), none⟩,
  ⟨(some 2), (Op.assign (Operand.tmp 4)), none⟩]
def c76 : PC := (.seq (.reg r76_0) (.seq (.reg r76_1) .ret))
def i76 : FnI := ⟨5, [(ResultVar.tmp 2)], c76, 0, [[0]], [[0]], false⟩
-- loop.example/g00344/impl.GoodAttrs
def r77_0 : List PO := [⟨(some 1), (Op.box 37 (Operand.tmp 0)), none⟩,
  ⟨(some 2), (Op.assign (Operand.const (Value.bool false))), none⟩]
def r77_1 : List PO := [⟨(some 3), (Op.fieldAddr 37 (Operand.tmp 1) 0), none⟩,
  ⟨(some 4), (Op.load 3 (Operand.tmp 3)), none⟩,
  ⟨(some 5), (Op.call { callee := (Callee.value (Operand.func 91)), args := #[(Operand.tmp 4), (Operand.const (Value.int IntKind.i64 0)), (Operand.const (Value.int IntKind.i64 2))], argTypes := #[3, 3, 3] }), none⟩,
  ⟨(some 6), (Op.move (Operand.tmp 5)), none⟩,
  ⟨(some 7), (Op.fieldAddr 37 (Operand.tmp 1) 1), (some (6, true))⟩,
  ⟨(some 8), (Op.load 29 (Operand.tmp 7)), (some (6, true))⟩,
  ⟨(some 9), (Op.call { callee := (Callee.value (Operand.func 98)), args := #[(Operand.tmp 8)], argTypes := #[29] }), (some (6, true))⟩,
  ⟨(some 10), (Op.pick (Operand.tmp 6) (Operand.tmp 9) (Operand.const (Value.bool false))), none⟩,
  ⟨(some 11), (Op.move (Operand.tmp 10)), none⟩,
  ⟨(some 12), (Op.fieldAddr 37 (Operand.tmp 1) 2), (some (11, true))⟩,
  ⟨(some 13), (Op.load 3 (Operand.tmp 12)), (some (11, true))⟩,
  ⟨(some 14), (Op.call { callee := (Callee.value (Operand.func 99)), args := #[(Operand.tmp 13)], argTypes := #[3] }), (some (11, true))⟩,
  ⟨(some 15), (Op.pick (Operand.tmp 11) (Operand.tmp 14) (Operand.const (Value.bool false))), none⟩,
  ⟨(some 16), (Op.move (Operand.tmp 15)), none⟩,
  ⟨(some 17), (Op.fieldAddr 37 (Operand.tmp 1) 3), (some (16, true))⟩,
  ⟨(some 18), (Op.load 3 (Operand.tmp 17)), (some (16, true))⟩,
  ⟨(some 19), (Op.call { callee := (Callee.value (Operand.func 100)), args := #[(Operand.tmp 18)], argTypes := #[3] }), (some (16, true))⟩,
  ⟨(some 20), (Op.pick (Operand.tmp 16) (Operand.tmp 19) (Operand.const (Value.bool false))), none⟩,
  ⟨(some 21), (Op.move (Operand.tmp 20)), none⟩,
  ⟨(some 22), (Op.fieldAddr 37 (Operand.tmp 1) 4), (some (21, true))⟩,
  ⟨(some 23), (Op.load 3 (Operand.tmp 22)), (some (21, true))⟩,
  ⟨(some 24), (Op.call { callee := (Callee.value (Operand.func 100)), args := #[(Operand.tmp 23)], argTypes := #[3] }), (some (21, true))⟩,
  ⟨(some 25), (Op.pick (Operand.tmp 21) (Operand.tmp 24) (Operand.const (Value.bool false))), none⟩,
  ⟨(some 26), (Op.move (Operand.tmp 25)), none⟩,
  ⟨(some 27), (Op.fieldAddr 37 (Operand.tmp 1) 5), (some (26, true))⟩,
  ⟨(some 28), (Op.load 29 (Operand.tmp 27)), (some (26, true))⟩,
  ⟨(some 29), (Op.call { callee := (Callee.value (Operand.func 101)), args := #[(Operand.tmp 28)], argTypes := #[29] }), (some (26, true))⟩,
  ⟨(some 30), (Op.pick (Operand.tmp 26) (Operand.tmp 29) (Operand.const (Value.bool false))), none⟩,
  ⟨(some 2), (Op.assign (Operand.tmp 30)), none⟩]
def c77 : PC := (.seq (.reg r77_0) (.seq (.reg r77_1) .ret))
def i77 : FnI := ⟨31, [(ResultVar.tmp 2)], c77, 0, [[0, 1, 0, 0, 0, 1]], [[0]], false⟩
-- loop.example/g00344/laws.szIntS
def r78_0 : List PO := [⟨(some 4), (Op.assign (Operand.const (Value.int IntKind.i64 0))), none⟩]
def r78_1 : List PO := [⟨(some 5), (Op.move (Operand.tmp 1)), none⟩,
  ⟨(some 6), (Op.move (Operand.tmp 0)), none⟩,
  ⟨(some 7), (Op.call { callee := (Callee.builtin Builtin.len), args := #[(Operand.tmp 6)], argTypes := #[29] }), none⟩,
  ⟨(some 8), (Op.binOp BinOp.sub 3 (Operand.tmp 5) (Operand.tmp 7) 3), none⟩,
  ⟨(some 1), (Op.assign (Operand.tmp 8)), none⟩]
def r78_2 : List PO := [⟨(some 9), (Op.move (Operand.tmp 1)), none⟩,
  ⟨(some 10), (Op.binOp BinOp.lss 3 (Operand.tmp 9) (Operand.const (Value.int IntKind.i64 0)) 3), none⟩]
def r78_3 : List PO := [⟨(some 4), (Op.assign (Operand.const (Value.int IntKind.i64 (-1)))), none⟩]
def r78_4 : List PO := [⟨(some 11), (Op.move (Operand.tmp 1)), none⟩,
  ⟨(some 4), (Op.assign (Operand.tmp 11)), none⟩]
def c78 : PC := (.seq (.reg r78_0) (.seq (.reg r78_1) (.seq (.seq (.reg r78_2) (.cond (Operand.tmp 10) (.seq (.reg r78_3) .ret) .skip)) (.seq (.reg r78_4) .ret))))
def i78 : FnI := ⟨12, [(ResultVar.tmp 4)], c78, 0, [[1], [0]], [[0]], false⟩
-- loop.example/g00344/laws.toIntS
def r80_0 : List PO := [⟨(some 2), (Op.assign (Operand.const (Value.slice none 0 0))), none⟩]
def r80_1 : List PO := [⟨(some 5), (Op.move (Operand.tmp 0)), none⟩,
  ⟨(some 6), (Op.call { callee := (Callee.builtin Builtin.len), args := #[(Operand.tmp 5)], argTypes := #[29] }), none⟩,
  ⟨(some 7), (Op.makeSlice 29 (Operand.tmp 6) (Operand.tmp 6)), none⟩,
  ⟨(some 3), (Op.assign (Operand.tmp 7)), none⟩]
def r80_2 : List PO := [⟨(some 4), (Op.assign (Operand.const (Value.int IntKind.i64 0))), none⟩]
def r80_3 : List PO := [⟨(some 8), (Op.move (Operand.tmp 4)), none⟩,
  ⟨(some 9), (Op.move (Operand.tmp 0)), none⟩,
  ⟨(some 10), (Op.call { callee := (Callee.builtin Builtin.len), args := #[(Operand.tmp 9)], argTypes := #[29] }), none⟩,
  ⟨(some 11), (Op.binOp BinOp.lss 3 (Operand.tmp 8) (Operand.tmp 10) 3), none⟩]
def r80_5 : List PO := [⟨(some 14), (Op.move (Operand.tmp 3)), none⟩,
  ⟨(some 15), (Op.move (Operand.tmp 4)), none⟩,
  ⟨(some 16), (Op.move (Operand.tmp 0)), none⟩,
  ⟨(some 17), (Op.move (Operand.tmp 4)), none⟩,
  ⟨(some 18), (Op.indexAddr 29 (Operand.tmp 16) (Operand.tmp 17)), none⟩,
  ⟨(some 19), (Op.load 3 (Operand.tmp 18)), none⟩,
  ⟨(some 20), (Op.indexAddr 29 (Operand.tmp 14) (Operand.tmp 15)), none⟩,
  ⟨none, (Op.store 3 (Operand.tmp 20) (Operand.tmp 19)), none⟩]
def r80_4 : List PO := [⟨(some 12), (Op.move (Operand.tmp 4)), none⟩,
  ⟨(some 13), (Op.binOp BinOp.add 3 (Operand.tmp 12) (Operand.const (Value.int IntKind.i64 1)) 3), none⟩,
  ⟨(some 4), (Op.assign (Operand.tmp 13)), none⟩]
def l80_0 : PC := (.seq (.seq (.reg r80_3) (.cond (Operand.tmp 11) .skip (.exit 0))) (.seq (.block 1 (.reg r80_5)) (.reg r80_4)))
def r80_6 : List PO := [⟨(some 21), (Op.move (Operand.tmp 3)), none⟩,
  ⟨(some 2), (Op.assign (Operand.tmp 21)), none⟩]
def c80 : PC := (.seq (.reg r80_0) (.seq (.reg r80_1) (.seq (.seq (.reg r80_2) (.block 0 (.loop l80_0))) (.seq (.reg r80_6) .ret))))
def i80 : FnI := ⟨22, [(ResultVar.tmp 2)], c80, 0, [[1]], [[1]], false⟩
-- loop.example/g00344/impl.within
def r91_0 : List PO := [⟨(some 6), (Op.assign (Operand.const (Value.bool false))), none⟩]
def r91_1 : List PO := [⟨(some 7), (Op.move (Operand.tmp 0)), none⟩,
  ⟨(some 8), (Op.move (Operand.tmp 1)), none⟩,
  ⟨(some 9), (Op.binOp BinOp.geq 3 (Operand.tmp 7) (Operand.tmp 8) 3), none⟩,
  ⟨(some 10), (Op.move (Operand.tmp 9)), none⟩,
  ⟨(some 11), (Op.move (Operand.tmp 0)), (some (10, true))⟩,
  ⟨(some 12), (Op.move (Operand.tmp 2)), (some (10, true))⟩,
  ⟨(some 13), (Op.binOp BinOp.leq 3 (Operand.tmp 11) (Operand.tmp 12) 3), (some (10, true))⟩,
  ⟨(some 14), (Op.pick (Operand.tmp 10) (Operand.tmp 13) (Operand.const (Value.bool false))), none⟩,
  ⟨(some 6), (Op.assign (Operand.tmp 14)), none⟩]
def c91 : PC := (.seq (.reg r91_0) (.seq (.reg r91_1) .ret))
def i91 : FnI := ⟨15, [(ResultVar.tmp 6)], c91, 0, [[0], [0], [0]], [[0]], false⟩
-- loop.example/g00344/impl.isPath
def r98_0 : List PO := [⟨(some 2), (Op.assign (Operand.const (Value.bool false))), none⟩]
def r98_1 : List PO := [⟨(some 3), (Op.move (Operand.tmp 0)), none⟩,
  ⟨(some 4), (Op.call { callee := (Callee.builtin Builtin.len), args := #[(Operand.tmp 3)], argTypes := #[29] }), none⟩,
  ⟨(some 5), (Op.binOp BinOp.leq 3 (Operand.tmp 4) (Operand.const (Value.int IntKind.i64 10)) 3), none⟩,
  ⟨(some 6), (Op.move (Operand.tmp 5)), none⟩,
  ⟨(some 7), (Op.move (Operand.tmp 0)), (some (6, true))⟩,
  ⟨(some 8), (Op.call { callee := (Callee.value (Operand.func 109)), args := #[(Operand.tmp 7), (Operand.func 110)], argTypes := #[29, 80] }), (some (6, true))⟩,
  ⟨(some 9), (Op.unOp UnOp.not 4 (Operand.tmp 8)), (some (6, true))⟩,
  ⟨(some 10), (Op.pick (Operand.tmp 6) (Operand.tmp 9) (Operand.const (Value.bool false))), none⟩,
  ⟨(some 2), (Op.assign (Operand.tmp 10)), none⟩]
def c98 : PC := (.seq (.reg r98_0) (.seq (.reg r98_1) .ret))
def i98 : FnI := ⟨11, [(ResultVar.tmp 2)], c98, 0, [[1]], [[0]], false⟩
-- loop.example/g00344/impl.isAddr
def r99_0 : List PO := [⟨(some 2), (Op.assign (Operand.const (Value.bool false))), none⟩]
def r99_1 : List PO := [⟨(some 3), (Op.move (Operand.tmp 0)), none⟩,
  ⟨(some 4), (Op.call { callee := (Callee.value (Operand.func 91)), args := #[(Operand.tmp 3), (Operand.const (Value.int IntKind.i64 0)), (Operand.const (Value.int IntKind.i64 4294967295))], argTypes := #[3, 3, 3] }), none⟩,
  ⟨(some 2), (Op.assign (Operand.tmp 4)), none⟩]
def c99 : PC := (.seq (.reg r99_0) (.seq (.reg r99_1) .ret))
def i99 : FnI := ⟨5, [(ResultVar.tmp 2)], c99, 0, [[0]], [[0]], false⟩
-- loop.example/g00344/impl.isValue
def r100_0 : List PO := [⟨(some 2), (Op.assign (Operand.const (Value.bool false))), none⟩]
def r100_1 : List PO := [⟨(some 3), (Op.move (Operand.tmp 0)), none⟩,
  ⟨(some 4), (Op.call { callee := (Callee.value (Operand.func 91)), args := #[(Operand.tmp 3), (Operand.const (Value.int IntKind.i64 0)), (Operand.const (Value.int IntKind.i64 1000000))], argTypes := #[3, 3, 3] }), none⟩,
  ⟨(some 2), (Op.assign (Operand.tmp 4)), none⟩]
def c100 : PC := (.seq (.reg r100_0) (.seq (.reg r100_1) .ret))
def i100 : FnI := ⟨5, [(ResultVar.tmp 2)], c100, 0, [[0]], [[0]], false⟩
-- loop.example/g00344/impl.areComms
def r101_0 : List PO := [⟨(some 2), (Op.assign (Operand.const (Value.bool false))), none⟩]
def r101_1 : List PO := [⟨(some 5), (Op.move (Operand.tmp 0)), none⟩,
  ⟨(some 6), (Op.call { callee := (Callee.builtin Builtin.len), args := #[(Operand.tmp 5)], argTypes := #[29] }), none⟩,
  ⟨(some 7), (Op.move (Operand.const (Value.int IntKind.i64 0))), none⟩]
def r101_2 : List PO := [⟨(some 8), (Op.binOp BinOp.lss 3 (Operand.tmp 7) (Operand.tmp 6) 3), none⟩]
def r101_3 : List PO := [⟨(some 9), (Op.move (Operand.tmp 7)), none⟩,
  ⟨(some 10), (Op.indexAddr 29 (Operand.tmp 5) (Operand.tmp 7)), none⟩,
  ⟨(some 11), (Op.load 3 (Operand.tmp 10)), none⟩,
  ⟨(some 3), (Op.assign (Operand.tmp 9)), none⟩,
  ⟨(some 4), (Op.assign (Operand.tmp 11)), none⟩]
def r101_4 : List PO := [⟨(some 12), (Op.move (Operand.tmp 4)), none⟩,
  ⟨(some 13), (Op.call { callee := (Callee.value (Operand.func 100)), args := #[(Operand.tmp 12)], argTypes := #[3] }), none⟩,
  ⟨(some 14), (Op.unOp UnOp.not 4 (Operand.tmp 13)), none⟩,
  ⟨(some 15), (Op.move (Operand.tmp 14)), none⟩,
  ⟨(some 16), (Op.move (Operand.tmp 3)), (some (15, false))⟩,
  ⟨(some 17), (Op.binOp BinOp.gtr 3 (Operand.tmp 16) (Operand.const (Value.int IntKind.i64 0)) 3), (some (15, false))⟩,
  ⟨(some 18), (Op.move (Operand.tmp 17)), (some (15, false))⟩,
  ⟨(some 19), (Op.move (Operand.tmp 4)), (some (18, true))⟩,
  ⟨(some 20), (Op.move (Operand.tmp 0)), (some (18, true))⟩,
  ⟨(some 21), (Op.move (Operand.tmp 3)), (some (18, true))⟩,
  ⟨(some 22), (Op.binOp BinOp.sub 3 (Operand.tmp 21) (Operand.const (Value.int IntKind.i64 1)) 3), (some (18, true))⟩,
  ⟨(some 23), (Op.indexAddr 29 (Operand.tmp 20) (Operand.tmp 22)), (some (18, true))⟩,
  ⟨(some 24), (Op.load 3 (Operand.tmp 23)), (some (18, true))⟩,
  ⟨(some 25), (Op.binOp BinOp.leq 3 (Operand.tmp 19) (Operand.tmp 24) 3), (some (18, true))⟩,
  ⟨(some 26), (Op.pick (Operand.tmp 18) (Operand.tmp 25) (Operand.const (Value.bool false))), (some (15, false))⟩,
  ⟨(some 27), (Op.pick (Operand.tmp 15) (Operand.const (Value.bool true)) (Operand.tmp 26)), none⟩]
def r101_5 : List PO := [⟨(some 2), (Op.assign (Operand.const (Value.bool false))), none⟩]
def r101_6 : List PO := [⟨(some 28), (Op.binOp BinOp.add 3 (Operand.tmp 7) (Operand.const (Value.int IntKind.i64 1)) 3), none⟩,
  ⟨(some 7), (Op.move (Operand.tmp 28)), none⟩]
def l101_0 : PC := (.seq (.reg r101_2) (.seq (.cond (Operand.tmp 8) .skip (.exit 0)) (.seq (.block 1 (.seq (.reg r101_3) (.seq (.reg r101_4) (.cond (Operand.tmp 27) (.seq (.reg r101_5) .ret) .skip)))) (.reg r101_6))))
def r101_7 : List PO := [⟨(some 29), (Op.move (Operand.tmp 0)), none⟩,
  ⟨(some 30), (Op.call { callee := (Callee.builtin Builtin.len), args := #[(Operand.tmp 29)], argTypes := #[29] }), none⟩,
  ⟨(some 31), (Op.binOp BinOp.leq 3 (Operand.tmp 30) (Operand.const (Value.int IntKind.i64 6)) 3), none⟩,
  ⟨(some 2), (Op.assign (Operand.tmp 31)), none⟩]
def c101 : PC := (.seq (.reg r101_0) (.seq (.seq (.reg r101_1) (.block 0 (.loop l101_0))) (.seq (.reg r101_7) .ret)))
def i101 : FnI := ⟨32, [(ResultVar.tmp 2)], c101, 0, [[1]], [[0]], false⟩
-- slices.ContainsFunc[[]int,int]
def r109_0 : List PO := [⟨(some 4), (Op.assign (Operand.const (Value.bool false))), none⟩]
def r109_1 : List PO := [⟨(some 5), (Op.move (Operand.tmp 0)), none⟩,
  ⟨(some 6), (Op.move (Operand.tmp 1)), none⟩,
  ⟨(some 7), (Op.call { callee := (Callee.value (Operand.func 115)), args := #[(Operand.tmp 5), (Operand.tmp 6)], argTypes := #[29, 80] }), none⟩,
  ⟨(some 8), (Op.binOp BinOp.geq 3 (Operand.tmp 7) (Operand.const (Value.int IntKind.i64 0)) 3), none⟩,
  ⟨(some 4), (Op.assign (Operand.tmp 8)), none⟩]
def c109 : PC := (.seq (.reg r109_0) (.seq (.reg r109_1) .ret))
def i109 : FnI := ⟨9, [(ResultVar.tmp 4)], c109, 0, [[1], [0]], [[0]], false⟩
-- loop.example/g00344/impl.isPath$1
def r110_0 : List PO := [⟨(some 2), (Op.assign (Operand.const (Value.bool false))), none⟩]
def r110_1 : List PO := [⟨(some 3), (Op.move (Operand.tmp 0)), none⟩,
  ⟨(some 4), (Op.call { callee := (Callee.value (Operand.func 66)), args := #[(Operand.tmp 3)], argTypes := #[3] }), none⟩,
  ⟨(some 5), (Op.unOp UnOp.not 4 (Operand.tmp 4)), none⟩,
  ⟨(some 2), (Op.assign (Operand.tmp 5)), none⟩]
def c110 : PC := (.seq (.reg r110_0) (.seq (.reg r110_1) .ret))
def i110 : FnI := ⟨6, [(ResultVar.tmp 2)], c110, 0, [[0]], [[0]], false⟩
-- slices.IndexFunc[[]int,int]
def r115_0 : List PO := [⟨(some 4), (Op.assign (Operand.const (Value.int IntKind.i64 0))), none⟩]
def r115_1 : List PO := [⟨(some 6), (Op.move (Operand.tmp 0)), none⟩,
  ⟨(some 7), (Op.call { callee := (Callee.builtin Builtin.len), args := #[(Operand.tmp 6)], argTypes := #[29] }), none⟩,
  ⟨(some 8), (Op.move (Operand.const (Value.int IntKind.i64 0))), none⟩]
def r115_2 : List PO := [⟨(some 9), (Op.binOp BinOp.lss 3 (Operand.tmp 8) (Operand.tmp 7) 3), none⟩]
def r115_3 : List PO := [⟨(some 10), (Op.move (Operand.tmp 8)), none⟩,
  ⟨(some 5), (Op.assign (Operand.tmp 10)), none⟩]
def r115_4 : List PO := [⟨(some 11), (Op.move (Operand.tmp 1)), none⟩,
  ⟨(some 12), (Op.move (Operand.tmp 0)), none⟩,
  ⟨(some 13), (Op.move (Operand.tmp 5)), none⟩,
  ⟨(some 14), (Op.indexAddr 29 (Operand.tmp 12) (Operand.tmp 13)), none⟩,
  ⟨(some 15), (Op.load 3 (Operand.tmp 14)), none⟩,
  ⟨(some 16), (Op.call { callee := (Callee.value (Operand.tmp 11)), args := #[(Operand.tmp 15)], argTypes := #[3] }), none⟩]
def r115_5 : List PO := [⟨(some 17), (Op.move (Operand.tmp 5)), none⟩,
  ⟨(some 4), (Op.assign (Operand.tmp 17)), none⟩]
def r115_6 : List PO := [⟨(some 18), (Op.binOp BinOp.add 3 (Operand.tmp 8) (Operand.const (Value.int IntKind.i64 1)) 3), none⟩,
  ⟨(some 8), (Op.move (Operand.tmp 18)), none⟩]
def l115_0 : PC := (.seq (.reg r115_2) (.seq (.cond (Operand.tmp 9) .skip (.exit 0)) (.seq (.block 1 (.seq (.reg r115_3) (.seq (.reg r115_4) (.cond (Operand.tmp 16) (.seq (.reg r115_5) .ret) .skip)))) (.reg r115_6))))
def r115_7 : List PO := [⟨(some 4), (Op.assign (Operand.const (Value.int IntKind.i64 (-1)))), none⟩]
def c115 : PC := (.seq (.reg r115_0) (.seq (.seq (.reg r115_1) (.block 0 (.loop l115_0))) (.seq (.reg r115_7) .ret)))
def i115 : FnI := ⟨19, [(ResultVar.tmp 4)], c115, 0, [[1], [0]], [[0]], false⟩
def tys : List (Nat × TyI) := [(3, ⟨1, 8, false, [.int .i64 0], [0], 0, [], .int .i64, false⟩),
  (4, ⟨1, 1, false, [.bool false], [0], 0, [], .bool, false⟩),
  (22, ⟨1, 24, false, [.nil], [7], 33, [], .other, false⟩),
  (25, ⟨1, 24, false, [.nil], [7], 39, [], .other, false⟩),
  (29, ⟨1, 24, false, [.nil], [1], 3, [], .other, false⟩),
  (31, ⟨6, 80, true, [.int .i64 0, .nil, .int .i64 0, .int .i64 0, .int .i64 0, .nil], [0, 1, 0, 0, 0, 1], 0, [(0, 1, false), (1, 1, false), (2, 1, false), (3, 1, false), (4, 1, false), (5, 1, false)], .other, false⟩),
  (33, ⟨7, 88, true, [.int .i64 0, .int .i64 0, .nil, .int .i64 0, .int .i64 0, .int .i64 0, .nil], [0, 0, 1, 0, 0, 0, 1], 0, [(0, 1, false), (1, 6, true)], .other, false⟩),
  (37, ⟨6, 80, true, [.int .i64 0, .nil, .int .i64 0, .int .i64 0, .int .i64 0, .nil], [0, 1, 0, 0, 0, 1], 0, [(0, 1, false), (1, 1, false), (2, 1, false), (3, 1, false), (4, 1, false), (5, 1, false)], .other, false⟩),
  (39, ⟨7, 88, true, [.int .i64 0, .int .i64 0, .nil, .int .i64 0, .int .i64 0, .int .i64 0, .nil], [0, 0, 1, 0, 0, 0, 1], 0, [(0, 1, false), (1, 6, true)], .other, false⟩)]
def fns : List (Nat × FnI) := [(3, i3), (12, i12), (13, i13), (14, i14), (15, i15), (16, i16), (17, i17), (19, i19), (21, i21), (33, i33), (48, i48), (49, i49), (50, i50), (51, i51), (53, i53), (55, i55), (66, i66), (75, i75), (76, i76), (77, i77), (78, i78), (80, i80), (91, i91), (98, i98), (99, i99), (100, i100), (101, i101), (109, i109), (110, i110), (115, i115)]
def T : Tab := mkTab tys fns
@[simp] theorem ty3 : T.ty 3 = some ⟨1, 8, false, [.int .i64 0], [0], 0, [], .int .i64, false⟩ := rfl
@[simp] theorem base3 : T.baseOf 3 = Bs.int .i64 := rfl
@[simp] theorem ty4 : T.ty 4 = some ⟨1, 1, false, [.bool false], [0], 0, [], .bool, false⟩ := rfl
@[simp] theorem base4 : T.baseOf 4 = Bs.bool := rfl
@[simp] theorem ty22 : T.ty 22 = some ⟨1, 24, false, [.nil], [7], 33, [], .other, false⟩ := rfl
@[simp] theorem base22 : T.baseOf 22 = Bs.other := rfl
@[simp] theorem elem22 : T.elemOf 22 = some ⟨7, 88, true, [.int .i64 0, .int .i64 0, .nil, .int .i64 0, .int .i64 0, .int .i64 0, .nil], [0, 0, 1, 0, 0, 0, 1], 0, [(0, 1, false), (1, 6, true)], .other, false⟩ := rfl
@[simp] theorem ty25 : T.ty 25 = some ⟨1, 24, false, [.nil], [7], 39, [], .other, false⟩ := rfl
@[simp] theorem base25 : T.baseOf 25 = Bs.other := rfl
@[simp] theorem elem25 : T.elemOf 25 = some ⟨7, 88, true, [.int .i64 0, .int .i64 0, .nil, .int .i64 0, .int .i64 0, .int .i64 0, .nil], [0, 0, 1, 0, 0, 0, 1], 0, [(0, 1, false), (1, 6, true)], .other, false⟩ := rfl
@[simp] theorem ty29 : T.ty 29 = some ⟨1, 24, false, [.nil], [1], 3, [], .other, false⟩ := rfl
@[simp] theorem base29 : T.baseOf 29 = Bs.other := rfl
@[simp] theorem elem29 : T.elemOf 29 = some ⟨1, 8, false, [.int .i64 0], [0], 0, [], .int .i64, false⟩ := rfl
@[simp] theorem ty31 : T.ty 31 = some ⟨6, 80, true, [.int .i64 0, .nil, .int .i64 0, .int .i64 0, .int .i64 0, .nil], [0, 1, 0, 0, 0, 1], 0, [(0, 1, false), (1, 1, false), (2, 1, false), (3, 1, false), (4, 1, false), (5, 1, false)], .other, false⟩ := rfl
@[simp] theorem base31 : T.baseOf 31 = Bs.other := rfl
@[simp] theorem ty33 : T.ty 33 = some ⟨7, 88, true, [.int .i64 0, .int .i64 0, .nil, .int .i64 0, .int .i64 0, .int .i64 0, .nil], [0, 0, 1, 0, 0, 0, 1], 0, [(0, 1, false), (1, 6, true)], .other, false⟩ := rfl
@[simp] theorem base33 : T.baseOf 33 = Bs.other := rfl
@[simp] theorem ty37 : T.ty 37 = some ⟨6, 80, true, [.int .i64 0, .nil, .int .i64 0, .int .i64 0, .int .i64 0, .nil], [0, 1, 0, 0, 0, 1], 0, [(0, 1, false), (1, 1, false), (2, 1, false), (3, 1, false), (4, 1, false), (5, 1, false)], .other, false⟩ := rfl
@[simp] theorem base37 : T.baseOf 37 = Bs.other := rfl
@[simp] theorem ty39 : T.ty 39 = some ⟨7, 88, true, [.int .i64 0, .int .i64 0, .nil, .int .i64 0, .int .i64 0, .int .i64 0, .nil], [0, 0, 1, 0, 0, 0, 1], 0, [(0, 1, false), (1, 6, true)], .other, false⟩ := rfl
@[simp] theorem base39 : T.baseOf 39 = Bs.other := rfl
theorem ok3 : FnOk Try.prog (3, i3) := ⟨Try.f3, _, Try.func3, rfl, by kernel_rfl, rfl, rfl, by kernel_rfl⟩
theorem ok12 : FnOk Try.prog (12, i12) := ⟨Try.f12, _, Try.func12, rfl, by kernel_rfl, rfl, rfl, by kernel_rfl⟩
theorem ok13 : FnOk Try.prog (13, i13) := ⟨Try.f13, _, Try.func13, rfl, by kernel_rfl, rfl, rfl, by kernel_rfl⟩
theorem ok14 : FnOk Try.prog (14, i14) := ⟨Try.f14, _, Try.func14, rfl, by kernel_rfl, rfl, rfl, by kernel_rfl⟩
theorem ok15 : FnOk Try.prog (15, i15) := ⟨Try.f15, _, Try.func15, rfl, by kernel_rfl, rfl, rfl, by kernel_rfl⟩
theorem ok16 : FnOk Try.prog (16, i16) := ⟨Try.f16, _, Try.func16, rfl, by kernel_rfl, rfl, rfl, by kernel_rfl⟩
theorem ok17 : FnOk Try.prog (17, i17) := ⟨Try.f17, _, Try.func17, rfl, by kernel_rfl, rfl, rfl, by kernel_rfl⟩
theorem ok19 : FnOk Try.prog (19, i19) := ⟨Try.f19, _, Try.func19, rfl, by kernel_rfl, rfl, rfl, by kernel_rfl⟩
theorem ok21 : FnOk Try.prog (21, i21) := ⟨Try.f21, _, Try.func21, rfl, by kernel_rfl, rfl, rfl, by kernel_rfl⟩
theorem ok33 : FnOk Try.prog (33, i33) := ⟨Try.f33, _, Try.func33, rfl, by kernel_rfl, rfl, rfl, by kernel_rfl⟩
theorem ok48 : FnOk Try.prog (48, i48) := ⟨Try.f48, _, Try.func48, rfl, by kernel_rfl, rfl, rfl, by kernel_rfl⟩
theorem ok49 : FnOk Try.prog (49, i49) := ⟨Try.f49, _, Try.func49, rfl, by kernel_rfl, rfl, rfl, by kernel_rfl⟩
theorem ok50 : FnOk Try.prog (50, i50) := ⟨Try.f50, _, Try.func50, rfl, by kernel_rfl, rfl, rfl, by kernel_rfl⟩
theorem ok51 : FnOk Try.prog (51, i51) := ⟨Try.f51, _, Try.func51, rfl, by kernel_rfl, rfl, rfl, by kernel_rfl⟩
theorem ok53 : FnOk Try.prog (53, i53) := ⟨Try.f53, _, Try.func53, rfl, by kernel_rfl, rfl, rfl, by kernel_rfl⟩
theorem ok55 : FnOk Try.prog (55, i55) := ⟨Try.f55, _, Try.func55, rfl, by kernel_rfl, rfl, rfl, by kernel_rfl⟩
theorem ok66 : FnOk Try.prog (66, i66) := ⟨Try.f66, _, Try.func66, rfl, by kernel_rfl, rfl, rfl, by kernel_rfl⟩
theorem ok75 : FnOk Try.prog (75, i75) := ⟨Try.f75, _, Try.func75, rfl, by kernel_rfl, rfl, rfl, by kernel_rfl⟩
theorem ok76 : FnOk Try.prog (76, i76) := ⟨Try.f76, _, Try.func76, rfl, by kernel_rfl, rfl, rfl, by kernel_rfl⟩
theorem ok77 : FnOk Try.prog (77, i77) := ⟨Try.f77, _, Try.func77, rfl, by kernel_rfl, rfl, rfl, by kernel_rfl⟩
theorem ok78 : FnOk Try.prog (78, i78) := ⟨Try.f78, _, Try.func78, rfl, by kernel_rfl, rfl, rfl, by kernel_rfl⟩
theorem ok80 : FnOk Try.prog (80, i80) := ⟨Try.f80, _, Try.func80, rfl, by kernel_rfl, rfl, rfl, by kernel_rfl⟩
theorem ok91 : FnOk Try.prog (91, i91) := ⟨Try.f91, _, Try.func91, rfl, by kernel_rfl, rfl, rfl, by kernel_rfl⟩
theorem ok98 : FnOk Try.prog (98, i98) := ⟨Try.f98, _, Try.func98, rfl, by kernel_rfl, rfl, rfl, by kernel_rfl⟩
theorem ok99 : FnOk Try.prog (99, i99) := ⟨Try.f99, _, Try.func99, rfl, by kernel_rfl, rfl, rfl, by kernel_rfl⟩
theorem ok100 : FnOk Try.prog (100, i100) := ⟨Try.f100, _, Try.func100, rfl, by kernel_rfl, rfl, rfl, by kernel_rfl⟩
theorem ok101 : FnOk Try.prog (101, i101) := ⟨Try.f101, _, Try.func101, rfl, by kernel_rfl, rfl, rfl, by kernel_rfl⟩
theorem ok109 : FnOk Try.prog (109, i109) := ⟨Try.f109, _, Try.func109, rfl, by kernel_rfl, rfl, rfl, by kernel_rfl⟩
theorem ok110 : FnOk Try.prog (110, i110) := ⟨Try.f110, _, Try.func110, rfl, by kernel_rfl, rfl, rfl, by kernel_rfl⟩
theorem ok115 : FnOk Try.prog (115, i115) := ⟨Try.f115, _, Try.func115, rfl, by kernel_rfl, rfl, rfl, by kernel_rfl⟩
theorem tab : TabOk Try.prog T := tabOk_of (by kernel_rfl) (.cons ok3 (.cons ok12 (.cons ok13 (.cons ok14 (.cons ok15 (.cons ok16 (.cons ok17 (.cons ok19 (.cons ok21 (.cons ok33 (.cons ok48 (.cons ok49 (.cons ok50 (.cons ok51 (.cons ok53 (.cons ok55 (.cons ok66 (.cons ok75 (.cons ok76 (.cons ok77 (.cons ok78 (.cons ok80 (.cons ok91 (.cons ok98 (.cons ok99 (.cons ok100 (.cons ok101 (.cons ok109 (.cons ok110 (.cons ok115 (.nil)))))))))))))))))))))))))))))))
theorem fn3 : T.fn 3 = some i3 := rfl
theorem fn12 : T.fn 12 = some i12 := rfl
theorem fn13 : T.fn 13 = some i13 := rfl
theorem fn14 : T.fn 14 = some i14 := rfl
theorem fn15 : T.fn 15 = some i15 := rfl
theorem fn16 : T.fn 16 = some i16 := rfl
theorem fn17 : T.fn 17 = some i17 := rfl
theorem fn19 : T.fn 19 = some i19 := rfl
theorem fn21 : T.fn 21 = some i21 := rfl
theorem fn33 : T.fn 33 = some i33 := rfl
theorem fn48 : T.fn 48 = some i48 := rfl
theorem fn49 : T.fn 49 = some i49 := rfl
theorem fn50 : T.fn 50 = some i50 := rfl
theorem fn51 : T.fn 51 = some i51 := rfl
theorem fn53 : T.fn 53 = some i53 := rfl
theorem fn55 : T.fn 55 = some i55 := rfl
theorem fn66 : T.fn 66 = some i66 := rfl
theorem fn75 : T.fn 75 = some i75 := rfl
theorem fn76 : T.fn 76 = some i76 := rfl
theorem fn77 : T.fn 77 = some i77 := rfl
theorem fn78 : T.fn 78 = some i78 := rfl
theorem fn80 : T.fn 80 = some i80 := rfl
theorem fn91 : T.fn 91 = some i91 := rfl
theorem fn98 : T.fn 98 = some i98 := rfl
theorem fn99 : T.fn 99 = some i99 := rfl
theorem fn100 : T.fn 100 = some i100 := rfl
theorem fn101 : T.fn 101 = some i101 := rfl
theorem fn109 : T.fn 109 = some i109 := rfl
theorem fn110 : T.fn 110 = some i110 := rfl
theorem fn115 : T.fn 115 = some i115 := rfl

end Go.Pi.Ytlcanbihlfncoaa
