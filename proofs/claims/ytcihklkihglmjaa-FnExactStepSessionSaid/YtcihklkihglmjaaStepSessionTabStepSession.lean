/- What functions of the program answer, and that the law answers true at every input; no condition -/
import Derived.Test.YtcihklkihglmjaaProg
import Derived.Test.YtcihklkihglmjaaPiD
import Derived.Test.YtcihklkihglmjaaPiC
set_option linter.all false
/- The program's tables for Pi: types and functions, as they stand in the loaded program, with hints. -/
namespace Go.Pi.Ytcihklkihglmjaa.StepSession
open Go Go.Proofs Go.Pi
set_option maxRecDepth 100000

-- loop.example/g00344/laws.toSession
def r15_0 : List PO := [⟨(some 1), (Op.box 28 (Operand.tmp 0)), none⟩,
  ⟨(some 2), (Op.alloc 23), none⟩]
attribute [go_sem] r15_0
def r15_1 : List PO := [⟨(some 3), (Op.alloc 23), none⟩]
attribute [go_sem] r15_1
def r15_2 : List PO := [⟨(some 4), (Op.fieldAddr 28 (Operand.tmp 1) 0), none⟩,
  ⟨(some 5), (Op.load 3 (Operand.tmp 4)), none⟩,
  ⟨(some 6), (Op.fieldAddr 23 (Operand.tmp 3) 0), none⟩,
  ⟨none, (Op.store 3 (Operand.tmp 6) (Operand.tmp 5)), none⟩]
attribute [go_sem] r15_2
def r15_3 : List PO := [⟨(some 7), (Op.fieldAddr 28 (Operand.tmp 1) 1), none⟩,
  ⟨(some 8), (Op.load 3 (Operand.tmp 7)), none⟩,
  ⟨(some 9), (Op.fieldAddr 23 (Operand.tmp 3) 1), none⟩,
  ⟨none, (Op.store 3 (Operand.tmp 9) (Operand.tmp 8)), none⟩]
attribute [go_sem] r15_3
def r15_4 : List PO := [⟨(some 10), (Op.fieldAddr 28 (Operand.tmp 1) 2), none⟩,
  ⟨(some 11), (Op.load 3 (Operand.tmp 10)), none⟩,
  ⟨(some 12), (Op.fieldAddr 23 (Operand.tmp 3) 2), none⟩,
  ⟨none, (Op.store 3 (Operand.tmp 12) (Operand.tmp 11)), none⟩]
attribute [go_sem] r15_4
def r15_5 : List PO := [⟨(some 13), (Op.fieldAddr 28 (Operand.tmp 1) 3), none⟩,
  ⟨(some 14), (Op.load 3 (Operand.tmp 13)), none⟩,
  ⟨(some 15), (Op.fieldAddr 23 (Operand.tmp 3) 3), none⟩,
  ⟨none, (Op.store 3 (Operand.tmp 15) (Operand.tmp 14)), none⟩]
attribute [go_sem] r15_5
def r15_6 : List PO := [⟨(some 16), (Op.fieldAddr 28 (Operand.tmp 1) 4), none⟩,
  ⟨(some 17), (Op.load 3 (Operand.tmp 16)), none⟩,
  ⟨(some 18), (Op.fieldAddr 23 (Operand.tmp 3) 4), none⟩,
  ⟨none, (Op.store 3 (Operand.tmp 18) (Operand.tmp 17)), none⟩]
attribute [go_sem] r15_6
def r15_7 : List PO := [⟨(some 19), (Op.load 23 (Operand.tmp 3)), none⟩,
  ⟨none, (Op.store 23 (Operand.tmp 2) (Operand.tmp 19)), none⟩]
attribute [go_sem] r15_7
def c15 : PC := (.seq (.reg r15_0) (.seq (.reg r15_1) (.seq (.reg r15_2) (.seq (.reg r15_3) (.seq (.reg r15_4) (.seq (.reg r15_5) (.seq (.reg r15_6) (.seq (.reg r15_7) .ret))))))))
def i15 : FnI := ⟨20, [(ResultVar.cell 2 23)], c15, 0, [[0, 0, 0, 0, 0]], [[0, 0, 0, 0, 0]], false, false, 0⟩
-- loop.example/g00344/laws.toEvent
def r20_0 : List PO := [⟨(some 1), (Op.box 35 (Operand.tmp 0)), none⟩,
  ⟨(some 2), (Op.alloc 39), none⟩]
attribute [go_sem] r20_0
def r20_1 : List PO := [⟨(some 3), (Op.alloc 39), none⟩]
attribute [go_sem] r20_1
def r20_2 : List PO := [⟨(some 4), (Op.fieldAddr 35 (Operand.tmp 1) 0), none⟩,
  ⟨(some 5), (Op.load 3 (Operand.tmp 4)), none⟩,
  ⟨(some 6), (Op.fieldAddr 39 (Operand.tmp 3) 0), none⟩,
  ⟨none, (Op.store 3 (Operand.tmp 6) (Operand.tmp 5)), none⟩]
attribute [go_sem] r20_2
def r20_3 : List PO := [⟨(some 7), (Op.fieldAddr 35 (Operand.tmp 1) 1), none⟩,
  ⟨(some 8), (Op.load 3 (Operand.tmp 7)), none⟩,
  ⟨(some 9), (Op.fieldAddr 39 (Operand.tmp 3) 1), none⟩,
  ⟨none, (Op.store 3 (Operand.tmp 9) (Operand.tmp 8)), none⟩]
attribute [go_sem] r20_3
def r20_4 : List PO := [⟨(some 10), (Op.load 39 (Operand.tmp 3)), none⟩,
  ⟨none, (Op.store 39 (Operand.tmp 2) (Operand.tmp 10)), none⟩]
attribute [go_sem] r20_4
def c20 : PC := (.seq (.reg r20_0) (.seq (.reg r20_1) (.seq (.reg r20_2) (.seq (.reg r20_3) (.seq (.reg r20_4) .ret)))))
def i20 : FnI := ⟨11, [(ResultVar.cell 2 39)], c20, 0, [[0, 0]], [[0, 0]], false, false, 0⟩
-- loop.example/g00344/spec.l1In
def r39_1 : List PO := [⟨(some 7), (Op.move (Operand.tmp 0)), none⟩,
  ⟨(some 8), (Op.move (Operand.tmp 1)), none⟩,
  ⟨(some 9), (Op.binOp BinOp.geq 3 (Operand.tmp 7) (Operand.tmp 8) 3), none⟩,
  ⟨(some 10), (Op.move (Operand.tmp 9)), none⟩,
  ⟨(some 11), (Op.move (Operand.tmp 0)), (some (10, true))⟩,
  ⟨(some 12), (Op.move (Operand.tmp 2)), (some (10, true))⟩,
  ⟨(some 13), (Op.binOp BinOp.leq 3 (Operand.tmp 11) (Operand.tmp 12) 3), (some (10, true))⟩,
  ⟨(some 14), (Op.pick (Operand.tmp 10) (Operand.tmp 13) (Operand.const (Value.bool false))), none⟩,
  ⟨(some 6), (Op.assign (Operand.tmp 14)), none⟩]
attribute [go_sem] r39_1
def k39_1 : PC := (.post (.reg r39_1) ⟨[6], []⟩)
def r39_0 : List PO := [⟨(some 6), (Op.assign (Operand.const (Value.bool false))), none⟩]
attribute [go_sem] r39_0
def c39 : PC := (.seq (.reg r39_0) (.seq (.pre ⟨[0, 1, 2], []⟩ k39_1) .ret))
def i39 : FnI := ⟨15, [(ResultVar.tmp 6)], c39, 0, [[0], [0], [0]], [[0]], false, false, 0⟩
-- loop.example/g00344/spec.GoodSession
def r14_1 : List PO := [⟨(some 3), (Op.fieldAddr 23 (Operand.tmp 1) 0), none⟩,
  ⟨(some 4), (Op.load 3 (Operand.tmp 3)), none⟩,
  ⟨(some 5), (Op.call { callee := (Callee.value (Operand.func 39)), args := #[(Operand.tmp 4), (Operand.const (Value.int IntKind.i64 0)), (Operand.const (Value.int IntKind.i64 4))], argTypes := #[3, 3, 3] }), none⟩,
  ⟨(some 6), (Op.unOp UnOp.not 4 (Operand.tmp 5)), none⟩,
  ⟨(some 7), (Op.move (Operand.tmp 6)), none⟩,
  ⟨(some 8), (Op.fieldAddr 23 (Operand.tmp 1) 1), (some (7, false))⟩,
  ⟨(some 9), (Op.load 3 (Operand.tmp 8)), (some (7, false))⟩,
  ⟨(some 10), (Op.call { callee := (Callee.value (Operand.func 39)), args := #[(Operand.tmp 9), (Operand.const (Value.int IntKind.i64 3)), (Operand.const (Value.int IntKind.i64 90))], argTypes := #[3, 3, 3] }), (some (7, false))⟩,
  ⟨(some 11), (Op.unOp UnOp.not 4 (Operand.tmp 10)), (some (7, false))⟩,
  ⟨(some 12), (Op.pick (Operand.tmp 7) (Operand.const (Value.bool true)) (Operand.tmp 11)), none⟩,
  ⟨(some 13), (Op.move (Operand.tmp 12)), none⟩,
  ⟨(some 14), (Op.fieldAddr 23 (Operand.tmp 1) 4), (some (13, false))⟩,
  ⟨(some 15), (Op.load 3 (Operand.tmp 14)), (some (13, false))⟩,
  ⟨(some 16), (Op.call { callee := (Callee.value (Operand.func 39)), args := #[(Operand.tmp 15), (Operand.const (Value.int IntKind.i64 0)), (Operand.const (Value.int IntKind.i64 1000))], argTypes := #[3, 3, 3] }), (some (13, false))⟩,
  ⟨(some 17), (Op.unOp UnOp.not 4 (Operand.tmp 16)), (some (13, false))⟩,
  ⟨(some 18), (Op.pick (Operand.tmp 13) (Operand.const (Value.bool true)) (Operand.tmp 17)), none⟩]
attribute [go_sem] r14_1
def k14_1 : PC := (.post (.reg r14_1) ⟨[1, 18], [.old 0]⟩)
def r14_5 : List PO := [⟨(some 23), (Op.binOp BinOp.eql 3 (Operand.tmp 20) (Operand.const (Value.int IntKind.i64 1)) 3), none⟩,
  ⟨(some 21), (Op.assign (Operand.tmp 23)), none⟩]
attribute [go_sem] r14_5
def k14_2 : PC := (.cond (Operand.tmp 21) (.post .skip ⟨[1, 20, 21], [.old 0]⟩) (.post (.reg r14_5) ⟨[1, 20, 21], [.old 0]⟩))
def r14_6 : List PO := [⟨(some 24), (Op.fieldAddr 23 (Operand.tmp 1) 2), none⟩,
  ⟨(some 25), (Op.load 3 (Operand.tmp 24)), none⟩,
  ⟨(some 26), (Op.binOp BinOp.eql 3 (Operand.tmp 25) (Operand.const (Value.int IntKind.i64 0)) 3), none⟩,
  ⟨(some 27), (Op.move (Operand.tmp 26)), none⟩,
  ⟨(some 28), (Op.fieldAddr 23 (Operand.tmp 1) 3), (some (27, true))⟩,
  ⟨(some 29), (Op.load 3 (Operand.tmp 28)), (some (27, true))⟩,
  ⟨(some 30), (Op.binOp BinOp.eql 3 (Operand.tmp 29) (Operand.const (Value.int IntKind.i64 0)) 3), (some (27, true))⟩,
  ⟨(some 31), (Op.pick (Operand.tmp 27) (Operand.tmp 30) (Operand.const (Value.bool false))), none⟩,
  ⟨(some 2), (Op.assign (Operand.tmp 31)), none⟩]
attribute [go_sem] r14_6
def k14_3 : PC := (.post (.reg r14_6) ⟨[2], []⟩)
def r14_8 : List PO := [⟨(some 34), (Op.fieldAddr 23 (Operand.tmp 1) 2), none⟩,
  ⟨(some 35), (Op.load 3 (Operand.tmp 34)), none⟩,
  ⟨(some 36), (Op.call { callee := (Callee.value (Operand.func 39)), args := #[(Operand.tmp 35), (Operand.const (Value.int IntKind.i64 1)), (Operand.const (Value.int IntKind.i64 90))], argTypes := #[3, 3, 3] }), none⟩,
  ⟨(some 37), (Op.move (Operand.tmp 36)), none⟩,
  ⟨(some 38), (Op.fieldAddr 23 (Operand.tmp 1) 3), (some (37, true))⟩,
  ⟨(some 39), (Op.load 3 (Operand.tmp 38)), (some (37, true))⟩,
  ⟨(some 40), (Op.binOp BinOp.eql 3 (Operand.tmp 39) (Operand.const (Value.int IntKind.i64 0)) 3), (some (37, true))⟩,
  ⟨(some 41), (Op.pick (Operand.tmp 37) (Operand.tmp 40) (Operand.const (Value.bool false))), none⟩,
  ⟨(some 2), (Op.assign (Operand.tmp 41)), none⟩]
attribute [go_sem] r14_8
def k14_4 : PC := (.post (.reg r14_8) ⟨[2], []⟩)
def r14_9 : List PO := [⟨(some 42), (Op.fieldAddr 23 (Operand.tmp 1) 2), none⟩,
  ⟨(some 43), (Op.load 3 (Operand.tmp 42)), none⟩,
  ⟨(some 44), (Op.call { callee := (Callee.value (Operand.func 39)), args := #[(Operand.tmp 43), (Operand.const (Value.int IntKind.i64 1)), (Operand.const (Value.int IntKind.i64 90))], argTypes := #[3, 3, 3] }), none⟩,
  ⟨(some 45), (Op.move (Operand.tmp 44)), none⟩,
  ⟨(some 46), (Op.fieldAddr 23 (Operand.tmp 1) 3), (some (45, true))⟩,
  ⟨(some 47), (Op.load 3 (Operand.tmp 46)), (some (45, true))⟩,
  ⟨(some 48), (Op.call { callee := (Callee.value (Operand.func 39)), args := #[(Operand.tmp 47), (Operand.const (Value.int IntKind.i64 1)), (Operand.const (Value.int IntKind.i64 30))], argTypes := #[3, 3, 3] }), (some (45, true))⟩,
  ⟨(some 49), (Op.pick (Operand.tmp 45) (Operand.tmp 48) (Operand.const (Value.bool false))), none⟩,
  ⟨(some 2), (Op.assign (Operand.tmp 49)), none⟩]
attribute [go_sem] r14_9
def k14_5 : PC := (.post (.reg r14_9) ⟨[2], []⟩)
def r14_0 : List PO := [⟨(some 1), (Op.box 23 (Operand.tmp 0)), none⟩,
  ⟨(some 2), (Op.assign (Operand.const (Value.bool false))), none⟩]
attribute [go_sem] r14_0
def r14_2 : List PO := [⟨(some 2), (Op.assign (Operand.const (Value.bool false))), none⟩]
attribute [go_sem] r14_2
def r14_3 : List PO := [⟨(some 19), (Op.fieldAddr 23 (Operand.tmp 1) 0), none⟩,
  ⟨(some 20), (Op.load 3 (Operand.tmp 19)), none⟩]
attribute [go_sem] r14_3
def r14_4 : List PO := [⟨(some 22), (Op.binOp BinOp.eql 3 (Operand.tmp 20) (Operand.const (Value.int IntKind.i64 0)) 3), none⟩,
  ⟨(some 21), (Op.assign (Operand.tmp 22)), none⟩]
attribute [go_sem] r14_4
def r14_7 : List PO := [⟨(some 33), (Op.binOp BinOp.eql 3 (Operand.tmp 20) (Operand.const (Value.int IntKind.i64 2)) 3), none⟩,
  ⟨(some 32), (Op.assign (Operand.tmp 33)), none⟩]
attribute [go_sem] r14_7
def c14 : PC := (.seq (.reg r14_0) (.seq (.seq (.pre ⟨[1], [.old 0]⟩ k14_1) (.cond (Operand.tmp 18) (.seq (.reg r14_2) .ret) .skip)) (.seq (.seq (.reg r14_3) (.block 0 (.seq (.seq (.reg r14_4) (.pre ⟨[1, 20, 21], [.old 0]⟩ k14_2)) (.cond (Operand.tmp 21) (.seq (.pre ⟨[1], [.old 0]⟩ k14_3) .ret) (.seq (.reg r14_7) (.cond (Operand.tmp 32) (.seq (.pre ⟨[1], [.old 0]⟩ k14_4) .ret) .skip)))))) (.seq (.pre ⟨[1], [.old 0]⟩ k14_5) .ret))))
def i14 : FnI := ⟨50, [(ResultVar.tmp 2)], c14, 0, [[0, 0, 0, 0, 0]], [[0]], false, false, 0⟩
-- loop.example/g00344/spec.l12Event
def r41_3 : List PO := [⟨(some 9), (Op.fieldAddr 39 (Operand.tmp 1) 0), none⟩,
  ⟨(some 10), (Op.load 3 (Operand.tmp 9)), none⟩,
  ⟨(some 11), (Op.call { callee := (Callee.value (Operand.func 39)), args := #[(Operand.tmp 10), (Operand.const (Value.int IntKind.i64 1)), (Operand.const (Value.int IntKind.i64 10))], argTypes := #[3, 3, 3] }), none⟩,
  ⟨(some 12), (Op.move (Operand.tmp 11)), none⟩,
  ⟨(some 13), (Op.fieldAddr 39 (Operand.tmp 1) 1), (some (12, true))⟩,
  ⟨(some 14), (Op.load 3 (Operand.tmp 13)), (some (12, true))⟩,
  ⟨(some 15), (Op.binOp BinOp.eql 3 (Operand.tmp 14) (Operand.const (Value.int IntKind.i64 0)) 3), (some (12, true))⟩,
  ⟨(some 16), (Op.pick (Operand.tmp 12) (Operand.tmp 15) (Operand.const (Value.bool false))), none⟩,
  ⟨(some 2), (Op.assign (Operand.tmp 16)), none⟩]
attribute [go_sem] r41_3
def k41_1 : PC := (.post (.reg r41_3) ⟨[2], []⟩)
def r41_0 : List PO := [⟨(some 1), (Op.box 39 (Operand.tmp 0)), none⟩,
  ⟨(some 2), (Op.assign (Operand.const (Value.bool false))), none⟩]
attribute [go_sem] r41_0
def r41_1 : List PO := [⟨(some 3), (Op.fieldAddr 39 (Operand.tmp 1) 0), none⟩,
  ⟨(some 4), (Op.load 3 (Operand.tmp 3)), none⟩,
  ⟨(some 5), (Op.binOp BinOp.eql 3 (Operand.tmp 4) (Operand.const (Value.int IntKind.i64 5)) 3), none⟩]
attribute [go_sem] r41_1
def r41_2 : List PO := [⟨(some 6), (Op.fieldAddr 39 (Operand.tmp 1) 1), none⟩,
  ⟨(some 7), (Op.load 3 (Operand.tmp 6)), none⟩,
  ⟨(some 8), (Op.call { callee := (Callee.value (Operand.func 39)), args := #[(Operand.tmp 7), (Operand.const (Value.int IntKind.i64 0)), (Operand.const (Value.int IntKind.i64 100))], argTypes := #[3, 3, 3] }), none⟩,
  ⟨(some 2), (Op.assign (Operand.tmp 8)), none⟩]
attribute [go_sem] r41_2
def c41 : PC := (.seq (.reg r41_0) (.seq (.seq (.reg r41_1) (.cond (Operand.tmp 5) (.seq (.reg r41_2) .ret) .skip)) (.seq (.pre ⟨[1], [.old 0]⟩ k41_1) .ret)))
def i41 : FnI := ⟨17, [(ResultVar.tmp 2)], c41, 0, [[0, 0]], [[0]], false, false, 0⟩
-- loop.example/g00344/spec.l12To
def r60_0 : List PO := [⟨(some 2), (Op.box 23 (Operand.tmp 0)), none⟩,
  ⟨(some 4), (Op.alloc 23), none⟩]
attribute [go_sem] r60_0
def r60_1 : List PO := [⟨(some 5), (Op.move (Operand.tmp 1)), none⟩,
  ⟨(some 6), (Op.fieldAddr 23 (Operand.tmp 2) 0), none⟩,
  ⟨none, (Op.store 3 (Operand.tmp 6) (Operand.tmp 5)), none⟩]
attribute [go_sem] r60_1
def r60_2 : List PO := [⟨(some 7), (Op.fieldAddr 23 (Operand.tmp 2) 2), none⟩,
  ⟨none, (Op.store 3 (Operand.tmp 7) (Operand.const (Value.int IntKind.i64 0))), none⟩]
attribute [go_sem] r60_2
def r60_3 : List PO := [⟨(some 8), (Op.fieldAddr 23 (Operand.tmp 2) 3), none⟩,
  ⟨none, (Op.store 3 (Operand.tmp 8) (Operand.const (Value.int IntKind.i64 0))), none⟩]
attribute [go_sem] r60_3
def r60_4 : List PO := [⟨(some 9), (Op.load 23 (Operand.tmp 2)), none⟩,
  ⟨none, (Op.store 23 (Operand.tmp 4) (Operand.tmp 9)), none⟩]
attribute [go_sem] r60_4
def c60 : PC := (.seq (.reg r60_0) (.seq (.reg r60_1) (.seq (.reg r60_2) (.seq (.reg r60_3) (.seq (.reg r60_4) .ret)))))
def i60 : FnI := ⟨10, [(ResultVar.cell 4 23)], c60, 0, [[0, 0, 0, 0, 0], [0]], [[0, 0, 0, 0, 0]], false, false, 0⟩
-- loop.example/g00344/spec.l12Tick
def r49_0 : List PO := [⟨(some 1), (Op.box 23 (Operand.tmp 0)), none⟩,
  ⟨(some 2), (Op.alloc 23), none⟩,
  ⟨(some 3), (Op.assign (Operand.const (Value.slice none 0 0))), none⟩]
attribute [go_sem] r49_0
def r49_1 : List PO := [⟨(some 4), (Op.fieldAddr 23 (Operand.tmp 1) 0), none⟩,
  ⟨(some 5), (Op.load 3 (Operand.tmp 4)), none⟩,
  ⟨(some 6), (Op.binOp BinOp.lss 3 (Operand.tmp 5) (Operand.const (Value.int IntKind.i64 2)) 3), none⟩]
attribute [go_sem] r49_1
def r49_2 : List PO := [⟨(some 7), (Op.load 23 (Operand.tmp 1)), none⟩,
  ⟨none, (Op.store 23 (Operand.tmp 2) (Operand.tmp 7)), none⟩,
  ⟨(some 3), (Op.assign (Operand.const (Value.slice none 0 0))), none⟩]
attribute [go_sem] r49_2
def r49_3 : List PO := [⟨(some 8), (Op.fieldAddr 23 (Operand.tmp 1) 2), none⟩,
  ⟨(some 9), (Op.load 3 (Operand.tmp 8)), none⟩,
  ⟨(some 10), (Op.binOp BinOp.sub 3 (Operand.tmp 9) (Operand.const (Value.int IntKind.i64 1)) 3), none⟩,
  ⟨(some 11), (Op.fieldAddr 23 (Operand.tmp 1) 2), none⟩,
  ⟨none, (Op.store 3 (Operand.tmp 11) (Operand.tmp 10)), none⟩]
attribute [go_sem] r49_3
def r49_4 : List PO := [⟨(some 12), (Op.fieldAddr 23 (Operand.tmp 1) 2), none⟩,
  ⟨(some 13), (Op.load 3 (Operand.tmp 12)), none⟩,
  ⟨(some 14), (Op.binOp BinOp.eql 3 (Operand.tmp 13) (Operand.const (Value.int IntKind.i64 0)) 3), none⟩]
attribute [go_sem] r49_4
def r49_5 : List PO := [⟨(some 15), (Op.load 23 (Operand.tmp 1)), none⟩,
  ⟨(some 16), (Op.call { callee := (Callee.value (Operand.func 60)), args := #[(Operand.tmp 15), (Operand.const (Value.int IntKind.i64 0))], argTypes := #[23, 3] }), none⟩,
  ⟨(some 17), (Op.buildSlice 36 1 #[(0, (Operand.const (Value.int IntKind.i64 3)))]), none⟩,
  ⟨none, (Op.store 23 (Operand.tmp 2) (Operand.tmp 16)), none⟩,
  ⟨(some 3), (Op.assign (Operand.tmp 17)), none⟩]
attribute [go_sem] r49_5
def r49_6 : List PO := [⟨(some 18), (Op.fieldAddr 23 (Operand.tmp 1) 0), none⟩,
  ⟨(some 19), (Op.load 3 (Operand.tmp 18)), none⟩,
  ⟨(some 20), (Op.binOp BinOp.eql 3 (Operand.tmp 19) (Operand.const (Value.int IntKind.i64 2)) 3), none⟩]
attribute [go_sem] r49_6
def r49_7 : List PO := [⟨(some 21), (Op.load 23 (Operand.tmp 1)), none⟩,
  ⟨none, (Op.store 23 (Operand.tmp 2) (Operand.tmp 21)), none⟩,
  ⟨(some 3), (Op.assign (Operand.const (Value.slice none 0 0))), none⟩]
attribute [go_sem] r49_7
def r49_8 : List PO := [⟨(some 22), (Op.fieldAddr 23 (Operand.tmp 1) 3), none⟩,
  ⟨(some 23), (Op.load 3 (Operand.tmp 22)), none⟩,
  ⟨(some 24), (Op.binOp BinOp.sub 3 (Operand.tmp 23) (Operand.const (Value.int IntKind.i64 1)) 3), none⟩,
  ⟨(some 25), (Op.fieldAddr 23 (Operand.tmp 1) 3), none⟩,
  ⟨none, (Op.store 3 (Operand.tmp 25) (Operand.tmp 24)), none⟩]
attribute [go_sem] r49_8
def r49_9 : List PO := [⟨(some 26), (Op.fieldAddr 23 (Operand.tmp 1) 3), none⟩,
  ⟨(some 27), (Op.load 3 (Operand.tmp 26)), none⟩,
  ⟨(some 28), (Op.binOp BinOp.eql 3 (Operand.tmp 27) (Operand.const (Value.int IntKind.i64 0)) 3), none⟩]
attribute [go_sem] r49_9
def r49_10 : List PO := [⟨(some 29), (Op.fieldAddr 23 (Operand.tmp 1) 1), none⟩,
  ⟨(some 30), (Op.load 3 (Operand.tmp 29)), none⟩,
  ⟨(some 31), (Op.binOp BinOp.quo 3 (Operand.tmp 30) (Operand.const (Value.int IntKind.i64 3)) 3), none⟩,
  ⟨(some 32), (Op.fieldAddr 23 (Operand.tmp 1) 3), none⟩,
  ⟨none, (Op.store 3 (Operand.tmp 32) (Operand.tmp 31)), none⟩]
attribute [go_sem] r49_10
def r49_11 : List PO := [⟨(some 33), (Op.load 23 (Operand.tmp 1)), none⟩,
  ⟨(some 34), (Op.buildSlice 36 1 #[(0, (Operand.const (Value.int IntKind.i64 4)))]), none⟩,
  ⟨none, (Op.store 23 (Operand.tmp 2) (Operand.tmp 33)), none⟩,
  ⟨(some 3), (Op.assign (Operand.tmp 34)), none⟩]
attribute [go_sem] r49_11
def r49_12 : List PO := [⟨(some 35), (Op.load 23 (Operand.tmp 1)), none⟩,
  ⟨none, (Op.store 23 (Operand.tmp 2) (Operand.tmp 35)), none⟩,
  ⟨(some 3), (Op.assign (Operand.const (Value.slice none 0 0))), none⟩]
attribute [go_sem] r49_12
def c49 : PC := (.seq (.reg r49_0) (.seq (.seq (.reg r49_1) (.cond (Operand.tmp 6) (.seq (.reg r49_2) .ret) .skip)) (.seq (.reg r49_3) (.seq (.seq (.reg r49_4) (.cond (Operand.tmp 14) (.seq (.reg r49_5) .ret) .skip)) (.seq (.seq (.reg r49_6) (.cond (Operand.tmp 20) (.seq (.reg r49_7) .ret) .skip)) (.seq (.reg r49_8) (.seq (.seq (.reg r49_9) (.cond (Operand.tmp 28) (.seq (.reg r49_10) (.seq (.reg r49_11) .ret)) .skip)) (.seq (.reg r49_12) .ret))))))))
def i49 : FnI := ⟨36, [(ResultVar.cell 2 23), (ResultVar.tmp 3)], c49, 0, [[0, 0, 0, 0, 0]], [[0, 0, 0, 0, 0], [1]], false, false, 0⟩
-- loop.example/g00344/spec.l12Step
def r42_4 : List PO := [⟨(some 19), (Op.fieldAddr 39 (Operand.tmp 3) 0), none⟩,
  ⟨(some 20), (Op.load 3 (Operand.tmp 19)), none⟩,
  ⟨(some 21), (Op.binOp BinOp.eql 3 (Operand.tmp 20) (Operand.const (Value.int IntKind.i64 1)) 3), none⟩,
  ⟨(some 22), (Op.move (Operand.tmp 21)), none⟩,
  ⟨(some 23), (Op.fieldAddr 23 (Operand.tmp 2) 0), (some (22, true))⟩,
  ⟨(some 24), (Op.load 3 (Operand.tmp 23)), (some (22, true))⟩,
  ⟨(some 25), (Op.binOp BinOp.eql 3 (Operand.tmp 24) (Operand.const (Value.int IntKind.i64 0)) 3), (some (22, true))⟩,
  ⟨(some 26), (Op.pick (Operand.tmp 22) (Operand.tmp 25) (Operand.const (Value.bool false))), none⟩,
  ⟨(some 18), (Op.assign (Operand.tmp 26)), none⟩]
attribute [go_sem] r42_4
def k42_1 : PC := (.post (.reg r42_4) ⟨[2, 3, 4, 6, 18], [.old 0, .old 1, .old 2]⟩)
def r42_6 : List PO := [⟨(some 30), (Op.fieldAddr 39 (Operand.tmp 3) 0), none⟩,
  ⟨(some 31), (Op.load 3 (Operand.tmp 30)), none⟩,
  ⟨(some 32), (Op.binOp BinOp.eql 3 (Operand.tmp 31) (Operand.const (Value.int IntKind.i64 3)) 3), none⟩,
  ⟨(some 33), (Op.move (Operand.tmp 32)), none⟩,
  ⟨(some 34), (Op.fieldAddr 23 (Operand.tmp 2) 0), (some (33, true))⟩,
  ⟨(some 35), (Op.load 3 (Operand.tmp 34)), (some (33, true))⟩,
  ⟨(some 36), (Op.binOp BinOp.eql 3 (Operand.tmp 35) (Operand.const (Value.int IntKind.i64 1)) 3), (some (33, true))⟩,
  ⟨(some 37), (Op.pick (Operand.tmp 33) (Operand.tmp 36) (Operand.const (Value.bool false))), none⟩,
  ⟨(some 29), (Op.assign (Operand.tmp 37)), none⟩]
attribute [go_sem] r42_6
def k42_2 : PC := (.post (.reg r42_6) ⟨[2, 3, 4, 6, 29], [.old 0, .old 1, .old 2]⟩)
def r42_10 : List PO := [⟨(some 44), (Op.fieldAddr 39 (Operand.tmp 3) 0), none⟩,
  ⟨(some 45), (Op.load 3 (Operand.tmp 44)), none⟩,
  ⟨(some 46), (Op.binOp BinOp.eql 3 (Operand.tmp 45) (Operand.const (Value.int IntKind.i64 4)) 3), none⟩,
  ⟨(some 47), (Op.move (Operand.tmp 46)), none⟩,
  ⟨(some 48), (Op.move (Operand.tmp 6)), (some (47, true))⟩,
  ⟨(some 49), (Op.pick (Operand.tmp 47) (Operand.tmp 48) (Operand.const (Value.bool false))), none⟩,
  ⟨(some 43), (Op.assign (Operand.tmp 49)), none⟩]
attribute [go_sem] r42_10
def k42_3 : PC := (.post (.reg r42_10) ⟨[2, 3, 4, 6, 43], [.old 0, .old 1, .old 2]⟩)
def r42_12 : List PO := [⟨(some 53), (Op.fieldAddr 39 (Operand.tmp 3) 0), none⟩,
  ⟨(some 54), (Op.load 3 (Operand.tmp 53)), none⟩,
  ⟨(some 55), (Op.binOp BinOp.eql 3 (Operand.tmp 54) (Operand.const (Value.int IntKind.i64 9)) 3), none⟩,
  ⟨(some 56), (Op.move (Operand.tmp 55)), none⟩,
  ⟨(some 57), (Op.move (Operand.tmp 6)), (some (56, true))⟩,
  ⟨(some 58), (Op.pick (Operand.tmp 56) (Operand.tmp 57) (Operand.const (Value.bool false))), none⟩,
  ⟨(some 52), (Op.assign (Operand.tmp 58)), none⟩]
attribute [go_sem] r42_12
def k42_4 : PC := (.post (.reg r42_12) ⟨[2, 3, 4, 6, 52], [.old 0, .old 1, .old 2]⟩)
def r42_14 : List PO := [⟨(some 62), (Op.fieldAddr 39 (Operand.tmp 3) 0), none⟩,
  ⟨(some 63), (Op.load 3 (Operand.tmp 62)), none⟩,
  ⟨(some 64), (Op.binOp BinOp.eql 3 (Operand.tmp 63) (Operand.const (Value.int IntKind.i64 2)) 3), none⟩,
  ⟨(some 65), (Op.move (Operand.tmp 64)), none⟩,
  ⟨(some 66), (Op.move (Operand.tmp 6)), (some (65, true))⟩,
  ⟨(some 67), (Op.unOp UnOp.not 4 (Operand.tmp 66)), (some (65, true))⟩,
  ⟨(some 68), (Op.pick (Operand.tmp 65) (Operand.tmp 67) (Operand.const (Value.bool false))), none⟩,
  ⟨(some 61), (Op.assign (Operand.tmp 68)), none⟩]
attribute [go_sem] r42_14
def k42_5 : PC := (.post (.reg r42_14) ⟨[2, 3, 4, 6, 61], [.old 0, .old 1, .old 2]⟩)
def r42_18 : List PO := [⟨(some 76), (Op.fieldAddr 39 (Operand.tmp 3) 0), none⟩,
  ⟨(some 77), (Op.load 3 (Operand.tmp 76)), none⟩,
  ⟨(some 78), (Op.binOp BinOp.eql 3 (Operand.tmp 77) (Operand.const (Value.int IntKind.i64 5)) 3), none⟩,
  ⟨(some 79), (Op.move (Operand.tmp 78)), none⟩,
  ⟨(some 80), (Op.fieldAddr 23 (Operand.tmp 2) 0), (some (79, true))⟩,
  ⟨(some 81), (Op.load 3 (Operand.tmp 80)), (some (79, true))⟩,
  ⟨(some 82), (Op.binOp BinOp.eql 3 (Operand.tmp 81) (Operand.const (Value.int IntKind.i64 2)) 3), (some (79, true))⟩,
  ⟨(some 83), (Op.pick (Operand.tmp 79) (Operand.tmp 82) (Operand.const (Value.bool false))), none⟩,
  ⟨(some 84), (Op.move (Operand.tmp 83)), none⟩,
  ⟨(some 85), (Op.fieldAddr 39 (Operand.tmp 3) 1), (some (84, true))⟩,
  ⟨(some 86), (Op.load 3 (Operand.tmp 85)), (some (84, true))⟩,
  ⟨(some 87), (Op.binOp BinOp.geq 3 (Operand.tmp 86) (Operand.const (Value.int IntKind.i64 3)) 3), (some (84, true))⟩,
  ⟨(some 88), (Op.pick (Operand.tmp 84) (Operand.tmp 87) (Operand.const (Value.bool false))), none⟩,
  ⟨(some 75), (Op.assign (Operand.tmp 88)), none⟩]
attribute [go_sem] r42_18
def k42_6 : PC := (.post (.reg r42_18) ⟨[2, 3, 4, 75], [.old 0, .old 1, .old 2]⟩)
def r42_21 : List PO := [⟨(some 95), (Op.fieldAddr 39 (Operand.tmp 3) 1), none⟩,
  ⟨(some 96), (Op.load 3 (Operand.tmp 95)), none⟩,
  ⟨(some 97), (Op.fieldAddr 23 (Operand.tmp 2) 1), none⟩,
  ⟨none, (Op.store 3 (Operand.tmp 97) (Operand.tmp 96)), none⟩]
attribute [go_sem] r42_21
def k42_7 : PC := (.cond (Operand.tmp 94) (.post (.reg r42_21) ⟨[2, 4], [.old 0, .old 2]⟩) (.post .skip ⟨[2, 4], [.old 0, .old 2]⟩))
def r42_25 : List PO := [⟨(some 108), (Op.fieldAddr 39 (Operand.tmp 3) 0), none⟩,
  ⟨(some 109), (Op.load 3 (Operand.tmp 108)), none⟩,
  ⟨(some 110), (Op.binOp BinOp.eql 3 (Operand.tmp 109) (Operand.const (Value.int IntKind.i64 7)) 3), none⟩,
  ⟨(some 111), (Op.move (Operand.tmp 110)), none⟩,
  ⟨(some 112), (Op.fieldAddr 23 (Operand.tmp 2) 0), (some (111, true))⟩,
  ⟨(some 113), (Op.load 3 (Operand.tmp 112)), (some (111, true))⟩,
  ⟨(some 114), (Op.binOp BinOp.geq 3 (Operand.tmp 113) (Operand.const (Value.int IntKind.i64 3)) 3), (some (111, true))⟩,
  ⟨(some 115), (Op.pick (Operand.tmp 111) (Operand.tmp 114) (Operand.const (Value.bool false))), none⟩,
  ⟨(some 107), (Op.assign (Operand.tmp 115)), none⟩]
attribute [go_sem] r42_25
def k42_8 : PC := (.post (.reg r42_25) ⟨[2, 3, 4, 107], [.old 0, .old 1, .old 2]⟩)
def r42_26 : List PO := [⟨(some 116), (Op.fieldAddr 39 (Operand.tmp 3) 0), none⟩,
  ⟨(some 117), (Op.load 3 (Operand.tmp 116)), none⟩,
  ⟨(some 118), (Op.binOp BinOp.eql 3 (Operand.tmp 117) (Operand.const (Value.int IntKind.i64 8)) 3), none⟩,
  ⟨(some 119), (Op.move (Operand.tmp 118)), none⟩,
  ⟨(some 120), (Op.fieldAddr 23 (Operand.tmp 2) 0), (some (119, true))⟩,
  ⟨(some 121), (Op.load 3 (Operand.tmp 120)), (some (119, true))⟩,
  ⟨(some 122), (Op.binOp BinOp.eql 3 (Operand.tmp 121) (Operand.const (Value.int IntKind.i64 4)) 3), (some (119, true))⟩,
  ⟨(some 123), (Op.pick (Operand.tmp 119) (Operand.tmp 122) (Operand.const (Value.bool false))), none⟩,
  ⟨(some 107), (Op.assign (Operand.tmp 123)), none⟩]
attribute [go_sem] r42_26
def k42_10 : PC := (.post (.reg r42_26) ⟨[2, 4, 107], [.old 0, .old 2]⟩)
def k42_9 : PC := (.cond (Operand.tmp 107) (.post .skip ⟨[2, 4, 107], [.old 0, .old 2]⟩) (.post (.pre ⟨[2, 3, 4], [.old 0, .old 1, .old 2]⟩ k42_10) ⟨[2, 4, 107], [.old 0, .old 1]⟩))
def r42_27 : List PO := [⟨(some 124), (Op.fieldAddr 23 (Operand.tmp 2) 0), none⟩,
  ⟨(some 125), (Op.load 3 (Operand.tmp 124)), none⟩,
  ⟨(some 126), (Op.binOp BinOp.eql 3 (Operand.tmp 125) (Operand.const (Value.int IntKind.i64 3)) 3), none⟩,
  ⟨(some 127), (Op.move (Operand.tmp 126)), none⟩,
  ⟨(some 128), (Op.fieldAddr 23 (Operand.tmp 2) 4), (some (127, true))⟩,
  ⟨(some 129), (Op.load 3 (Operand.tmp 128)), (some (127, true))⟩,
  ⟨(some 130), (Op.binOp BinOp.lss 3 (Operand.tmp 129) (Operand.const (Value.int IntKind.i64 1000)) 3), (some (127, true))⟩,
  ⟨(some 131), (Op.pick (Operand.tmp 127) (Operand.tmp 130) (Operand.const (Value.bool false))), none⟩]
attribute [go_sem] r42_27
def k42_11 : PC := (.post (.reg r42_27) ⟨[2, 4, 131], [.old 0, .old 1]⟩)
def r42_28 : List PO := [⟨(some 132), (Op.fieldAddr 23 (Operand.tmp 2) 4), none⟩,
  ⟨(some 133), (Op.load 3 (Operand.tmp 132)), none⟩,
  ⟨(some 134), (Op.binOp BinOp.add 3 (Operand.tmp 133) (Operand.const (Value.int IntKind.i64 1)) 3), none⟩,
  ⟨(some 135), (Op.fieldAddr 23 (Operand.tmp 2) 4), none⟩,
  ⟨none, (Op.store 3 (Operand.tmp 135) (Operand.tmp 134)), none⟩]
attribute [go_sem] r42_28
def k42_12 : PC := (.cond (Operand.tmp 131) (.post (.reg r42_28) ⟨[2, 4], [.old 0, .old 1]⟩) (.post .skip ⟨[2, 4], [.old 0, .old 1]⟩))
def r42_0 : List PO := [⟨(some 2), (Op.box 23 (Operand.tmp 0)), none⟩,
  ⟨(some 3), (Op.box 39 (Operand.tmp 1)), none⟩,
  ⟨(some 4), (Op.alloc 23), none⟩,
  ⟨(some 5), (Op.assign (Operand.const (Value.slice none 0 0))), none⟩]
attribute [go_sem] r42_0
def r42_1 : List PO := [⟨(some 7), (Op.fieldAddr 23 (Operand.tmp 2) 0), none⟩,
  ⟨(some 8), (Op.load 3 (Operand.tmp 7)), none⟩,
  ⟨(some 9), (Op.binOp BinOp.geq 3 (Operand.tmp 8) (Operand.const (Value.int IntKind.i64 2)) 3), none⟩,
  ⟨(some 6), (Op.assign (Operand.tmp 9)), none⟩]
attribute [go_sem] r42_1
def r42_2 : List PO := [⟨(some 11), (Op.fieldAddr 39 (Operand.tmp 3) 0), none⟩,
  ⟨(some 12), (Op.load 3 (Operand.tmp 11)), none⟩,
  ⟨(some 13), (Op.binOp BinOp.eql 3 (Operand.tmp 12) (Operand.const (Value.int IntKind.i64 10)) 3), none⟩,
  ⟨(some 10), (Op.assign (Operand.tmp 13)), none⟩]
attribute [go_sem] r42_2
def r42_3 : List PO := [⟨(some 14), (Op.load 23 (Operand.tmp 2)), none⟩,
  ⟨(some 15), (Op.call { callee := (Callee.value (Operand.func 49)), args := #[(Operand.tmp 14)], argTypes := #[23] }), none⟩,
  ⟨(some 16), (Op.extract (Operand.tmp 15) 0), none⟩,
  ⟨(some 17), (Op.extract (Operand.tmp 15) 1), none⟩,
  ⟨none, (Op.store 23 (Operand.tmp 4) (Operand.tmp 16)), none⟩,
  ⟨(some 5), (Op.assign (Operand.tmp 17)), none⟩]
attribute [go_sem] r42_3
def r42_5 : List PO := [⟨(some 27), (Op.load 23 (Operand.tmp 2)), none⟩,
  ⟨(some 28), (Op.call { callee := (Callee.value (Operand.func 60)), args := #[(Operand.tmp 27), (Operand.const (Value.int IntKind.i64 1))], argTypes := #[23, 3] }), none⟩,
  ⟨none, (Op.store 23 (Operand.tmp 4) (Operand.tmp 28)), none⟩,
  ⟨(some 5), (Op.assign (Operand.const (Value.slice none 0 0))), none⟩]
attribute [go_sem] r42_5
def r42_7 : List PO := [⟨(some 38), (Op.load 23 (Operand.tmp 2)), none⟩,
  ⟨(some 39), (Op.call { callee := (Callee.value (Operand.func 60)), args := #[(Operand.tmp 38), (Operand.const (Value.int IntKind.i64 2))], argTypes := #[23, 3] }), none⟩,
  ⟨none, (Op.store 23 (Operand.tmp 2) (Operand.tmp 39)), none⟩]
attribute [go_sem] r42_7
def r42_8 : List PO := [⟨(some 40), (Op.fieldAddr 23 (Operand.tmp 2) 2), none⟩,
  ⟨none, (Op.store 3 (Operand.tmp 40) (Operand.const (Value.int IntKind.i64 90))), none⟩]
attribute [go_sem] r42_8
def r42_9 : List PO := [⟨(some 41), (Op.load 23 (Operand.tmp 2)), none⟩,
  ⟨(some 42), (Op.buildSlice 36 1 #[(0, (Operand.const (Value.int IntKind.i64 1)))]), none⟩,
  ⟨none, (Op.store 23 (Operand.tmp 4) (Operand.tmp 41)), none⟩,
  ⟨(some 5), (Op.assign (Operand.tmp 42)), none⟩]
attribute [go_sem] r42_9
def r42_11 : List PO := [⟨(some 50), (Op.load 23 (Operand.tmp 2)), none⟩,
  ⟨(some 51), (Op.call { callee := (Callee.value (Operand.func 60)), args := #[(Operand.tmp 50), (Operand.const (Value.int IntKind.i64 1))], argTypes := #[23, 3] }), none⟩,
  ⟨none, (Op.store 23 (Operand.tmp 4) (Operand.tmp 51)), none⟩,
  ⟨(some 5), (Op.assign (Operand.const (Value.slice none 0 0))), none⟩]
attribute [go_sem] r42_11
def r42_13 : List PO := [⟨(some 59), (Op.load 23 (Operand.tmp 2)), none⟩,
  ⟨(some 60), (Op.call { callee := (Callee.value (Operand.func 60)), args := #[(Operand.tmp 59), (Operand.const (Value.int IntKind.i64 0))], argTypes := #[23, 3] }), none⟩,
  ⟨none, (Op.store 23 (Operand.tmp 4) (Operand.tmp 60)), none⟩,
  ⟨(some 5), (Op.assign (Operand.const (Value.slice none 0 0))), none⟩]
attribute [go_sem] r42_13
def r42_15 : List PO := [⟨(some 69), (Op.load 23 (Operand.tmp 2)), none⟩,
  ⟨(some 70), (Op.call { callee := (Callee.value (Operand.func 60)), args := #[(Operand.tmp 69), (Operand.const (Value.int IntKind.i64 0))], argTypes := #[23, 3] }), none⟩,
  ⟨none, (Op.store 23 (Operand.tmp 4) (Operand.tmp 70)), none⟩,
  ⟨(some 5), (Op.assign (Operand.const (Value.slice none 0 0))), none⟩]
attribute [go_sem] r42_15
def r42_16 : List PO := [⟨(some 72), (Op.move (Operand.tmp 6)), none⟩,
  ⟨(some 73), (Op.unOp UnOp.not 4 (Operand.tmp 72)), none⟩,
  ⟨(some 71), (Op.assign (Operand.tmp 73)), none⟩]
attribute [go_sem] r42_16
def r42_17 : List PO := [⟨(some 74), (Op.load 23 (Operand.tmp 2)), none⟩,
  ⟨none, (Op.store 23 (Operand.tmp 4) (Operand.tmp 74)), none⟩,
  ⟨(some 5), (Op.assign (Operand.const (Value.slice none 0 0))), none⟩]
attribute [go_sem] r42_17
def r42_19 : List PO := [⟨(some 89), (Op.fieldAddr 23 (Operand.tmp 2) 0), none⟩,
  ⟨none, (Op.store 3 (Operand.tmp 89) (Operand.const (Value.int IntKind.i64 3))), none⟩]
attribute [go_sem] r42_19
def r42_20 : List PO := [⟨(some 90), (Op.fieldAddr 39 (Operand.tmp 3) 1), none⟩,
  ⟨(some 91), (Op.load 3 (Operand.tmp 90)), none⟩,
  ⟨(some 92), (Op.fieldAddr 23 (Operand.tmp 2) 1), none⟩,
  ⟨(some 93), (Op.load 3 (Operand.tmp 92)), none⟩,
  ⟨(some 94), (Op.binOp BinOp.lss 3 (Operand.tmp 91) (Operand.tmp 93) 3), none⟩]
attribute [go_sem] r42_20
def r42_22 : List PO := [⟨(some 98), (Op.fieldAddr 23 (Operand.tmp 2) 1), none⟩,
  ⟨(some 99), (Op.load 3 (Operand.tmp 98)), none⟩,
  ⟨(some 100), (Op.fieldAddr 23 (Operand.tmp 2) 2), none⟩,
  ⟨none, (Op.store 3 (Operand.tmp 100) (Operand.tmp 99)), none⟩]
attribute [go_sem] r42_22
def r42_23 : List PO := [⟨(some 101), (Op.fieldAddr 23 (Operand.tmp 2) 1), none⟩,
  ⟨(some 102), (Op.load 3 (Operand.tmp 101)), none⟩,
  ⟨(some 103), (Op.binOp BinOp.quo 3 (Operand.tmp 102) (Operand.const (Value.int IntKind.i64 3)) 3), none⟩,
  ⟨(some 104), (Op.fieldAddr 23 (Operand.tmp 2) 3), none⟩,
  ⟨none, (Op.store 3 (Operand.tmp 104) (Operand.tmp 103)), none⟩]
attribute [go_sem] r42_23
def r42_24 : List PO := [⟨(some 105), (Op.load 23 (Operand.tmp 2)), none⟩,
  ⟨(some 106), (Op.buildSlice 36 1 #[(0, (Operand.const (Value.int IntKind.i64 4)))]), none⟩,
  ⟨none, (Op.store 23 (Operand.tmp 4) (Operand.tmp 105)), none⟩,
  ⟨(some 5), (Op.assign (Operand.tmp 106)), none⟩]
attribute [go_sem] r42_24
def r42_29 : List PO := [⟨(some 136), (Op.fieldAddr 23 (Operand.tmp 2) 0), none⟩,
  ⟨none, (Op.store 3 (Operand.tmp 136) (Operand.const (Value.int IntKind.i64 4))), none⟩]
attribute [go_sem] r42_29
def r42_30 : List PO := [⟨(some 137), (Op.fieldAddr 23 (Operand.tmp 2) 1), none⟩,
  ⟨(some 138), (Op.load 3 (Operand.tmp 137)), none⟩,
  ⟨(some 139), (Op.fieldAddr 23 (Operand.tmp 2) 2), none⟩,
  ⟨none, (Op.store 3 (Operand.tmp 139) (Operand.tmp 138)), none⟩]
attribute [go_sem] r42_30
def r42_31 : List PO := [⟨(some 140), (Op.load 23 (Operand.tmp 2)), none⟩,
  ⟨none, (Op.store 23 (Operand.tmp 4) (Operand.tmp 140)), none⟩,
  ⟨(some 5), (Op.assign (Operand.const (Value.slice none 0 0))), none⟩]
attribute [go_sem] r42_31
def r42_32 : List PO := [⟨(some 141), (Op.load 23 (Operand.tmp 2)), none⟩,
  ⟨(some 142), (Op.call { callee := (Callee.value (Operand.func 60)), args := #[(Operand.tmp 141), (Operand.const (Value.int IntKind.i64 0))], argTypes := #[23, 3] }), none⟩,
  ⟨(some 143), (Op.buildSlice 36 1 #[(0, (Operand.const (Value.int IntKind.i64 3)))]), none⟩,
  ⟨none, (Op.store 23 (Operand.tmp 4) (Operand.tmp 142)), none⟩,
  ⟨(some 5), (Op.assign (Operand.tmp 143)), none⟩]
attribute [go_sem] r42_32
def c42 : PC := (.seq (.reg r42_0) (.seq (.reg r42_1) (.seq (.block 0 (.seq (.reg r42_2) (.cond (Operand.tmp 10) (.seq (.reg r42_3) .ret) (.seq (.pre ⟨[2, 3, 4, 6], [.old 0, .old 1, .old 2]⟩ k42_1) (.cond (Operand.tmp 18) (.seq (.reg r42_5) .ret) (.seq (.pre ⟨[2, 3, 4, 6], [.old 0, .old 1, .old 2]⟩ k42_2) (.cond (Operand.tmp 29) (.seq (.reg r42_7) (.seq (.reg r42_8) (.seq (.reg r42_9) .ret))) (.seq (.pre ⟨[2, 3, 4, 6], [.old 0, .old 1, .old 2]⟩ k42_3) (.cond (Operand.tmp 43) (.seq (.reg r42_11) .ret) (.seq (.pre ⟨[2, 3, 4, 6], [.old 0, .old 1, .old 2]⟩ k42_4) (.cond (Operand.tmp 52) (.seq (.reg r42_13) .ret) (.seq (.pre ⟨[2, 3, 4, 6], [.old 0, .old 1, .old 2]⟩ k42_5) (.cond (Operand.tmp 61) (.seq (.reg r42_15) .ret) (.seq (.reg r42_16) (.cond (Operand.tmp 71) (.seq (.reg r42_17) .ret) (.seq (.pre ⟨[2, 3, 4], [.old 0, .old 1, .old 2]⟩ k42_6) (.cond (Operand.tmp 75) (.seq (.reg r42_19) (.seq (.seq (.reg r42_20) (.pre ⟨[2, 3, 4, 94], [.old 0, .old 1, .old 2]⟩ k42_7)) (.seq (.reg r42_22) (.seq (.reg r42_23) (.seq (.reg r42_24) .ret))))) (.seq (.seq (.pre ⟨[2, 3, 4], [.old 0, .old 1, .old 2]⟩ k42_8) (.pre ⟨[2, 3, 4, 107], [.old 0, .old 1, .old 2]⟩ k42_9)) (.cond (Operand.tmp 107) (.seq (.seq (.pre ⟨[2, 4], [.old 0, .old 1]⟩ k42_11) (.pre ⟨[2, 4, 131], [.old 0, .old 1]⟩ k42_12)) (.seq (.reg r42_29) (.seq (.reg r42_30) (.seq (.reg r42_31) .ret)))) .skip))))))))))))))))))) (.seq (.reg r42_32) .ret))))
def i42 : FnI := ⟨144, [(ResultVar.cell 4 23), (ResultVar.tmp 5)], c42, 0, [[0, 0, 0, 0, 0], [0, 0]], [[0, 0, 0, 0, 0], [1]], false, false, 0⟩
-- loop.example/g00344/spec.StepSession
def r19_1 : List PO := [⟨(some 9), (Op.load 23 (Operand.tmp 2)), none⟩,
  ⟨(some 10), (Op.call { callee := (Callee.value (Operand.func 14)), args := #[(Operand.tmp 9)], argTypes := #[23] }), none⟩,
  ⟨(some 11), (Op.unOp UnOp.not 4 (Operand.tmp 10)), none⟩,
  ⟨(some 12), (Op.move (Operand.tmp 11)), none⟩,
  ⟨(some 13), (Op.load 39 (Operand.tmp 3)), (some (12, false))⟩,
  ⟨(some 14), (Op.call { callee := (Callee.value (Operand.func 41)), args := #[(Operand.tmp 13)], argTypes := #[39] }), (some (12, false))⟩,
  ⟨(some 15), (Op.unOp UnOp.not 4 (Operand.tmp 14)), (some (12, false))⟩,
  ⟨(some 16), (Op.pick (Operand.tmp 12) (Operand.const (Value.bool true)) (Operand.tmp 15)), none⟩]
attribute [go_sem] r19_1
def k19_1 : PC := (.post (.reg r19_1) ⟨[2, 3, 4, 16], [.old 0, .old 1, .old 2]⟩)
def r19_0 : List PO := [⟨(some 2), (Op.box 23 (Operand.tmp 0)), none⟩,
  ⟨(some 3), (Op.box 39 (Operand.tmp 1)), none⟩,
  ⟨(some 4), (Op.alloc 23), none⟩,
  ⟨(some 5), (Op.assign (Operand.const (Value.slice none 0 0))), none⟩,
  ⟨(some 6), (Op.assign (Operand.const (Value.bool false))), none⟩]
attribute [go_sem] r19_0
def r19_2 : List PO := [⟨(some 17), (Op.build 23 #[]), none⟩,
  ⟨none, (Op.store 23 (Operand.tmp 4) (Operand.tmp 17)), none⟩,
  ⟨(some 5), (Op.assign (Operand.const (Value.slice none 0 0))), none⟩,
  ⟨(some 6), (Op.assign (Operand.const (Value.bool false))), none⟩]
attribute [go_sem] r19_2
def r19_3 : List PO := [⟨(some 19), (Op.load 23 (Operand.tmp 2)), none⟩,
  ⟨(some 20), (Op.load 39 (Operand.tmp 3)), none⟩,
  ⟨(some 21), (Op.call { callee := (Callee.value (Operand.func 42)), args := #[(Operand.tmp 19), (Operand.tmp 20)], argTypes := #[23, 39] }), none⟩,
  ⟨(some 18), (Op.move (Operand.tmp 21)), none⟩,
  ⟨(some 22), (Op.extract (Operand.tmp 18) 0), none⟩,
  ⟨(some 23), (Op.extract (Operand.tmp 18) 1), none⟩,
  ⟨(some 7), (Op.alloc 23), none⟩,
  ⟨none, (Op.store 23 (Operand.tmp 7) (Operand.tmp 22)), none⟩,
  ⟨(some 8), (Op.assign (Operand.tmp 23)), none⟩]
attribute [go_sem] r19_3
def r19_4 : List PO := [⟨(some 24), (Op.load 23 (Operand.tmp 7)), none⟩,
  ⟨(some 25), (Op.move (Operand.tmp 8)), none⟩,
  ⟨none, (Op.store 23 (Operand.tmp 4) (Operand.tmp 24)), none⟩,
  ⟨(some 5), (Op.assign (Operand.tmp 25)), none⟩,
  ⟨(some 6), (Op.assign (Operand.const (Value.bool true))), none⟩]
attribute [go_sem] r19_4
def c19 : PC := (.seq (.reg r19_0) (.seq (.seq (.pre ⟨[2, 3, 4], [.old 0, .old 1, .old 2]⟩ k19_1) (.cond (Operand.tmp 16) (.seq (.reg r19_2) .ret) .skip)) (.seq (.reg r19_3) (.seq (.reg r19_4) .ret))))
def i19 : FnI := ⟨26, [(ResultVar.cell 4 23), (ResultVar.tmp 5), (ResultVar.tmp 6)], c19, 0, [[0, 0, 0, 0, 0], [0, 0]], [[0, 0, 0, 0, 0], [1], [0]], false, false, 0⟩
-- loop.example/g00344/impl.within
def r40_1 : List PO := [⟨(some 7), (Op.move (Operand.tmp 0)), none⟩,
  ⟨(some 8), (Op.move (Operand.tmp 1)), none⟩,
  ⟨(some 9), (Op.binOp BinOp.geq 3 (Operand.tmp 7) (Operand.tmp 8) 3), none⟩,
  ⟨(some 10), (Op.move (Operand.tmp 9)), none⟩,
  ⟨(some 11), (Op.move (Operand.tmp 0)), (some (10, true))⟩,
  ⟨(some 12), (Op.move (Operand.tmp 2)), (some (10, true))⟩,
  ⟨(some 13), (Op.binOp BinOp.leq 3 (Operand.tmp 11) (Operand.tmp 12) 3), (some (10, true))⟩,
  ⟨(some 14), (Op.pick (Operand.tmp 10) (Operand.tmp 13) (Operand.const (Value.bool false))), none⟩,
  ⟨(some 6), (Op.assign (Operand.tmp 14)), none⟩]
attribute [go_sem] r40_1
def k40_1 : PC := (.post (.reg r40_1) ⟨[6], []⟩)
def r40_0 : List PO := [⟨(some 6), (Op.assign (Operand.const (Value.bool false))), none⟩]
attribute [go_sem] r40_0
def c40 : PC := (.seq (.reg r40_0) (.seq (.pre ⟨[0, 1, 2], []⟩ k40_1) .ret))
def i40 : FnI := ⟨15, [(ResultVar.tmp 6)], c40, 0, [[0], [0], [0]], [[0]], false, false, 0⟩
-- loop.example/g00344/impl.GoodSession
def r16_1 : List PO := [⟨(some 5), (Op.fieldAddr 23 (Operand.tmp 1) 0), none⟩,
  ⟨(some 6), (Op.load 3 (Operand.tmp 5)), none⟩,
  ⟨(some 7), (Op.call { callee := (Callee.value (Operand.func 40)), args := #[(Operand.tmp 6), (Operand.const (Value.int IntKind.i64 0)), (Operand.const (Value.int IntKind.i64 4))], argTypes := #[3, 3, 3] }), none⟩,
  ⟨(some 8), (Op.unOp UnOp.not 4 (Operand.tmp 7)), none⟩,
  ⟨(some 9), (Op.move (Operand.tmp 8)), none⟩,
  ⟨(some 10), (Op.fieldAddr 23 (Operand.tmp 1) 1), (some (9, false))⟩,
  ⟨(some 11), (Op.load 3 (Operand.tmp 10)), (some (9, false))⟩,
  ⟨(some 12), (Op.call { callee := (Callee.value (Operand.func 40)), args := #[(Operand.tmp 11), (Operand.const (Value.int IntKind.i64 3)), (Operand.const (Value.int IntKind.i64 90))], argTypes := #[3, 3, 3] }), (some (9, false))⟩,
  ⟨(some 13), (Op.unOp UnOp.not 4 (Operand.tmp 12)), (some (9, false))⟩,
  ⟨(some 14), (Op.pick (Operand.tmp 9) (Operand.const (Value.bool true)) (Operand.tmp 13)), none⟩,
  ⟨(some 15), (Op.move (Operand.tmp 14)), none⟩,
  ⟨(some 16), (Op.fieldAddr 23 (Operand.tmp 1) 4), (some (15, false))⟩,
  ⟨(some 17), (Op.load 3 (Operand.tmp 16)), (some (15, false))⟩,
  ⟨(some 18), (Op.call { callee := (Callee.value (Operand.func 40)), args := #[(Operand.tmp 17), (Operand.const (Value.int IntKind.i64 0)), (Operand.const (Value.int IntKind.i64 1000))], argTypes := #[3, 3, 3] }), (some (15, false))⟩,
  ⟨(some 19), (Op.unOp UnOp.not 4 (Operand.tmp 18)), (some (15, false))⟩,
  ⟨(some 20), (Op.pick (Operand.tmp 15) (Operand.const (Value.bool true)) (Operand.tmp 19)), none⟩]
attribute [go_sem] r16_1
def k16_1 : PC := (.post (.reg r16_1) ⟨[1, 20], [.old 0]⟩)
def r16_5 : List PO := [⟨(some 30), (Op.fieldAddr 23 (Operand.tmp 1) 2), none⟩,
  ⟨(some 31), (Op.load 3 (Operand.tmp 30)), none⟩,
  ⟨(some 32), (Op.call { callee := (Callee.value (Operand.func 40)), args := #[(Operand.tmp 31), (Operand.const (Value.int IntKind.i64 1)), (Operand.const (Value.int IntKind.i64 90))], argTypes := #[3, 3, 3] }), none⟩,
  ⟨(some 3), (Op.assign (Operand.tmp 32)), none⟩]
attribute [go_sem] r16_5
def k16_2 : PC := (.cond (Operand.tmp 29) (.post (.reg r16_5) ⟨[1, 3, 4], [.old 0]⟩) (.post .skip ⟨[1, 3, 4], [.old 0]⟩))
def r16_7 : List PO := [⟨(some 36), (Op.fieldAddr 23 (Operand.tmp 1) 3), none⟩,
  ⟨(some 37), (Op.load 3 (Operand.tmp 36)), none⟩,
  ⟨(some 38), (Op.call { callee := (Callee.value (Operand.func 40)), args := #[(Operand.tmp 37), (Operand.const (Value.int IntKind.i64 1)), (Operand.const (Value.int IntKind.i64 30))], argTypes := #[3, 3, 3] }), none⟩,
  ⟨(some 4), (Op.assign (Operand.tmp 38)), none⟩]
attribute [go_sem] r16_7
def k16_3 : PC := (.cond (Operand.tmp 35) (.post (.reg r16_7) ⟨[3, 4], []⟩) (.post .skip ⟨[3, 4], []⟩))
def r16_8 : List PO := [⟨(some 39), (Op.move (Operand.tmp 3)), none⟩,
  ⟨(some 40), (Op.move (Operand.tmp 39)), none⟩,
  ⟨(some 41), (Op.move (Operand.tmp 4)), (some (40, true))⟩,
  ⟨(some 42), (Op.pick (Operand.tmp 40) (Operand.tmp 41) (Operand.const (Value.bool false))), none⟩,
  ⟨(some 2), (Op.assign (Operand.tmp 42)), none⟩]
attribute [go_sem] r16_8
def k16_4 : PC := (.post (.reg r16_8) ⟨[2], []⟩)
def r16_0 : List PO := [⟨(some 1), (Op.box 23 (Operand.tmp 0)), none⟩,
  ⟨(some 2), (Op.assign (Operand.const (Value.bool false))), none⟩]
attribute [go_sem] r16_0
def r16_2 : List PO := [⟨(some 2), (Op.assign (Operand.const (Value.bool false))), none⟩]
attribute [go_sem] r16_2
def r16_3 : List PO := [⟨(some 21), (Op.fieldAddr 23 (Operand.tmp 1) 2), none⟩,
  ⟨(some 22), (Op.load 3 (Operand.tmp 21)), none⟩,
  ⟨(some 23), (Op.binOp BinOp.eql 3 (Operand.tmp 22) (Operand.const (Value.int IntKind.i64 0)) 3), none⟩,
  ⟨(some 24), (Op.fieldAddr 23 (Operand.tmp 1) 3), none⟩,
  ⟨(some 25), (Op.load 3 (Operand.tmp 24)), none⟩,
  ⟨(some 26), (Op.binOp BinOp.eql 3 (Operand.tmp 25) (Operand.const (Value.int IntKind.i64 0)) 3), none⟩,
  ⟨(some 3), (Op.assign (Operand.tmp 23)), none⟩,
  ⟨(some 4), (Op.assign (Operand.tmp 26)), none⟩]
attribute [go_sem] r16_3
def r16_4 : List PO := [⟨(some 27), (Op.fieldAddr 23 (Operand.tmp 1) 0), none⟩,
  ⟨(some 28), (Op.load 3 (Operand.tmp 27)), none⟩,
  ⟨(some 29), (Op.binOp BinOp.geq 3 (Operand.tmp 28) (Operand.const (Value.int IntKind.i64 2)) 3), none⟩]
attribute [go_sem] r16_4
def r16_6 : List PO := [⟨(some 33), (Op.fieldAddr 23 (Operand.tmp 1) 0), none⟩,
  ⟨(some 34), (Op.load 3 (Operand.tmp 33)), none⟩,
  ⟨(some 35), (Op.binOp BinOp.geq 3 (Operand.tmp 34) (Operand.const (Value.int IntKind.i64 3)) 3), none⟩]
attribute [go_sem] r16_6
def c16 : PC := (.seq (.reg r16_0) (.seq (.seq (.pre ⟨[1], [.old 0]⟩ k16_1) (.cond (Operand.tmp 20) (.seq (.reg r16_2) .ret) .skip)) (.seq (.fz r16_3) (.seq (.seq (.reg r16_4) (.pre ⟨[1, 3, 4, 29], [.old 0]⟩ k16_2)) (.seq (.seq (.reg r16_6) (.pre ⟨[1, 3, 4, 35], [.old 0]⟩ k16_3)) (.seq (.pre ⟨[3, 4], []⟩ k16_4) .ret))))))
def i16 : FnI := ⟨43, [(ResultVar.tmp 2)], c16, 0, [[0, 0, 0, 0, 0]], [[0]], false, false, 0⟩
-- loop.example/g00344/impl.isEvent
def r43_1 : List PO := [⟨(some 3), (Op.fieldAddr 39 (Operand.tmp 1) 0), none⟩,
  ⟨(some 4), (Op.load 3 (Operand.tmp 3)), none⟩,
  ⟨(some 5), (Op.call { callee := (Callee.value (Operand.func 40)), args := #[(Operand.tmp 4), (Operand.const (Value.int IntKind.i64 1)), (Operand.const (Value.int IntKind.i64 10))], argTypes := #[3, 3, 3] }), none⟩,
  ⟨(some 6), (Op.move (Operand.tmp 5)), none⟩,
  ⟨(some 7), (Op.fieldAddr 39 (Operand.tmp 1) 1), (some (6, true))⟩,
  ⟨(some 8), (Op.load 3 (Operand.tmp 7)), (some (6, true))⟩,
  ⟨(some 9), (Op.binOp BinOp.eql 3 (Operand.tmp 8) (Operand.const (Value.int IntKind.i64 0)) 3), (some (6, true))⟩,
  ⟨(some 10), (Op.move (Operand.tmp 9)), (some (6, true))⟩,
  ⟨(some 11), (Op.fieldAddr 39 (Operand.tmp 1) 0), (some (10, false))⟩,
  ⟨(some 12), (Op.load 3 (Operand.tmp 11)), (some (10, false))⟩,
  ⟨(some 13), (Op.binOp BinOp.eql 3 (Operand.tmp 12) (Operand.const (Value.int IntKind.i64 5)) 3), (some (10, false))⟩,
  ⟨(some 14), (Op.move (Operand.tmp 13)), (some (10, false))⟩,
  ⟨(some 15), (Op.fieldAddr 39 (Operand.tmp 1) 1), (some (14, true))⟩,
  ⟨(some 16), (Op.load 3 (Operand.tmp 15)), (some (14, true))⟩,
  ⟨(some 17), (Op.call { callee := (Callee.value (Operand.func 40)), args := #[(Operand.tmp 16), (Operand.const (Value.int IntKind.i64 0)), (Operand.const (Value.int IntKind.i64 100))], argTypes := #[3, 3, 3] }), (some (14, true))⟩,
  ⟨(some 18), (Op.pick (Operand.tmp 14) (Operand.tmp 17) (Operand.const (Value.bool false))), (some (10, false))⟩,
  ⟨(some 19), (Op.pick (Operand.tmp 10) (Operand.const (Value.bool true)) (Operand.tmp 18)), (some (6, true))⟩,
  ⟨(some 20), (Op.pick (Operand.tmp 6) (Operand.tmp 19) (Operand.const (Value.bool false))), none⟩,
  ⟨(some 2), (Op.assign (Operand.tmp 20)), none⟩]
attribute [go_sem] r43_1
def k43_1 : PC := (.post (.reg r43_1) ⟨[2], []⟩)
def r43_0 : List PO := [⟨(some 1), (Op.box 39 (Operand.tmp 0)), none⟩,
  ⟨(some 2), (Op.assign (Operand.const (Value.bool false))), none⟩]
attribute [go_sem] r43_0
def c43 : PC := (.seq (.reg r43_0) (.seq (.pre ⟨[1], [.old 0]⟩ k43_1) .ret))
def i43 : FnI := ⟨21, [(ResultVar.tmp 2)], c43, 0, [[0, 0]], [[0]], false, false, 0⟩
-- (loop.example/g00344/impl.Session).to
def r61_0 : List PO := [⟨(some 2), (Op.box 23 (Operand.tmp 0)), none⟩,
  ⟨(some 4), (Op.alloc 23), none⟩]
attribute [go_sem] r61_0
def r61_1 : List PO := [⟨(some 5), (Op.move (Operand.tmp 1)), none⟩,
  ⟨(some 6), (Op.fieldAddr 23 (Operand.tmp 2) 1), none⟩,
  ⟨(some 7), (Op.load 3 (Operand.tmp 6)), none⟩,
  ⟨(some 8), (Op.fieldAddr 23 (Operand.tmp 2) 4), none⟩,
  ⟨(some 9), (Op.load 3 (Operand.tmp 8)), none⟩,
  ⟨(some 10), (Op.build 23 #[(0, (Operand.tmp 5)), (1, (Operand.tmp 7)), (4, (Operand.tmp 9))]), none⟩,
  ⟨none, (Op.store 23 (Operand.tmp 4) (Operand.tmp 10)), none⟩]
attribute [go_sem] r61_1
def c61 : PC := (.seq (.reg r61_0) (.seq (.reg r61_1) .ret))
def i61 : FnI := ⟨11, [(ResultVar.cell 4 23)], c61, 0, [[0, 0, 0, 0, 0], [0]], [[0, 0, 0, 0, 0]], false, false, 0⟩
-- (loop.example/g00344/impl.Session).tick
def r62_0 : List PO := [⟨(some 1), (Op.box 23 (Operand.tmp 0)), none⟩,
  ⟨(some 2), (Op.alloc 23), none⟩,
  ⟨(some 3), (Op.assign (Operand.const (Value.slice none 0 0))), none⟩]
attribute [go_sem] r62_0
def r62_1 : List PO := [⟨(some 4), (Op.fieldAddr 23 (Operand.tmp 1) 2), none⟩,
  ⟨(some 5), (Op.load 3 (Operand.tmp 4)), none⟩,
  ⟨(some 6), (Op.binOp BinOp.sub 3 (Operand.tmp 5) (Operand.const (Value.int IntKind.i64 1)) 3), none⟩,
  ⟨(some 7), (Op.fieldAddr 23 (Operand.tmp 1) 2), none⟩,
  ⟨none, (Op.store 3 (Operand.tmp 7) (Operand.tmp 6)), none⟩]
attribute [go_sem] r62_1
def r62_2 : List PO := [⟨(some 8), (Op.fieldAddr 23 (Operand.tmp 1) 2), none⟩,
  ⟨(some 9), (Op.load 3 (Operand.tmp 8)), none⟩,
  ⟨(some 10), (Op.binOp BinOp.eql 3 (Operand.tmp 9) (Operand.const (Value.int IntKind.i64 0)) 3), none⟩]
attribute [go_sem] r62_2
def r62_3 : List PO := [⟨(some 11), (Op.load 23 (Operand.tmp 1)), none⟩,
  ⟨(some 12), (Op.call { callee := (Callee.value (Operand.func 61)), args := #[(Operand.tmp 11), (Operand.const (Value.int IntKind.i64 0))], argTypes := #[23, 3] }), none⟩,
  ⟨(some 13), (Op.buildSlice 36 1 #[(0, (Operand.const (Value.int IntKind.i64 3)))]), none⟩,
  ⟨none, (Op.store 23 (Operand.tmp 2) (Operand.tmp 12)), none⟩,
  ⟨(some 3), (Op.assign (Operand.tmp 13)), none⟩]
attribute [go_sem] r62_3
def r62_4 : List PO := [⟨(some 14), (Op.fieldAddr 23 (Operand.tmp 1) 0), none⟩,
  ⟨(some 15), (Op.load 3 (Operand.tmp 14)), none⟩,
  ⟨(some 16), (Op.binOp BinOp.eql 3 (Operand.tmp 15) (Operand.const (Value.int IntKind.i64 2)) 3), none⟩]
attribute [go_sem] r62_4
def r62_5 : List PO := [⟨(some 17), (Op.load 23 (Operand.tmp 1)), none⟩,
  ⟨none, (Op.store 23 (Operand.tmp 2) (Operand.tmp 17)), none⟩,
  ⟨(some 3), (Op.assign (Operand.const (Value.slice none 0 0))), none⟩]
attribute [go_sem] r62_5
def r62_6 : List PO := [⟨(some 18), (Op.fieldAddr 23 (Operand.tmp 1) 3), none⟩,
  ⟨(some 19), (Op.load 3 (Operand.tmp 18)), none⟩,
  ⟨(some 20), (Op.binOp BinOp.sub 3 (Operand.tmp 19) (Operand.const (Value.int IntKind.i64 1)) 3), none⟩,
  ⟨(some 21), (Op.fieldAddr 23 (Operand.tmp 1) 3), none⟩,
  ⟨none, (Op.store 3 (Operand.tmp 21) (Operand.tmp 20)), none⟩]
attribute [go_sem] r62_6
def r62_7 : List PO := [⟨(some 22), (Op.fieldAddr 23 (Operand.tmp 1) 3), none⟩,
  ⟨(some 23), (Op.load 3 (Operand.tmp 22)), none⟩,
  ⟨(some 24), (Op.binOp BinOp.eql 3 (Operand.tmp 23) (Operand.const (Value.int IntKind.i64 0)) 3), none⟩]
attribute [go_sem] r62_7
def r62_8 : List PO := [⟨(some 25), (Op.fieldAddr 23 (Operand.tmp 1) 1), none⟩,
  ⟨(some 26), (Op.load 3 (Operand.tmp 25)), none⟩,
  ⟨(some 27), (Op.binOp BinOp.quo 3 (Operand.tmp 26) (Operand.const (Value.int IntKind.i64 3)) 3), none⟩,
  ⟨(some 28), (Op.fieldAddr 23 (Operand.tmp 1) 3), none⟩,
  ⟨none, (Op.store 3 (Operand.tmp 28) (Operand.tmp 27)), none⟩]
attribute [go_sem] r62_8
def r62_9 : List PO := [⟨(some 29), (Op.load 23 (Operand.tmp 1)), none⟩,
  ⟨(some 30), (Op.buildSlice 36 1 #[(0, (Operand.const (Value.int IntKind.i64 4)))]), none⟩,
  ⟨none, (Op.store 23 (Operand.tmp 2) (Operand.tmp 29)), none⟩,
  ⟨(some 3), (Op.assign (Operand.tmp 30)), none⟩]
attribute [go_sem] r62_9
def r62_10 : List PO := [⟨(some 31), (Op.load 23 (Operand.tmp 1)), none⟩,
  ⟨none, (Op.store 23 (Operand.tmp 2) (Operand.tmp 31)), none⟩,
  ⟨(some 3), (Op.assign (Operand.const (Value.slice none 0 0))), none⟩]
attribute [go_sem] r62_10
def c62 : PC := (.seq (.reg r62_0) (.seq (.seq (.reg r62_1) (.seq (.reg r62_2) (.cond (Operand.tmp 10) (.seq (.reg r62_3) .ret) .skip))) (.seq (.seq (.reg r62_4) (.cond (Operand.tmp 16) (.seq (.reg r62_5) .ret) .skip)) (.seq (.seq (.reg r62_6) (.seq (.reg r62_7) (.cond (Operand.tmp 24) (.seq (.reg r62_8) (.seq (.reg r62_9) .ret)) .skip))) (.seq (.reg r62_10) .ret)))))
def i62 : FnI := ⟨32, [(ResultVar.cell 2 23), (ResultVar.tmp 3)], c62, 0, [[0, 0, 0, 0, 0]], [[0, 0, 0, 0, 0], [1]], false, false, 0⟩
-- (loop.example/g00344/impl.Session).step
def r44_2 : List PO := [⟨(some 13), (Op.fieldAddr 39 (Operand.tmp 3) 0), none⟩,
  ⟨(some 14), (Op.load 3 (Operand.tmp 13)), none⟩,
  ⟨(some 15), (Op.binOp BinOp.eql 3 (Operand.tmp 14) (Operand.const (Value.int IntKind.i64 1)) 3), none⟩,
  ⟨(some 16), (Op.move (Operand.tmp 15)), none⟩,
  ⟨(some 17), (Op.fieldAddr 23 (Operand.tmp 2) 0), (some (16, true))⟩,
  ⟨(some 18), (Op.load 3 (Operand.tmp 17)), (some (16, true))⟩,
  ⟨(some 19), (Op.binOp BinOp.eql 3 (Operand.tmp 18) (Operand.const (Value.int IntKind.i64 0)) 3), (some (16, true))⟩,
  ⟨(some 20), (Op.pick (Operand.tmp 16) (Operand.tmp 19) (Operand.const (Value.bool false))), none⟩,
  ⟨(some 12), (Op.assign (Operand.tmp 20)), none⟩]
attribute [go_sem] r44_2
def k44_1 : PC := (.post (.reg r44_2) ⟨[2, 3, 4, 6, 12], [.old 0, .old 1, .old 2]⟩)
def r44_4 : List PO := [⟨(some 24), (Op.fieldAddr 39 (Operand.tmp 3) 0), none⟩,
  ⟨(some 25), (Op.load 3 (Operand.tmp 24)), none⟩,
  ⟨(some 26), (Op.binOp BinOp.eql 3 (Operand.tmp 25) (Operand.const (Value.int IntKind.i64 2)) 3), none⟩,
  ⟨(some 27), (Op.move (Operand.tmp 26)), none⟩,
  ⟨(some 28), (Op.move (Operand.tmp 6)), (some (27, true))⟩,
  ⟨(some 29), (Op.unOp UnOp.not 4 (Operand.tmp 28)), (some (27, true))⟩,
  ⟨(some 30), (Op.pick (Operand.tmp 27) (Operand.tmp 29) (Operand.const (Value.bool false))), none⟩,
  ⟨(some 23), (Op.assign (Operand.tmp 30)), none⟩]
attribute [go_sem] r44_4
def k44_2 : PC := (.post (.reg r44_4) ⟨[2, 3, 4, 6, 23], [.old 0, .old 1, .old 2]⟩)
def r44_6 : List PO := [⟨(some 34), (Op.fieldAddr 39 (Operand.tmp 3) 0), none⟩,
  ⟨(some 35), (Op.load 3 (Operand.tmp 34)), none⟩,
  ⟨(some 36), (Op.binOp BinOp.eql 3 (Operand.tmp 35) (Operand.const (Value.int IntKind.i64 3)) 3), none⟩,
  ⟨(some 37), (Op.move (Operand.tmp 36)), none⟩,
  ⟨(some 38), (Op.fieldAddr 23 (Operand.tmp 2) 0), (some (37, true))⟩,
  ⟨(some 39), (Op.load 3 (Operand.tmp 38)), (some (37, true))⟩,
  ⟨(some 40), (Op.binOp BinOp.eql 3 (Operand.tmp 39) (Operand.const (Value.int IntKind.i64 1)) 3), (some (37, true))⟩,
  ⟨(some 41), (Op.pick (Operand.tmp 37) (Operand.tmp 40) (Operand.const (Value.bool false))), none⟩,
  ⟨(some 33), (Op.assign (Operand.tmp 41)), none⟩]
attribute [go_sem] r44_6
def k44_3 : PC := (.post (.reg r44_6) ⟨[2, 3, 4, 6, 33], [.old 0, .old 1, .old 2]⟩)
def r44_14 : List PO := [⟨(some 58), (Op.fieldAddr 39 (Operand.tmp 3) 0), none⟩,
  ⟨(some 59), (Op.load 3 (Operand.tmp 58)), none⟩,
  ⟨(some 60), (Op.binOp BinOp.eql 3 (Operand.tmp 59) (Operand.const (Value.int IntKind.i64 5)) 3), none⟩,
  ⟨(some 61), (Op.move (Operand.tmp 60)), none⟩,
  ⟨(some 62), (Op.fieldAddr 23 (Operand.tmp 2) 0), (some (61, true))⟩,
  ⟨(some 63), (Op.load 3 (Operand.tmp 62)), (some (61, true))⟩,
  ⟨(some 64), (Op.binOp BinOp.eql 3 (Operand.tmp 63) (Operand.const (Value.int IntKind.i64 2)) 3), (some (61, true))⟩,
  ⟨(some 65), (Op.pick (Operand.tmp 61) (Operand.tmp 64) (Operand.const (Value.bool false))), none⟩,
  ⟨(some 66), (Op.move (Operand.tmp 65)), none⟩,
  ⟨(some 67), (Op.fieldAddr 39 (Operand.tmp 3) 1), (some (66, true))⟩,
  ⟨(some 68), (Op.load 3 (Operand.tmp 67)), (some (66, true))⟩,
  ⟨(some 69), (Op.binOp BinOp.gtr 3 (Operand.tmp 68) (Operand.const (Value.int IntKind.i64 2)) 3), (some (66, true))⟩,
  ⟨(some 70), (Op.pick (Operand.tmp 66) (Operand.tmp 69) (Operand.const (Value.bool false))), none⟩,
  ⟨(some 57), (Op.assign (Operand.tmp 70)), none⟩]
attribute [go_sem] r44_14
def k44_4 : PC := (.post (.reg r44_14) ⟨[2, 3, 4, 57], [.old 0, .old 1, .old 2]⟩)
def r44_19 : List PO := [⟨(some 89), (Op.fieldAddr 39 (Operand.tmp 3) 0), none⟩,
  ⟨(some 90), (Op.load 3 (Operand.tmp 89)), none⟩,
  ⟨(some 91), (Op.binOp BinOp.eql 3 (Operand.tmp 90) (Operand.const (Value.int IntKind.i64 7)) 3), none⟩,
  ⟨(some 92), (Op.move (Operand.tmp 91)), none⟩,
  ⟨(some 93), (Op.fieldAddr 23 (Operand.tmp 2) 0), (some (92, true))⟩,
  ⟨(some 94), (Op.load 3 (Operand.tmp 93)), (some (92, true))⟩,
  ⟨(some 95), (Op.binOp BinOp.eql 3 (Operand.tmp 94) (Operand.const (Value.int IntKind.i64 3)) 3), (some (92, true))⟩,
  ⟨(some 96), (Op.pick (Operand.tmp 92) (Operand.tmp 95) (Operand.const (Value.bool false))), none⟩,
  ⟨(some 88), (Op.assign (Operand.tmp 96)), none⟩]
attribute [go_sem] r44_19
def k44_5 : PC := (.post (.reg r44_19) ⟨[2, 3, 4, 88], [.old 0, .old 1, .old 2]⟩)
def r44_22 : List PO := [⟨(some 108), (Op.fieldAddr 39 (Operand.tmp 3) 0), none⟩,
  ⟨(some 109), (Op.load 3 (Operand.tmp 108)), none⟩,
  ⟨(some 110), (Op.binOp BinOp.eql 3 (Operand.tmp 109) (Operand.const (Value.int IntKind.i64 7)) 3), none⟩,
  ⟨(some 111), (Op.move (Operand.tmp 110)), none⟩,
  ⟨(some 112), (Op.fieldAddr 39 (Operand.tmp 3) 0), (some (111, false))⟩,
  ⟨(some 113), (Op.load 3 (Operand.tmp 112)), (some (111, false))⟩,
  ⟨(some 114), (Op.binOp BinOp.eql 3 (Operand.tmp 113) (Operand.const (Value.int IntKind.i64 8)) 3), (some (111, false))⟩,
  ⟨(some 115), (Op.pick (Operand.tmp 111) (Operand.const (Value.bool true)) (Operand.tmp 114)), none⟩,
  ⟨(some 116), (Op.move (Operand.tmp 115)), none⟩,
  ⟨(some 117), (Op.fieldAddr 23 (Operand.tmp 2) 0), (some (116, true))⟩,
  ⟨(some 118), (Op.load 3 (Operand.tmp 117)), (some (116, true))⟩,
  ⟨(some 119), (Op.binOp BinOp.eql 3 (Operand.tmp 118) (Operand.const (Value.int IntKind.i64 4)) 3), (some (116, true))⟩,
  ⟨(some 120), (Op.pick (Operand.tmp 116) (Operand.tmp 119) (Operand.const (Value.bool false))), none⟩,
  ⟨(some 107), (Op.assign (Operand.tmp 120)), none⟩]
attribute [go_sem] r44_22
def k44_6 : PC := (.post (.reg r44_22) ⟨[2, 3, 4, 107], [.old 0, .old 1, .old 2]⟩)
def r44_0 : List PO := [⟨(some 2), (Op.box 23 (Operand.tmp 0)), none⟩,
  ⟨(some 3), (Op.box 39 (Operand.tmp 1)), none⟩,
  ⟨(some 4), (Op.alloc 23), none⟩,
  ⟨(some 5), (Op.assign (Operand.const (Value.slice none 0 0))), none⟩]
attribute [go_sem] r44_0
def r44_1 : List PO := [⟨(some 9), (Op.fieldAddr 23 (Operand.tmp 2) 0), none⟩,
  ⟨(some 10), (Op.load 3 (Operand.tmp 9)), none⟩,
  ⟨(some 11), (Op.binOp BinOp.geq 3 (Operand.tmp 10) (Operand.const (Value.int IntKind.i64 2)) 3), none⟩,
  ⟨(some 6), (Op.assign (Operand.tmp 11)), none⟩]
attribute [go_sem] r44_1
def r44_3 : List PO := [⟨(some 21), (Op.load 23 (Operand.tmp 2)), none⟩,
  ⟨(some 22), (Op.call { callee := (Callee.value (Operand.func 61)), args := #[(Operand.tmp 21), (Operand.const (Value.int IntKind.i64 1))], argTypes := #[23, 3] }), none⟩,
  ⟨none, (Op.store 23 (Operand.tmp 4) (Operand.tmp 22)), none⟩,
  ⟨(some 5), (Op.assign (Operand.const (Value.slice none 0 0))), none⟩]
attribute [go_sem] r44_3
def r44_5 : List PO := [⟨(some 31), (Op.load 23 (Operand.tmp 2)), none⟩,
  ⟨(some 32), (Op.call { callee := (Callee.value (Operand.func 61)), args := #[(Operand.tmp 31), (Operand.const (Value.int IntKind.i64 0))], argTypes := #[23, 3] }), none⟩,
  ⟨none, (Op.store 23 (Operand.tmp 4) (Operand.tmp 32)), none⟩,
  ⟨(some 5), (Op.assign (Operand.const (Value.slice none 0 0))), none⟩]
attribute [go_sem] r44_5
def r44_7 : List PO := [⟨(some 42), (Op.load 23 (Operand.tmp 2)), none⟩,
  ⟨(some 43), (Op.call { callee := (Callee.value (Operand.func 61)), args := #[(Operand.tmp 42), (Operand.const (Value.int IntKind.i64 2))], argTypes := #[23, 3] }), none⟩,
  ⟨(some 7), (Op.alloc 23), none⟩,
  ⟨none, (Op.store 23 (Operand.tmp 7) (Operand.tmp 43)), none⟩]
attribute [go_sem] r44_7
def r44_8 : List PO := [⟨(some 44), (Op.fieldAddr 23 (Operand.tmp 7) 2), none⟩,
  ⟨none, (Op.store 3 (Operand.tmp 44) (Operand.const (Value.int IntKind.i64 90))), none⟩]
attribute [go_sem] r44_8
def r44_9 : List PO := [⟨(some 45), (Op.load 23 (Operand.tmp 7)), none⟩,
  ⟨(some 46), (Op.buildSlice 36 1 #[(0, (Operand.const (Value.int IntKind.i64 1)))]), none⟩,
  ⟨none, (Op.store 23 (Operand.tmp 4) (Operand.tmp 45)), none⟩,
  ⟨(some 5), (Op.assign (Operand.tmp 46)), none⟩]
attribute [go_sem] r44_9
def r44_10 : List PO := [⟨(some 48), (Op.move (Operand.tmp 6)), none⟩,
  ⟨(some 49), (Op.unOp UnOp.not 4 (Operand.tmp 48)), none⟩,
  ⟨(some 47), (Op.assign (Operand.tmp 49)), none⟩]
attribute [go_sem] r44_10
def r44_11 : List PO := [⟨(some 50), (Op.load 23 (Operand.tmp 2)), none⟩,
  ⟨none, (Op.store 23 (Operand.tmp 4) (Operand.tmp 50)), none⟩,
  ⟨(some 5), (Op.assign (Operand.const (Value.slice none 0 0))), none⟩]
attribute [go_sem] r44_11
def r44_12 : List PO := [⟨(some 52), (Op.fieldAddr 39 (Operand.tmp 3) 0), none⟩,
  ⟨(some 53), (Op.load 3 (Operand.tmp 52)), none⟩,
  ⟨(some 54), (Op.binOp BinOp.eql 3 (Operand.tmp 53) (Operand.const (Value.int IntKind.i64 4)) 3), none⟩,
  ⟨(some 51), (Op.assign (Operand.tmp 54)), none⟩]
attribute [go_sem] r44_12
def r44_13 : List PO := [⟨(some 55), (Op.load 23 (Operand.tmp 2)), none⟩,
  ⟨(some 56), (Op.call { callee := (Callee.value (Operand.func 61)), args := #[(Operand.tmp 55), (Operand.const (Value.int IntKind.i64 1))], argTypes := #[23, 3] }), none⟩,
  ⟨none, (Op.store 23 (Operand.tmp 4) (Operand.tmp 56)), none⟩,
  ⟨(some 5), (Op.assign (Operand.const (Value.slice none 0 0))), none⟩]
attribute [go_sem] r44_13
def r44_15 : List PO := [⟨(some 71), (Op.load 23 (Operand.tmp 2)), none⟩,
  ⟨(some 72), (Op.call { callee := (Callee.value (Operand.func 61)), args := #[(Operand.tmp 71), (Operand.const (Value.int IntKind.i64 3))], argTypes := #[23, 3] }), none⟩,
  ⟨(some 8), (Op.alloc 23), none⟩,
  ⟨none, (Op.store 23 (Operand.tmp 8) (Operand.tmp 72)), none⟩]
attribute [go_sem] r44_15
def r44_16 : List PO := [⟨(some 73), (Op.fieldAddr 23 (Operand.tmp 2) 1), none⟩,
  ⟨(some 74), (Op.load 3 (Operand.tmp 73)), none⟩,
  ⟨(some 75), (Op.fieldAddr 39 (Operand.tmp 3) 1), none⟩,
  ⟨(some 76), (Op.load 3 (Operand.tmp 75)), none⟩,
  ⟨(some 77), (Op.call { callee := (Callee.builtin Builtin.min), args := #[(Operand.tmp 74), (Operand.tmp 76)], argTypes := #[3, 3] }), none⟩,
  ⟨(some 78), (Op.fieldAddr 23 (Operand.tmp 8) 1), none⟩,
  ⟨none, (Op.store 3 (Operand.tmp 78) (Operand.tmp 77)), none⟩]
attribute [go_sem] r44_16
def r44_17 : List PO := [⟨(some 79), (Op.fieldAddr 23 (Operand.tmp 8) 1), none⟩,
  ⟨(some 80), (Op.load 3 (Operand.tmp 79)), none⟩,
  ⟨(some 81), (Op.fieldAddr 23 (Operand.tmp 8) 1), none⟩,
  ⟨(some 82), (Op.load 3 (Operand.tmp 81)), none⟩,
  ⟨(some 83), (Op.binOp BinOp.quo 3 (Operand.tmp 82) (Operand.const (Value.int IntKind.i64 3)) 3), none⟩,
  ⟨(some 84), (Op.fieldAddr 23 (Operand.tmp 8) 2), none⟩,
  ⟨none, (Op.store 3 (Operand.tmp 84) (Operand.tmp 80)), none⟩,
  ⟨(some 85), (Op.fieldAddr 23 (Operand.tmp 8) 3), none⟩,
  ⟨none, (Op.store 3 (Operand.tmp 85) (Operand.tmp 83)), none⟩]
attribute [go_sem] r44_17
def r44_18 : List PO := [⟨(some 86), (Op.load 23 (Operand.tmp 8)), none⟩,
  ⟨(some 87), (Op.buildSlice 36 1 #[(0, (Operand.const (Value.int IntKind.i64 4)))]), none⟩,
  ⟨none, (Op.store 23 (Operand.tmp 4) (Operand.tmp 86)), none⟩,
  ⟨(some 5), (Op.assign (Operand.tmp 87)), none⟩]
attribute [go_sem] r44_18
def r44_20 : List PO := [⟨(some 97), (Op.fieldAddr 23 (Operand.tmp 2) 1), none⟩,
  ⟨(some 98), (Op.load 3 (Operand.tmp 97)), none⟩,
  ⟨(some 99), (Op.fieldAddr 23 (Operand.tmp 2) 4), none⟩,
  ⟨(some 100), (Op.load 3 (Operand.tmp 99)), none⟩,
  ⟨(some 101), (Op.binOp BinOp.add 3 (Operand.tmp 100) (Operand.const (Value.int IntKind.i64 1)) 3), none⟩,
  ⟨(some 102), (Op.call { callee := (Callee.builtin Builtin.min), args := #[(Operand.const (Value.int IntKind.i64 1000)), (Operand.tmp 101)], argTypes := #[3, 3] }), none⟩,
  ⟨(some 103), (Op.fieldAddr 23 (Operand.tmp 2) 0), none⟩,
  ⟨none, (Op.store 3 (Operand.tmp 103) (Operand.const (Value.int IntKind.i64 4))), none⟩,
  ⟨(some 104), (Op.fieldAddr 23 (Operand.tmp 2) 2), none⟩,
  ⟨none, (Op.store 3 (Operand.tmp 104) (Operand.tmp 98)), none⟩,
  ⟨(some 105), (Op.fieldAddr 23 (Operand.tmp 2) 4), none⟩,
  ⟨none, (Op.store 3 (Operand.tmp 105) (Operand.tmp 102)), none⟩]
attribute [go_sem] r44_20
def r44_21 : List PO := [⟨(some 106), (Op.load 23 (Operand.tmp 2)), none⟩,
  ⟨none, (Op.store 23 (Operand.tmp 4) (Operand.tmp 106)), none⟩,
  ⟨(some 5), (Op.assign (Operand.const (Value.slice none 0 0))), none⟩]
attribute [go_sem] r44_21
def r44_23 : List PO := [⟨(some 121), (Op.fieldAddr 23 (Operand.tmp 2) 1), none⟩,
  ⟨(some 122), (Op.load 3 (Operand.tmp 121)), none⟩,
  ⟨(some 123), (Op.fieldAddr 23 (Operand.tmp 2) 2), none⟩,
  ⟨none, (Op.store 3 (Operand.tmp 123) (Operand.tmp 122)), none⟩]
attribute [go_sem] r44_23
def r44_24 : List PO := [⟨(some 124), (Op.load 23 (Operand.tmp 2)), none⟩,
  ⟨none, (Op.store 23 (Operand.tmp 4) (Operand.tmp 124)), none⟩,
  ⟨(some 5), (Op.assign (Operand.const (Value.slice none 0 0))), none⟩]
attribute [go_sem] r44_24
def r44_25 : List PO := [⟨(some 126), (Op.fieldAddr 39 (Operand.tmp 3) 0), none⟩,
  ⟨(some 127), (Op.load 3 (Operand.tmp 126)), none⟩,
  ⟨(some 128), (Op.binOp BinOp.eql 3 (Operand.tmp 127) (Operand.const (Value.int IntKind.i64 9)) 3), none⟩,
  ⟨(some 125), (Op.assign (Operand.tmp 128)), none⟩]
attribute [go_sem] r44_25
def r44_26 : List PO := [⟨(some 129), (Op.load 23 (Operand.tmp 2)), none⟩,
  ⟨(some 130), (Op.call { callee := (Callee.value (Operand.func 61)), args := #[(Operand.tmp 129), (Operand.const (Value.int IntKind.i64 0))], argTypes := #[23, 3] }), none⟩,
  ⟨none, (Op.store 23 (Operand.tmp 4) (Operand.tmp 130)), none⟩,
  ⟨(some 5), (Op.assign (Operand.const (Value.slice none 0 0))), none⟩]
attribute [go_sem] r44_26
def r44_27 : List PO := [⟨(some 132), (Op.fieldAddr 39 (Operand.tmp 3) 0), none⟩,
  ⟨(some 133), (Op.load 3 (Operand.tmp 132)), none⟩,
  ⟨(some 134), (Op.binOp BinOp.eql 3 (Operand.tmp 133) (Operand.const (Value.int IntKind.i64 10)) 3), none⟩,
  ⟨(some 131), (Op.assign (Operand.tmp 134)), none⟩]
attribute [go_sem] r44_27
def r44_28 : List PO := [⟨(some 135), (Op.load 23 (Operand.tmp 2)), none⟩,
  ⟨(some 136), (Op.call { callee := (Callee.value (Operand.func 62)), args := #[(Operand.tmp 135)], argTypes := #[23] }), none⟩,
  ⟨(some 137), (Op.extract (Operand.tmp 136) 0), none⟩,
  ⟨(some 138), (Op.extract (Operand.tmp 136) 1), none⟩,
  ⟨none, (Op.store 23 (Operand.tmp 4) (Operand.tmp 137)), none⟩,
  ⟨(some 5), (Op.assign (Operand.tmp 138)), none⟩]
attribute [go_sem] r44_28
def r44_29 : List PO := [⟨(some 139), (Op.load 23 (Operand.tmp 2)), none⟩,
  ⟨(some 140), (Op.call { callee := (Callee.value (Operand.func 61)), args := #[(Operand.tmp 139), (Operand.const (Value.int IntKind.i64 0))], argTypes := #[23, 3] }), none⟩,
  ⟨(some 141), (Op.buildSlice 36 1 #[(0, (Operand.const (Value.int IntKind.i64 3)))]), none⟩,
  ⟨none, (Op.store 23 (Operand.tmp 4) (Operand.tmp 140)), none⟩,
  ⟨(some 5), (Op.assign (Operand.tmp 141)), none⟩]
attribute [go_sem] r44_29
def c44 : PC := (.seq (.reg r44_0) (.seq (.reg r44_1) (.seq (.block 0 (.seq (.pre ⟨[2, 3, 4, 6], [.old 0, .old 1, .old 2]⟩ k44_1) (.cond (Operand.tmp 12) (.seq (.reg r44_3) .ret) (.seq (.pre ⟨[2, 3, 4, 6], [.old 0, .old 1, .old 2]⟩ k44_2) (.cond (Operand.tmp 23) (.seq (.reg r44_5) .ret) (.seq (.pre ⟨[2, 3, 4, 6], [.old 0, .old 1, .old 2]⟩ k44_3) (.cond (Operand.tmp 33) (.seq (.reg r44_7) (.seq (.reg r44_8) (.seq (.reg r44_9) .ret))) (.seq (.reg r44_10) (.cond (Operand.tmp 47) (.seq (.reg r44_11) .ret) (.seq (.reg r44_12) (.cond (Operand.tmp 51) (.seq (.reg r44_13) .ret) (.seq (.pre ⟨[2, 3, 4], [.old 0, .old 1, .old 2]⟩ k44_4) (.cond (Operand.tmp 57) (.seq (.reg r44_15) (.seq (.reg r44_16) (.seq (.reg r44_17) (.seq (.reg r44_18) .ret)))) (.seq (.pre ⟨[2, 3, 4], [.old 0, .old 1, .old 2]⟩ k44_5) (.cond (Operand.tmp 88) (.seq (.reg r44_20) (.seq (.reg r44_21) .ret)) (.seq (.pre ⟨[2, 3, 4], [.old 0, .old 1, .old 2]⟩ k44_6) (.cond (Operand.tmp 107) (.seq (.reg r44_23) (.seq (.reg r44_24) .ret)) (.seq (.reg r44_25) (.cond (Operand.tmp 125) (.seq (.reg r44_26) .ret) (.seq (.reg r44_27) (.cond (Operand.tmp 131) (.seq (.reg r44_28) .ret) .skip))))))))))))))))))))) (.seq (.reg r44_29) .ret))))
def i44 : FnI := ⟨142, [(ResultVar.cell 4 23), (ResultVar.tmp 5)], c44, 0, [[0, 0, 0, 0, 0], [0, 0]], [[0, 0, 0, 0, 0], [1]], false, false, 0⟩
-- loop.example/g00344/impl.StepSession
def r21_1 : List PO := [⟨(some 9), (Op.load 23 (Operand.tmp 2)), none⟩,
  ⟨(some 10), (Op.call { callee := (Callee.value (Operand.func 16)), args := #[(Operand.tmp 9)], argTypes := #[23] }), none⟩,
  ⟨(some 11), (Op.unOp UnOp.not 4 (Operand.tmp 10)), none⟩,
  ⟨(some 12), (Op.move (Operand.tmp 11)), none⟩,
  ⟨(some 13), (Op.load 39 (Operand.tmp 3)), (some (12, false))⟩,
  ⟨(some 14), (Op.call { callee := (Callee.value (Operand.func 43)), args := #[(Operand.tmp 13)], argTypes := #[39] }), (some (12, false))⟩,
  ⟨(some 15), (Op.unOp UnOp.not 4 (Operand.tmp 14)), (some (12, false))⟩,
  ⟨(some 16), (Op.pick (Operand.tmp 12) (Operand.const (Value.bool true)) (Operand.tmp 15)), none⟩]
attribute [go_sem] r21_1
def k21_1 : PC := (.post (.reg r21_1) ⟨[2, 3, 4, 16], [.old 0, .old 1, .old 2]⟩)
def r21_0 : List PO := [⟨(some 2), (Op.box 23 (Operand.tmp 0)), none⟩,
  ⟨(some 3), (Op.box 39 (Operand.tmp 1)), none⟩,
  ⟨(some 4), (Op.alloc 23), none⟩,
  ⟨(some 5), (Op.assign (Operand.const (Value.slice none 0 0))), none⟩,
  ⟨(some 6), (Op.assign (Operand.const (Value.bool false))), none⟩]
attribute [go_sem] r21_0
def r21_2 : List PO := [⟨(some 17), (Op.build 23 #[]), none⟩,
  ⟨none, (Op.store 23 (Operand.tmp 4) (Operand.tmp 17)), none⟩,
  ⟨(some 5), (Op.assign (Operand.const (Value.slice none 0 0))), none⟩,
  ⟨(some 6), (Op.assign (Operand.const (Value.bool false))), none⟩]
attribute [go_sem] r21_2
def r21_3 : List PO := [⟨(some 19), (Op.load 23 (Operand.tmp 2)), none⟩,
  ⟨(some 20), (Op.load 39 (Operand.tmp 3)), none⟩,
  ⟨(some 21), (Op.call { callee := (Callee.value (Operand.func 44)), args := #[(Operand.tmp 19), (Operand.tmp 20)], argTypes := #[23, 39] }), none⟩,
  ⟨(some 18), (Op.move (Operand.tmp 21)), none⟩,
  ⟨(some 22), (Op.extract (Operand.tmp 18) 0), none⟩,
  ⟨(some 23), (Op.extract (Operand.tmp 18) 1), none⟩,
  ⟨(some 7), (Op.alloc 23), none⟩,
  ⟨none, (Op.store 23 (Operand.tmp 7) (Operand.tmp 22)), none⟩,
  ⟨(some 8), (Op.assign (Operand.tmp 23)), none⟩]
attribute [go_sem] r21_3
def r21_4 : List PO := [⟨(some 24), (Op.load 23 (Operand.tmp 7)), none⟩,
  ⟨(some 25), (Op.move (Operand.tmp 8)), none⟩,
  ⟨none, (Op.store 23 (Operand.tmp 4) (Operand.tmp 24)), none⟩,
  ⟨(some 5), (Op.assign (Operand.tmp 25)), none⟩,
  ⟨(some 6), (Op.assign (Operand.const (Value.bool true))), none⟩]
attribute [go_sem] r21_4
def c21 : PC := (.seq (.reg r21_0) (.seq (.seq (.pre ⟨[2, 3, 4], [.old 0, .old 1, .old 2]⟩ k21_1) (.cond (Operand.tmp 16) (.seq (.reg r21_2) .ret) .skip)) (.seq (.reg r21_3) (.seq (.reg r21_4) .ret))))
def i21 : FnI := ⟨26, [(ResultVar.cell 4 23), (ResultVar.tmp 5), (ResultVar.tmp 6)], c21, 0, [[0, 0, 0, 0, 0], [0, 0]], [[0, 0, 0, 0, 0], [1], [0]], false, false, 0⟩
-- loop.example/g00344/laws.eqSession
def r13_0 : List PO := [⟨(some 2), (Op.box 23 (Operand.tmp 0)), none⟩,
  ⟨(some 3), (Op.box 23 (Operand.tmp 1)), none⟩,
  ⟨(some 4), (Op.assign (Operand.const (Value.bool false))), none⟩]
attribute [go_sem] r13_0
def r13_1 : List PO := [⟨(some 5), (Op.fieldAddr 23 (Operand.tmp 2) 0), none⟩,
  ⟨(some 6), (Op.load 3 (Operand.tmp 5)), none⟩,
  ⟨(some 7), (Op.fieldAddr 23 (Operand.tmp 3) 0), none⟩,
  ⟨(some 8), (Op.load 3 (Operand.tmp 7)), none⟩,
  ⟨(some 9), (Op.binOp BinOp.neq 3 (Operand.tmp 6) (Operand.tmp 8) 3), none⟩]
attribute [go_sem] r13_1
def r13_2 : List PO := [⟨(some 4), (Op.assign (Operand.const (Value.bool false))), none⟩]
attribute [go_sem] r13_2
def r13_3 : List PO := [⟨(some 10), (Op.fieldAddr 23 (Operand.tmp 2) 1), none⟩,
  ⟨(some 11), (Op.load 3 (Operand.tmp 10)), none⟩,
  ⟨(some 12), (Op.fieldAddr 23 (Operand.tmp 3) 1), none⟩,
  ⟨(some 13), (Op.load 3 (Operand.tmp 12)), none⟩,
  ⟨(some 14), (Op.binOp BinOp.neq 3 (Operand.tmp 11) (Operand.tmp 13) 3), none⟩]
attribute [go_sem] r13_3
def r13_4 : List PO := [⟨(some 4), (Op.assign (Operand.const (Value.bool false))), none⟩]
attribute [go_sem] r13_4
def r13_5 : List PO := [⟨(some 15), (Op.fieldAddr 23 (Operand.tmp 2) 2), none⟩,
  ⟨(some 16), (Op.load 3 (Operand.tmp 15)), none⟩,
  ⟨(some 17), (Op.fieldAddr 23 (Operand.tmp 3) 2), none⟩,
  ⟨(some 18), (Op.load 3 (Operand.tmp 17)), none⟩,
  ⟨(some 19), (Op.binOp BinOp.neq 3 (Operand.tmp 16) (Operand.tmp 18) 3), none⟩]
attribute [go_sem] r13_5
def r13_6 : List PO := [⟨(some 4), (Op.assign (Operand.const (Value.bool false))), none⟩]
attribute [go_sem] r13_6
def r13_7 : List PO := [⟨(some 20), (Op.fieldAddr 23 (Operand.tmp 2) 3), none⟩,
  ⟨(some 21), (Op.load 3 (Operand.tmp 20)), none⟩,
  ⟨(some 22), (Op.fieldAddr 23 (Operand.tmp 3) 3), none⟩,
  ⟨(some 23), (Op.load 3 (Operand.tmp 22)), none⟩,
  ⟨(some 24), (Op.binOp BinOp.neq 3 (Operand.tmp 21) (Operand.tmp 23) 3), none⟩]
attribute [go_sem] r13_7
def r13_8 : List PO := [⟨(some 4), (Op.assign (Operand.const (Value.bool false))), none⟩]
attribute [go_sem] r13_8
def r13_9 : List PO := [⟨(some 25), (Op.fieldAddr 23 (Operand.tmp 2) 4), none⟩,
  ⟨(some 26), (Op.load 3 (Operand.tmp 25)), none⟩,
  ⟨(some 27), (Op.fieldAddr 23 (Operand.tmp 3) 4), none⟩,
  ⟨(some 28), (Op.load 3 (Operand.tmp 27)), none⟩,
  ⟨(some 29), (Op.binOp BinOp.neq 3 (Operand.tmp 26) (Operand.tmp 28) 3), none⟩]
attribute [go_sem] r13_9
def r13_10 : List PO := [⟨(some 4), (Op.assign (Operand.const (Value.bool false))), none⟩]
attribute [go_sem] r13_10
def r13_11 : List PO := [⟨(some 4), (Op.assign (Operand.const (Value.bool true))), none⟩]
attribute [go_sem] r13_11
def c13 : PC := (.seq (.reg r13_0) (.seq (.seq (.reg r13_1) (.cond (Operand.tmp 9) (.seq (.reg r13_2) .ret) .skip)) (.seq (.seq (.reg r13_3) (.cond (Operand.tmp 14) (.seq (.reg r13_4) .ret) .skip)) (.seq (.seq (.reg r13_5) (.cond (Operand.tmp 19) (.seq (.reg r13_6) .ret) .skip)) (.seq (.seq (.reg r13_7) (.cond (Operand.tmp 24) (.seq (.reg r13_8) .ret) .skip)) (.seq (.seq (.reg r13_9) (.cond (Operand.tmp 29) (.seq (.reg r13_10) .ret) .skip)) (.seq (.reg r13_11) .ret)))))))
def i13 : FnI := ⟨30, [(ResultVar.tmp 4)], c13, 0, [[0, 0, 0, 0, 0], [0, 0, 0, 0, 0]], [[0]], false, false, 0⟩
-- loop.example/g00344/laws.eqIntS
def r22_4 : List PO := [⟨(some 11), (Op.move (Operand.tmp 5)), none⟩,
  ⟨(some 12), (Op.move (Operand.tmp 0)), none⟩,
  ⟨(some 13), (Op.call { callee := (Callee.builtin Builtin.len), args := #[(Operand.tmp 12)], argTypes := #[36] }), none⟩,
  ⟨(some 14), (Op.binOp BinOp.lss 3 (Operand.tmp 11) (Operand.tmp 13) 3), none⟩]
attribute [go_sem] r22_4
def r22_6 : List PO := [⟨(some 17), (Op.move (Operand.tmp 0)), none⟩,
  ⟨(some 18), (Op.move (Operand.tmp 5)), none⟩,
  ⟨(some 19), (Op.indexAddr 36 (Operand.tmp 17) (Operand.tmp 18)), none⟩,
  ⟨(some 20), (Op.load 3 (Operand.tmp 19)), none⟩,
  ⟨(some 21), (Op.move (Operand.tmp 1)), none⟩,
  ⟨(some 22), (Op.move (Operand.tmp 5)), none⟩,
  ⟨(some 23), (Op.indexAddr 36 (Operand.tmp 21) (Operand.tmp 22)), none⟩,
  ⟨(some 24), (Op.load 3 (Operand.tmp 23)), none⟩,
  ⟨(some 25), (Op.binOp BinOp.neq 3 (Operand.tmp 20) (Operand.tmp 24) 3), none⟩]
attribute [go_sem] r22_6
def r22_7 : List PO := [⟨(some 4), (Op.assign (Operand.const (Value.bool false))), none⟩]
attribute [go_sem] r22_7
def r22_5 : List PO := [⟨(some 15), (Op.move (Operand.tmp 5)), none⟩,
  ⟨(some 16), (Op.binOp BinOp.add 3 (Operand.tmp 15) (Operand.const (Value.int IntKind.i64 1)) 3), none⟩,
  ⟨(some 5), (Op.assign (Operand.tmp 16)), none⟩]
attribute [go_sem] r22_5
def k22_1b : PC := (.seq (.seq (.reg r22_4) (.cond (Operand.tmp 14) .skip (.pre ⟨[], []⟩ (.exit 0)))) (.seq (.block 1 (.seq (.fz r22_6) (.cond (Operand.tmp 25) (.seq (.reg r22_7) (.pre ⟨[4], []⟩ .ret)) .skip))) (.post (.reg r22_5) ⟨[0, 1, 5], []⟩)))
def r22_0 : List PO := [⟨(some 4), (Op.assign (Operand.const (Value.bool false))), none⟩]
attribute [go_sem] r22_0
def r22_1 : List PO := [⟨(some 6), (Op.move (Operand.tmp 0)), none⟩,
  ⟨(some 7), (Op.call { callee := (Callee.builtin Builtin.len), args := #[(Operand.tmp 6)], argTypes := #[36] }), none⟩,
  ⟨(some 8), (Op.move (Operand.tmp 1)), none⟩,
  ⟨(some 9), (Op.call { callee := (Callee.builtin Builtin.len), args := #[(Operand.tmp 8)], argTypes := #[36] }), none⟩,
  ⟨(some 10), (Op.binOp BinOp.neq 3 (Operand.tmp 7) (Operand.tmp 9) 3), none⟩]
attribute [go_sem] r22_1
def r22_2 : List PO := [⟨(some 4), (Op.assign (Operand.const (Value.bool false))), none⟩]
attribute [go_sem] r22_2
def r22_3 : List PO := [⟨(some 5), (Op.assign (Operand.const (Value.int IntKind.i64 0))), none⟩]
attribute [go_sem] r22_3
def r22_8 : List PO := [⟨(some 4), (Op.assign (Operand.const (Value.bool true))), none⟩]
attribute [go_sem] r22_8
def c22 : PC := (.seq (.reg r22_0) (.seq (.seq (.reg r22_1) (.cond (Operand.tmp 10) (.seq (.reg r22_2) .ret) .skip)) (.seq (.seq (.reg r22_3) (.block 0 (.pre ⟨[0, 1, 5], []⟩ (.loop k22_1b)))) (.seq (.reg r22_8) .ret))))
def i22 : FnI := ⟨26, [(ResultVar.tmp 4)], c22, 0, [[1], [1]], [[0]], false, false, 0⟩
-- loop.example/g00344/laws.markIntS
def r23_2 : List PO := [⟨(some 6), (Op.move (Operand.tmp 5)), none⟩,
  ⟨(some 7), (Op.move (Operand.tmp 0)), none⟩,
  ⟨(some 8), (Op.call { callee := (Callee.builtin Builtin.len), args := #[(Operand.tmp 7)], argTypes := #[36] }), none⟩,
  ⟨(some 9), (Op.binOp BinOp.lss 3 (Operand.tmp 6) (Operand.tmp 8) 3), none⟩]
attribute [go_sem] r23_2
def r23_4 : List PO := [⟨(some 12), (Op.move (Operand.tmp 0)), none⟩,
  ⟨(some 13), (Op.move (Operand.tmp 5)), none⟩,
  ⟨(some 14), (Op.move (Operand.tmp 1)), none⟩,
  ⟨(some 15), (Op.indexAddr 36 (Operand.tmp 12) (Operand.tmp 13)), none⟩,
  ⟨none, (Op.store 3 (Operand.tmp 15) (Operand.tmp 14)), none⟩]
attribute [go_sem] r23_4
def r23_5 : List PO := [⟨(some 16), (Op.move (Operand.tmp 1)), none⟩,
  ⟨(some 17), (Op.binOp BinOp.add 3 (Operand.tmp 16) (Operand.const (Value.int IntKind.i64 1)) 3), none⟩,
  ⟨(some 1), (Op.assign (Operand.tmp 17)), none⟩]
attribute [go_sem] r23_5
def r23_3 : List PO := [⟨(some 10), (Op.move (Operand.tmp 5)), none⟩,
  ⟨(some 11), (Op.binOp BinOp.add 3 (Operand.tmp 10) (Operand.const (Value.int IntKind.i64 1)) 3), none⟩,
  ⟨(some 5), (Op.assign (Operand.tmp 11)), none⟩]
attribute [go_sem] r23_3
def k23_1b : PC := (.seq (.seq (.reg r23_2) (.cond (Operand.tmp 9) .skip (.pre ⟨[1], []⟩ (.exit 0)))) (.seq (.block 1 (.seq (.reg r23_4) (.reg r23_5))) (.post (.reg r23_3) ⟨[0, 1, 5], []⟩)))
def r23_0 : List PO := [⟨(some 4), (Op.assign (Operand.const (Value.int IntKind.i64 0))), none⟩]
attribute [go_sem] r23_0
def r23_1 : List PO := [⟨(some 5), (Op.assign (Operand.const (Value.int IntKind.i64 0))), none⟩]
attribute [go_sem] r23_1
def r23_6 : List PO := [⟨(some 18), (Op.move (Operand.tmp 1)), none⟩,
  ⟨(some 4), (Op.assign (Operand.tmp 18)), none⟩]
attribute [go_sem] r23_6
def c23 : PC := (.seq (.reg r23_0) (.seq (.seq (.reg r23_1) (.block 0 (.pre ⟨[0, 1, 5], []⟩ (.loop k23_1b)))) (.seq (.reg r23_6) (.pre ⟨[4], []⟩ .ret))))
def i23 : FnI := ⟨19, [(ResultVar.tmp 4)], c23, 3, [[1], [0]], [[0]], false, true, 1⟩
-- loop.example/g00344/laws.heldIntS
def r24_2 : List PO := [⟨(some 6), (Op.move (Operand.tmp 5)), none⟩,
  ⟨(some 7), (Op.move (Operand.tmp 0)), none⟩,
  ⟨(some 8), (Op.call { callee := (Callee.builtin Builtin.len), args := #[(Operand.tmp 7)], argTypes := #[36] }), none⟩,
  ⟨(some 9), (Op.binOp BinOp.lss 3 (Operand.tmp 6) (Operand.tmp 8) 3), none⟩]
attribute [go_sem] r24_2
def r24_4 : List PO := [⟨(some 12), (Op.move (Operand.tmp 0)), none⟩,
  ⟨(some 13), (Op.move (Operand.tmp 5)), none⟩,
  ⟨(some 14), (Op.indexAddr 36 (Operand.tmp 12) (Operand.tmp 13)), none⟩,
  ⟨(some 15), (Op.load 3 (Operand.tmp 14)), none⟩,
  ⟨(some 16), (Op.move (Operand.tmp 1)), none⟩,
  ⟨(some 17), (Op.binOp BinOp.neq 3 (Operand.tmp 15) (Operand.tmp 16) 3), none⟩]
attribute [go_sem] r24_4
def r24_5 : List PO := [⟨(some 4), (Op.assign (Operand.const (Value.int IntKind.i64 (-1)))), none⟩]
attribute [go_sem] r24_5
def r24_6 : List PO := [⟨(some 18), (Op.move (Operand.tmp 1)), none⟩,
  ⟨(some 19), (Op.binOp BinOp.add 3 (Operand.tmp 18) (Operand.const (Value.int IntKind.i64 1)) 3), none⟩,
  ⟨(some 1), (Op.assign (Operand.tmp 19)), none⟩]
attribute [go_sem] r24_6
def r24_3 : List PO := [⟨(some 10), (Op.move (Operand.tmp 5)), none⟩,
  ⟨(some 11), (Op.binOp BinOp.add 3 (Operand.tmp 10) (Operand.const (Value.int IntKind.i64 1)) 3), none⟩,
  ⟨(some 5), (Op.assign (Operand.tmp 11)), none⟩]
attribute [go_sem] r24_3
def k24_1b : PC := (.seq (.seq (.reg r24_2) (.cond (Operand.tmp 9) .skip (.pre ⟨[1], []⟩ (.exit 0)))) (.seq (.block 1 (.seq (.seq (.reg r24_4) (.cond (Operand.tmp 17) (.seq (.reg r24_5) (.pre ⟨[4], []⟩ .ret)) .skip)) (.reg r24_6))) (.post (.reg r24_3) ⟨[0, 1, 5], []⟩)))
def r24_0 : List PO := [⟨(some 4), (Op.assign (Operand.const (Value.int IntKind.i64 0))), none⟩]
attribute [go_sem] r24_0
def r24_1 : List PO := [⟨(some 5), (Op.assign (Operand.const (Value.int IntKind.i64 0))), none⟩]
attribute [go_sem] r24_1
def r24_7 : List PO := [⟨(some 20), (Op.move (Operand.tmp 1)), none⟩,
  ⟨(some 4), (Op.assign (Operand.tmp 20)), none⟩]
attribute [go_sem] r24_7
def c24 : PC := (.seq (.reg r24_0) (.seq (.seq (.reg r24_1) (.block 0 (.pre ⟨[0, 1, 5], []⟩ (.loop k24_1b)))) (.seq (.reg r24_7) .ret)))
def i24 : FnI := ⟨21, [(ResultVar.tmp 4)], c24, 0, [[1], [0]], [[0]], false, false, 0⟩
-- loop.example/g00344/laws.FnExactStepSession
def r6_3 : List PO := [⟨(some 34), (Op.load 23 (Operand.tmp 8)), none⟩,
  ⟨(some 35), (Op.load 23 (Operand.tmp 5)), none⟩,
  ⟨(some 36), (Op.call { callee := (Callee.value (Operand.func 13)), args := #[(Operand.tmp 34), (Operand.tmp 35)], argTypes := #[23, 23] }), none⟩,
  ⟨(some 37), (Op.unOp UnOp.not 4 (Operand.tmp 36)), none⟩,
  ⟨(some 38), (Op.move (Operand.tmp 37)), none⟩,
  ⟨(some 39), (Op.move (Operand.tmp 9)), (some (38, false))⟩,
  ⟨(some 40), (Op.move (Operand.tmp 6)), (some (38, false))⟩,
  ⟨(some 41), (Op.call { callee := (Callee.value (Operand.func 22)), args := #[(Operand.tmp 39), (Operand.tmp 40)], argTypes := #[36, 36] }), (some (38, false))⟩,
  ⟨(some 42), (Op.unOp UnOp.not 4 (Operand.tmp 41)), (some (38, false))⟩,
  ⟨(some 43), (Op.pick (Operand.tmp 38) (Operand.const (Value.bool true)) (Operand.tmp 42)), none⟩,
  ⟨(some 44), (Op.move (Operand.tmp 43)), none⟩,
  ⟨(some 45), (Op.move (Operand.tmp 10)), (some (44, false))⟩,
  ⟨(some 46), (Op.move (Operand.tmp 7)), (some (44, false))⟩,
  ⟨(some 47), (Op.binOp BinOp.neq 4 (Operand.tmp 45) (Operand.tmp 46) 4), (some (44, false))⟩,
  ⟨(some 48), (Op.pick (Operand.tmp 44) (Operand.const (Value.bool true)) (Operand.tmp 47)), none⟩]
attribute [go_sem] r6_3
def k6_1 : PC := (.post (.reg r6_3) ⟨[2, 3, 5, 6, 7, 9, 48], [.old 0, .old 1, .old 2, .old 3, .old 5]⟩)
def r6_14 : List PO := [⟨(some 69), (Op.load 23 (Operand.tmp 13)), none⟩,
  ⟨(some 70), (Op.load 23 (Operand.tmp 5)), none⟩,
  ⟨(some 71), (Op.call { callee := (Callee.value (Operand.func 13)), args := #[(Operand.tmp 69), (Operand.tmp 70)], argTypes := #[23, 23] }), none⟩,
  ⟨(some 72), (Op.unOp UnOp.not 4 (Operand.tmp 71)), none⟩,
  ⟨(some 73), (Op.move (Operand.tmp 72)), none⟩,
  ⟨(some 74), (Op.move (Operand.tmp 14)), (some (73, false))⟩,
  ⟨(some 75), (Op.move (Operand.tmp 6)), (some (73, false))⟩,
  ⟨(some 76), (Op.call { callee := (Callee.value (Operand.func 22)), args := #[(Operand.tmp 74), (Operand.tmp 75)], argTypes := #[36, 36] }), (some (73, false))⟩,
  ⟨(some 77), (Op.unOp UnOp.not 4 (Operand.tmp 76)), (some (73, false))⟩,
  ⟨(some 78), (Op.pick (Operand.tmp 73) (Operand.const (Value.bool true)) (Operand.tmp 77)), none⟩,
  ⟨(some 79), (Op.move (Operand.tmp 78)), none⟩,
  ⟨(some 80), (Op.move (Operand.tmp 15)), (some (79, false))⟩,
  ⟨(some 81), (Op.move (Operand.tmp 7)), (some (79, false))⟩,
  ⟨(some 82), (Op.binOp BinOp.neq 4 (Operand.tmp 80) (Operand.tmp 81) 4), (some (79, false))⟩,
  ⟨(some 83), (Op.pick (Operand.tmp 79) (Operand.const (Value.bool true)) (Operand.tmp 82)), none⟩]
attribute [go_sem] r6_14
def k6_2 : PC := (.post (.reg r6_14) ⟨[9, 11, 83], [.old 2]⟩)
def r6_0 : List PO := [⟨(some 2), (Op.box 28 (Operand.tmp 0)), none⟩,
  ⟨(some 3), (Op.box 35 (Operand.tmp 1)), none⟩,
  ⟨(some 4), (Op.assign (Operand.const (Value.bool false))), none⟩]
attribute [go_sem] r6_0
def r6_1 : List PO := [⟨(some 17), (Op.load 28 (Operand.tmp 2)), none⟩,
  ⟨(some 18), (Op.call { callee := (Callee.value (Operand.func 15)), args := #[(Operand.tmp 17)], argTypes := #[28] }), none⟩,
  ⟨(some 19), (Op.load 35 (Operand.tmp 3)), none⟩,
  ⟨(some 20), (Op.call { callee := (Callee.value (Operand.func 20)), args := #[(Operand.tmp 19)], argTypes := #[35] }), none⟩,
  ⟨(some 21), (Op.call { callee := (Callee.value (Operand.func 19)), args := #[(Operand.tmp 18), (Operand.tmp 20)], argTypes := #[23, 39] }), none⟩,
  ⟨(some 16), (Op.move (Operand.tmp 21)), none⟩,
  ⟨(some 22), (Op.extract (Operand.tmp 16) 0), none⟩,
  ⟨(some 23), (Op.extract (Operand.tmp 16) 1), none⟩,
  ⟨(some 24), (Op.extract (Operand.tmp 16) 2), none⟩,
  ⟨(some 5), (Op.alloc 23), none⟩,
  ⟨none, (Op.store 23 (Operand.tmp 5) (Operand.tmp 22)), none⟩,
  ⟨(some 6), (Op.assign (Operand.tmp 23)), none⟩,
  ⟨(some 7), (Op.assign (Operand.tmp 24)), none⟩]
attribute [go_sem] r6_1
def x6_1 : FxI := ⟨[1, 3, 4, 9, 10], [none, none, none, none, none, none, none, none, none, some 0, none, none, none], 1, [[], [1], [1, 3], [1, 3, 4], [1, 3, 4, 9], [1, 3, 4, 9, 10], [9], [1, 9], [1, 3, 9]], [(0, 9), (1, 9), (2, 9)], [(0, 6, 6), (1, 6, 7), (2, 0, 0), (2, 6, 6), (2, 7, 7), (3, 7, 8), (4, 8, 4), (9, 0, 6), (9, 1, 7), (9, 2, 8)]⟩
attribute [go_sem] x6_1
def r6_2 : List PO := [⟨(some 26), (Op.load 28 (Operand.tmp 2)), none⟩,
  ⟨(some 27), (Op.call { callee := (Callee.value (Operand.func 15)), args := #[(Operand.tmp 26)], argTypes := #[28] }), none⟩,
  ⟨(some 28), (Op.load 35 (Operand.tmp 3)), none⟩,
  ⟨(some 29), (Op.call { callee := (Callee.value (Operand.func 20)), args := #[(Operand.tmp 28)], argTypes := #[35] }), none⟩,
  ⟨(some 30), (Op.call { callee := (Callee.value (Operand.func 21)), args := #[(Operand.tmp 27), (Operand.tmp 29)], argTypes := #[23, 39] }), none⟩,
  ⟨(some 25), (Op.move (Operand.tmp 30)), none⟩,
  ⟨(some 31), (Op.extract (Operand.tmp 25) 0), none⟩,
  ⟨(some 32), (Op.extract (Operand.tmp 25) 1), none⟩,
  ⟨(some 33), (Op.extract (Operand.tmp 25) 2), none⟩,
  ⟨(some 8), (Op.alloc 23), none⟩,
  ⟨none, (Op.store 23 (Operand.tmp 8) (Operand.tmp 31)), none⟩,
  ⟨(some 9), (Op.assign (Operand.tmp 32)), none⟩,
  ⟨(some 10), (Op.assign (Operand.tmp 33)), none⟩]
attribute [go_sem] r6_2
def x6_2 : FxI := ⟨[1, 3, 4, 9, 10], [none, none, none, none, none, none, none, none, none, some 0, none, none, none], 1, [[], [1], [1, 3], [1, 3, 4], [1, 3, 4, 9], [1, 3, 4, 9, 10], [9], [1, 9], [1, 3, 9]], [(0, 9), (1, 9), (2, 9)], [(0, 6, 6), (1, 6, 7), (2, 0, 0), (2, 6, 6), (2, 7, 7), (3, 7, 8), (4, 8, 4), (9, 0, 6), (9, 1, 7), (9, 2, 8)]⟩
attribute [go_sem] x6_2
def r6_4 : List PO := [⟨(some 4), (Op.assign (Operand.const (Value.bool false))), none⟩]
attribute [go_sem] r6_4
def r6_5 : List PO := [⟨(some 11), (Op.assign (Operand.const (Value.int IntKind.i64 1))), none⟩]
attribute [go_sem] r6_5
def r6_6 : List PO := [⟨(some 49), (Op.move (Operand.tmp 9)), none⟩,
  ⟨(some 50), (Op.move (Operand.tmp 11)), none⟩,
  ⟨(some 51), (Op.call { callee := (Callee.value (Operand.func 23)), args := #[(Operand.tmp 49), (Operand.tmp 50)], argTypes := #[36, 3] }), none⟩,
  ⟨(some 11), (Op.assign (Operand.tmp 51)), none⟩]
attribute [go_sem] r6_6
def r6_7 : List PO := [⟨(some 12), (Op.assign (Operand.const (Value.int IntKind.i64 1))), none⟩]
attribute [go_sem] r6_7
def r6_8 : List PO := [⟨(some 52), (Op.move (Operand.tmp 9)), none⟩,
  ⟨(some 53), (Op.move (Operand.tmp 12)), none⟩,
  ⟨(some 54), (Op.call { callee := (Callee.value (Operand.func 24)), args := #[(Operand.tmp 52), (Operand.tmp 53)], argTypes := #[36, 3] }), none⟩,
  ⟨(some 12), (Op.assign (Operand.tmp 54)), none⟩]
attribute [go_sem] r6_8
def r6_9 : List PO := [⟨(some 55), (Op.move (Operand.tmp 12)), none⟩,
  ⟨(some 56), (Op.binOp BinOp.lss 3 (Operand.tmp 55) (Operand.const (Value.int IntKind.i64 0)) 3), none⟩]
attribute [go_sem] r6_9
def r6_10 : List PO := [⟨(some 4), (Op.assign (Operand.const (Value.bool false))), none⟩]
attribute [go_sem] r6_10
def r6_11 : List PO := [⟨(some 57), (Op.move (Operand.tmp 12)), none⟩,
  ⟨(some 58), (Op.move (Operand.tmp 11)), none⟩,
  ⟨(some 59), (Op.binOp BinOp.neq 3 (Operand.tmp 57) (Operand.tmp 58) 3), none⟩]
attribute [go_sem] r6_11
def r6_12 : List PO := [⟨(some 4), (Op.assign (Operand.const (Value.bool false))), none⟩]
attribute [go_sem] r6_12
def r6_13 : List PO := [⟨(some 61), (Op.load 28 (Operand.tmp 2)), none⟩,
  ⟨(some 62), (Op.call { callee := (Callee.value (Operand.func 15)), args := #[(Operand.tmp 61)], argTypes := #[28] }), none⟩,
  ⟨(some 63), (Op.load 35 (Operand.tmp 3)), none⟩,
  ⟨(some 64), (Op.call { callee := (Callee.value (Operand.func 20)), args := #[(Operand.tmp 63)], argTypes := #[35] }), none⟩,
  ⟨(some 65), (Op.call { callee := (Callee.value (Operand.func 21)), args := #[(Operand.tmp 62), (Operand.tmp 64)], argTypes := #[23, 39] }), none⟩,
  ⟨(some 60), (Op.move (Operand.tmp 65)), none⟩,
  ⟨(some 66), (Op.extract (Operand.tmp 60) 0), none⟩,
  ⟨(some 67), (Op.extract (Operand.tmp 60) 1), none⟩,
  ⟨(some 68), (Op.extract (Operand.tmp 60) 2), none⟩,
  ⟨(some 13), (Op.alloc 23), none⟩,
  ⟨none, (Op.store 23 (Operand.tmp 13) (Operand.tmp 66)), none⟩,
  ⟨(some 14), (Op.assign (Operand.tmp 67)), none⟩,
  ⟨(some 15), (Op.assign (Operand.tmp 68)), none⟩]
attribute [go_sem] r6_13
def x6_13 : FxI := ⟨[1, 3, 4, 9, 10], [none, none, none, none, none, none, none, none, none, some 0, none, none, none], 1, [[], [1], [1, 3], [1, 3, 4], [1, 3, 4, 9], [1, 3, 4, 9, 10], [9], [1, 9], [1, 3, 9]], [(0, 9), (1, 9), (2, 9)], [(0, 6, 6), (1, 6, 7), (2, 0, 0), (2, 6, 6), (2, 7, 7), (3, 7, 8), (4, 8, 4), (9, 0, 6), (9, 1, 7), (9, 2, 8)]⟩
attribute [go_sem] x6_13
def r6_15 : List PO := [⟨(some 4), (Op.assign (Operand.const (Value.bool false))), none⟩]
attribute [go_sem] r6_15
def r6_16 : List PO := [⟨(some 12), (Op.assign (Operand.const (Value.int IntKind.i64 1))), none⟩]
attribute [go_sem] r6_16
def r6_17 : List PO := [⟨(some 84), (Op.move (Operand.tmp 9)), none⟩,
  ⟨(some 85), (Op.move (Operand.tmp 12)), none⟩,
  ⟨(some 86), (Op.call { callee := (Callee.value (Operand.func 24)), args := #[(Operand.tmp 84), (Operand.tmp 85)], argTypes := #[36, 3] }), none⟩,
  ⟨(some 12), (Op.assign (Operand.tmp 86)), none⟩]
attribute [go_sem] r6_17
def r6_18 : List PO := [⟨(some 87), (Op.move (Operand.tmp 12)), none⟩,
  ⟨(some 88), (Op.binOp BinOp.lss 3 (Operand.tmp 87) (Operand.const (Value.int IntKind.i64 0)) 3), none⟩]
attribute [go_sem] r6_18
def r6_20 : List PO := [⟨(some 89), (Op.move (Operand.tmp 12)), none⟩,
  ⟨(some 90), (Op.move (Operand.tmp 11)), none⟩,
  ⟨(some 91), (Op.binOp BinOp.neq 3 (Operand.tmp 89) (Operand.tmp 90) 3), none⟩]
attribute [go_sem] r6_20
def r6_22 : List PO := [⟨(some 4), (Op.assign (Operand.const (Value.bool true))), none⟩]
attribute [go_sem] r6_22
def c6 : PC := (.seq (.reg r6_0) (.seq (.fx r6_1 x6_1) (.seq (.fx r6_2 x6_2) (.seq (.seq (.pre ⟨[2, 3, 5, 6, 7, 8, 9, 10], [.old 0, .old 1, .old 2, .old 3, .old 4, .old 5]⟩ k6_1) (.cond (Operand.tmp 48) (.seq (.reg r6_4) .ret) .skip)) (.seq (.reg r6_5) (.seq (.reg r6_6) (.seq (.reg r6_7) (.seq (.reg r6_8) (.seq (.seq (.reg r6_9) (.cond (Operand.tmp 56) (.seq (.reg r6_10) .ret) .skip)) (.seq (.seq (.reg r6_11) (.cond (Operand.tmp 59) (.seq (.reg r6_12) .ret) .skip)) (.seq (.fx r6_13 x6_13) (.seq (.seq (.pre ⟨[5, 6, 7, 9, 11, 13, 14, 15], [.old 2, .old 3, .old 4, .old 5, .old 6]⟩ k6_2) (.cond (Operand.tmp 83) (.seq (.reg r6_15) .ret) .skip)) (.seq (.reg r6_16) (.seq (.reg r6_17) (.seq (.seq (.reg r6_18) (.cond (Operand.tmp 88) .bad .skip)) (.seq (.seq (.reg r6_20) (.cond (Operand.tmp 91) .bad .skip)) (.seq (.reg r6_22) .ret)))))))))))))))))
def i6 : FnI := ⟨92, [(ResultVar.tmp 4)], c6, 0, [[0, 0, 0, 0, 0], [0, 0]], [[0]], false, false, 0⟩
def tys : List (Nat × TyI) := [(3, ⟨1, 8, false, [.int .i64 0], [0], 0, [], .int .i64, false⟩),
  (4, ⟨1, 1, false, [.bool false], [0], 0, [], .bool, false⟩),
  (23, ⟨5, 40, true, [.int .i64 0, .int .i64 0, .int .i64 0, .int .i64 0, .int .i64 0], [0, 0, 0, 0, 0], 0, [(0, 1, false), (1, 1, false), (2, 1, false), (3, 1, false), (4, 1, false)], .other, false⟩),
  (28, ⟨5, 40, true, [.int .i64 0, .int .i64 0, .int .i64 0, .int .i64 0, .int .i64 0], [0, 0, 0, 0, 0], 0, [(0, 1, false), (1, 1, false), (2, 1, false), (3, 1, false), (4, 1, false)], .other, false⟩),
  (35, ⟨2, 16, true, [.int .i64 0, .int .i64 0], [0, 0], 0, [(0, 1, false), (1, 1, false)], .other, false⟩),
  (36, ⟨1, 24, false, [.nil], [1], 3, [], .other, false⟩),
  (39, ⟨2, 16, true, [.int .i64 0, .int .i64 0], [0, 0], 0, [(0, 1, false), (1, 1, false)], .other, false⟩)]
def fns : List (Nat × FnI) := [(6, i6), (13, i13), (14, i14), (15, i15), (16, i16), (19, i19), (20, i20), (21, i21), (22, i22), (23, i23), (24, i24), (39, i39), (40, i40), (41, i41), (42, i42), (43, i43), (44, i44), (49, i49), (60, i60), (61, i61), (62, i62)]
def T : Tab := mkTab tys fns
theorem ty3 : T.ty 3 = some ⟨1, 8, false, [.int .i64 0], [0], 0, [], .int .i64, false⟩ := rfl
theorem base3 : T.baseOf 3 = Bs.int .i64 := rfl
theorem ty4 : T.ty 4 = some ⟨1, 1, false, [.bool false], [0], 0, [], .bool, false⟩ := rfl
theorem base4 : T.baseOf 4 = Bs.bool := rfl
theorem ty23 : T.ty 23 = some ⟨5, 40, true, [.int .i64 0, .int .i64 0, .int .i64 0, .int .i64 0, .int .i64 0], [0, 0, 0, 0, 0], 0, [(0, 1, false), (1, 1, false), (2, 1, false), (3, 1, false), (4, 1, false)], .other, false⟩ := rfl
theorem base23 : T.baseOf 23 = Bs.other := rfl
theorem ty28 : T.ty 28 = some ⟨5, 40, true, [.int .i64 0, .int .i64 0, .int .i64 0, .int .i64 0, .int .i64 0], [0, 0, 0, 0, 0], 0, [(0, 1, false), (1, 1, false), (2, 1, false), (3, 1, false), (4, 1, false)], .other, false⟩ := rfl
theorem base28 : T.baseOf 28 = Bs.other := rfl
theorem ty35 : T.ty 35 = some ⟨2, 16, true, [.int .i64 0, .int .i64 0], [0, 0], 0, [(0, 1, false), (1, 1, false)], .other, false⟩ := rfl
theorem base35 : T.baseOf 35 = Bs.other := rfl
theorem ty36 : T.ty 36 = some ⟨1, 24, false, [.nil], [1], 3, [], .other, false⟩ := rfl
theorem base36 : T.baseOf 36 = Bs.other := rfl
theorem elem36 : T.elemOf 36 = some ⟨1, 8, false, [.int .i64 0], [0], 0, [], .int .i64, false⟩ := rfl
theorem ty39 : T.ty 39 = some ⟨2, 16, true, [.int .i64 0, .int .i64 0], [0, 0], 0, [(0, 1, false), (1, 1, false)], .other, false⟩ := rfl
theorem base39 : T.baseOf 39 = Bs.other := rfl
attribute [go_sem] ty3 base3 ty4 base4 ty23 base23 ty28 base28 ty35 base35 ty36 base36 elem36 ty39 base39
theorem ok6 : FnOk Try.prog (6, i6) := ⟨Try.f6, _, Try.func6, rfl, by kernel_rfl, rfl, rfl, by kernel_rfl⟩
theorem ok13 : FnOk Try.prog (13, i13) := ⟨Try.f13, _, Try.func13, rfl, by kernel_rfl, rfl, rfl, by kernel_rfl⟩
theorem ok14 : FnOk Try.prog (14, i14) := ⟨Try.f14, _, Try.func14, rfl, by kernel_rfl, rfl, rfl, by kernel_rfl⟩
theorem ok15 : FnOk Try.prog (15, i15) := ⟨Try.f15, _, Try.func15, rfl, by kernel_rfl, rfl, rfl, by kernel_rfl⟩
theorem ok16 : FnOk Try.prog (16, i16) := ⟨Try.f16, _, Try.func16, rfl, by kernel_rfl, rfl, rfl, by kernel_rfl⟩
theorem ok19 : FnOk Try.prog (19, i19) := ⟨Try.f19, _, Try.func19, rfl, by kernel_rfl, rfl, rfl, by kernel_rfl⟩
theorem ok20 : FnOk Try.prog (20, i20) := ⟨Try.f20, _, Try.func20, rfl, by kernel_rfl, rfl, rfl, by kernel_rfl⟩
theorem ok21 : FnOk Try.prog (21, i21) := ⟨Try.f21, _, Try.func21, rfl, by kernel_rfl, rfl, rfl, by kernel_rfl⟩
theorem ok22 : FnOk Try.prog (22, i22) := ⟨Try.f22, _, Try.func22, rfl, by kernel_rfl, rfl, rfl, by kernel_rfl⟩
theorem ok23 : FnOk Try.prog (23, i23) := ⟨Try.f23, _, Try.func23, rfl, by kernel_rfl, rfl, rfl, by kernel_rfl⟩
theorem ok24 : FnOk Try.prog (24, i24) := ⟨Try.f24, _, Try.func24, rfl, by kernel_rfl, rfl, rfl, by kernel_rfl⟩
theorem ok39 : FnOk Try.prog (39, i39) := ⟨Try.f39, _, Try.func39, rfl, by kernel_rfl, rfl, rfl, by kernel_rfl⟩
theorem ok40 : FnOk Try.prog (40, i40) := ⟨Try.f40, _, Try.func40, rfl, by kernel_rfl, rfl, rfl, by kernel_rfl⟩
theorem ok41 : FnOk Try.prog (41, i41) := ⟨Try.f41, _, Try.func41, rfl, by kernel_rfl, rfl, rfl, by kernel_rfl⟩
theorem ok42 : FnOk Try.prog (42, i42) := ⟨Try.f42, _, Try.func42, rfl, by kernel_rfl, rfl, rfl, by kernel_rfl⟩
theorem ok43 : FnOk Try.prog (43, i43) := ⟨Try.f43, _, Try.func43, rfl, by kernel_rfl, rfl, rfl, by kernel_rfl⟩
theorem ok44 : FnOk Try.prog (44, i44) := ⟨Try.f44, _, Try.func44, rfl, by kernel_rfl, rfl, rfl, by kernel_rfl⟩
theorem ok49 : FnOk Try.prog (49, i49) := ⟨Try.f49, _, Try.func49, rfl, by kernel_rfl, rfl, rfl, by kernel_rfl⟩
theorem ok60 : FnOk Try.prog (60, i60) := ⟨Try.f60, _, Try.func60, rfl, by kernel_rfl, rfl, rfl, by kernel_rfl⟩
theorem ok61 : FnOk Try.prog (61, i61) := ⟨Try.f61, _, Try.func61, rfl, by kernel_rfl, rfl, rfl, by kernel_rfl⟩
theorem ok62 : FnOk Try.prog (62, i62) := ⟨Try.f62, _, Try.func62, rfl, by kernel_rfl, rfl, rfl, by kernel_rfl⟩
theorem tab : TabOk Try.prog T := tabOk_of (by kernel_rfl) (.cons ok6 (.cons ok13 (.cons ok14 (.cons ok15 (.cons ok16 (.cons ok19 (.cons ok20 (.cons ok21 (.cons ok22 (.cons ok23 (.cons ok24 (.cons ok39 (.cons ok40 (.cons ok41 (.cons ok42 (.cons ok43 (.cons ok44 (.cons ok49 (.cons ok60 (.cons ok61 (.cons ok62 (.nil))))))))))))))))))))))
theorem fn6 : T.fn 6 = some i6 := rfl
theorem fn13 : T.fn 13 = some i13 := rfl
theorem fn14 : T.fn 14 = some i14 := rfl
theorem fn15 : T.fn 15 = some i15 := rfl
theorem fn16 : T.fn 16 = some i16 := rfl
theorem fn19 : T.fn 19 = some i19 := rfl
theorem fn20 : T.fn 20 = some i20 := rfl
theorem fn21 : T.fn 21 = some i21 := rfl
theorem fn22 : T.fn 22 = some i22 := rfl
theorem fn23 : T.fn 23 = some i23 := rfl
theorem fn24 : T.fn 24 = some i24 := rfl
theorem fn39 : T.fn 39 = some i39 := rfl
theorem fn40 : T.fn 40 = some i40 := rfl
theorem fn41 : T.fn 41 = some i41 := rfl
theorem fn42 : T.fn 42 = some i42 := rfl
theorem fn43 : T.fn 43 = some i43 := rfl
theorem fn44 : T.fn 44 = some i44 := rfl
theorem fn49 : T.fn 49 = some i49 := rfl
theorem fn60 : T.fn 60 = some i60 := rfl
theorem fn61 : T.fn 61 = some i61 := rfl
theorem fn62 : T.fn 62 = some i62 := rfl
end Go.Pi.Ytcihklkihglmjaa.StepSession
