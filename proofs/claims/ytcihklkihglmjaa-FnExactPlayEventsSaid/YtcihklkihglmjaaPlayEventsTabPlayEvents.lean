/- What functions of the program answer, and that the law answers true at every input; no condition -/
import Derived.Test.YtcihklkihglmjaaProg
import Derived.Test.YtcihklkihglmjaaPiD
import Derived.Test.YtcihklkihglmjaaPiC
set_option linter.all false
/- The program's tables for Pi: types and functions, as they stand in the loaded program, with hints. -/
namespace Go.Pi.Ytcihklkihglmjaa.PlayEvents
open Go Go.Proofs Go.Pi
set_option maxRecDepth 100000

-- loop.example/g00344/laws.szEventS
def r25_0 : List PO := [⟨(some 4), (Op.assign (Operand.const (Value.int IntKind.i64 0))), none⟩]
attribute [go_sem] r25_0
def r25_1 : List PO := [⟨(some 5), (Op.move (Operand.tmp 1)), none⟩,
  ⟨(some 6), (Op.move (Operand.tmp 0)), none⟩,
  ⟨(some 7), (Op.call { callee := (Callee.builtin Builtin.len), args := #[(Operand.tmp 6)], argTypes := #[44] }), none⟩,
  ⟨(some 8), (Op.binOp BinOp.sub 3 (Operand.tmp 5) (Operand.tmp 7) 3), none⟩,
  ⟨(some 1), (Op.assign (Operand.tmp 8)), none⟩]
attribute [go_sem] r25_1
def r25_2 : List PO := [⟨(some 9), (Op.move (Operand.tmp 1)), none⟩,
  ⟨(some 10), (Op.binOp BinOp.lss 3 (Operand.tmp 9) (Operand.const (Value.int IntKind.i64 0)) 3), none⟩]
attribute [go_sem] r25_2
def r25_3 : List PO := [⟨(some 4), (Op.assign (Operand.const (Value.int IntKind.i64 (-1)))), none⟩]
attribute [go_sem] r25_3
def r25_4 : List PO := [⟨(some 11), (Op.move (Operand.tmp 1)), none⟩,
  ⟨(some 4), (Op.assign (Operand.tmp 11)), none⟩]
attribute [go_sem] r25_4
def c25 : PC := (.seq (.reg r25_0) (.seq (.reg r25_1) (.seq (.seq (.reg r25_2) (.cond (Operand.tmp 10) (.seq (.reg r25_3) .ret) .skip)) (.seq (.reg r25_4) .ret))))
def i25 : FnI := ⟨12, [(ResultVar.tmp 4)], c25, 0, [[2], [0]], [[0]], false, false, 0⟩
-- loop.example/g00344/laws.toEvent
def r20_0 : List PO := [⟨(some 1), (Op.box 35 (Operand.tmp 0)), none⟩,
  ⟨(some 2), (Op.alloc 39), none⟩]
attribute [go_sem] r20_0
def r20_1 : List PO := [⟨(some 3), (Op.alloc 39), none⟩]
attribute [go_sem] r20_1
def r20_2 : List PO := [⟨(some 4), (Op.fieldAddr 35 (Operand.tmp 1) 0), none⟩,
  ⟨(some 5), (Op.load 3 (Operand.tmp 4)), none⟩,
  ⟨(some 6), (Op.fieldAddr 39 (Operand.tmp 3) 0), none⟩,
  ⟨none, (Op.store 3 (Operand.tmp 6) (Operand.tmp 5)), none⟩]
attribute [go_sem] r20_2
def r20_3 : List PO := [⟨(some 7), (Op.fieldAddr 35 (Operand.tmp 1) 1), none⟩,
  ⟨(some 8), (Op.load 3 (Operand.tmp 7)), none⟩,
  ⟨(some 9), (Op.fieldAddr 39 (Operand.tmp 3) 1), none⟩,
  ⟨none, (Op.store 3 (Operand.tmp 9) (Operand.tmp 8)), none⟩]
attribute [go_sem] r20_3
def r20_4 : List PO := [⟨(some 10), (Op.load 39 (Operand.tmp 3)), none⟩,
  ⟨none, (Op.store 39 (Operand.tmp 2) (Operand.tmp 10)), none⟩]
attribute [go_sem] r20_4
def c20 : PC := (.seq (.reg r20_0) (.seq (.reg r20_1) (.seq (.reg r20_2) (.seq (.reg r20_3) (.seq (.reg r20_4) .ret)))))
def i20 : FnI := ⟨11, [(ResultVar.cell 2 39)], c20, 0, [[0, 0]], [[0, 0]], false, false, 0⟩
-- loop.example/g00344/laws.toEventS
def r27_3 : List PO := [⟨(some 8), (Op.move (Operand.tmp 4)), none⟩,
  ⟨(some 9), (Op.move (Operand.tmp 0)), none⟩,
  ⟨(some 10), (Op.call { callee := (Callee.builtin Builtin.len), args := #[(Operand.tmp 9)], argTypes := #[44] }), none⟩,
  ⟨(some 11), (Op.binOp BinOp.lss 3 (Operand.tmp 8) (Operand.tmp 10) 3), none⟩]
attribute [go_sem] r27_3
def r27_5 : List PO := [⟨(some 14), (Op.move (Operand.tmp 3)), none⟩,
  ⟨(some 15), (Op.move (Operand.tmp 4)), none⟩,
  ⟨(some 16), (Op.move (Operand.tmp 0)), none⟩,
  ⟨(some 17), (Op.move (Operand.tmp 4)), none⟩,
  ⟨(some 18), (Op.indexAddr 44 (Operand.tmp 16) (Operand.tmp 17)), none⟩,
  ⟨(some 19), (Op.load 35 (Operand.tmp 18)), none⟩,
  ⟨(some 20), (Op.call { callee := (Callee.value (Operand.func 20)), args := #[(Operand.tmp 19)], argTypes := #[35] }), none⟩,
  ⟨(some 21), (Op.indexAddr 47 (Operand.tmp 14) (Operand.tmp 15)), none⟩,
  ⟨none, (Op.store 39 (Operand.tmp 21) (Operand.tmp 20)), none⟩]
attribute [go_sem] r27_5
def r27_4 : List PO := [⟨(some 12), (Op.move (Operand.tmp 4)), none⟩,
  ⟨(some 13), (Op.binOp BinOp.add 3 (Operand.tmp 12) (Operand.const (Value.int IntKind.i64 1)) 3), none⟩,
  ⟨(some 4), (Op.assign (Operand.tmp 13)), none⟩]
attribute [go_sem] r27_4
def k27_1b : PC := (.seq (.seq (.reg r27_3) (.cond (Operand.tmp 11) .skip (.pre ⟨[3], [.old 0]⟩ (.exit 0)))) (.seq (.block 1 (.reg r27_5)) (.post (.reg r27_4) ⟨[0, 3, 4], [.old 0]⟩)))
def r27_0 : List PO := [⟨(some 2), (Op.assign (Operand.const (Value.slice none 0 0))), none⟩]
attribute [go_sem] r27_0
def r27_1 : List PO := [⟨(some 5), (Op.move (Operand.tmp 0)), none⟩,
  ⟨(some 6), (Op.call { callee := (Callee.builtin Builtin.len), args := #[(Operand.tmp 5)], argTypes := #[44] }), none⟩,
  ⟨(some 7), (Op.makeSlice 47 (Operand.tmp 6) (Operand.tmp 6)), none⟩,
  ⟨(some 3), (Op.assign (Operand.tmp 7)), none⟩]
attribute [go_sem] r27_1
def r27_2 : List PO := [⟨(some 4), (Op.assign (Operand.const (Value.int IntKind.i64 0))), none⟩]
attribute [go_sem] r27_2
def r27_6 : List PO := [⟨(some 22), (Op.move (Operand.tmp 3)), none⟩,
  ⟨(some 2), (Op.assign (Operand.tmp 22)), none⟩]
attribute [go_sem] r27_6
def c27 : PC := (.seq (.reg r27_0) (.seq (.reg r27_1) (.seq (.seq (.reg r27_2) (.block 0 (.pre ⟨[0, 3, 4], [.old 0]⟩ (.loop k27_1b)))) (.seq (.reg r27_6) .ret))))
def i27 : FnI := ⟨23, [(ResultVar.tmp 2)], c27, 0, [[2]], [[2]], false, false, 0⟩
-- loop.example/g00344/spec.l1In
def r39_1 : List PO := [⟨(some 7), (Op.move (Operand.tmp 0)), none⟩,
  ⟨(some 8), (Op.move (Operand.tmp 1)), none⟩,
  ⟨(some 9), (Op.binOp BinOp.geq 3 (Operand.tmp 7) (Operand.tmp 8) 3), none⟩,
  ⟨(some 10), (Op.move (Operand.tmp 9)), none⟩,
  ⟨(some 11), (Op.move (Operand.tmp 0)), (some (10, true))⟩,
  ⟨(some 12), (Op.move (Operand.tmp 2)), (some (10, true))⟩,
  ⟨(some 13), (Op.binOp BinOp.leq 3 (Operand.tmp 11) (Operand.tmp 12) 3), (some (10, true))⟩,
  ⟨(some 14), (Op.pick (Operand.tmp 10) (Operand.tmp 13) (Operand.const (Value.bool false))), none⟩,
  ⟨(some 6), (Op.assign (Operand.tmp 14)), none⟩]
attribute [go_sem] r39_1
def k39_1 : PC := (.post (.reg r39_1) ⟨[6], []⟩)
def r39_0 : List PO := [⟨(some 6), (Op.assign (Operand.const (Value.bool false))), none⟩]
attribute [go_sem] r39_0
def c39 : PC := (.seq (.reg r39_0) (.seq (.pre ⟨[0, 1, 2], []⟩ k39_1) .ret))
def i39 : FnI := ⟨15, [(ResultVar.tmp 6)], c39, 0, [[0], [0], [0]], [[0]], false, false, 0⟩
-- loop.example/g00344/spec.NewSession
def r11_0 : List PO := [⟨(some 2), (Op.alloc 23), none⟩,
  ⟨(some 3), (Op.assign (Operand.const (Value.bool false))), none⟩]
attribute [go_sem] r11_0
def r11_1 : List PO := [⟨(some 4), (Op.move (Operand.tmp 0)), none⟩,
  ⟨(some 5), (Op.call { callee := (Callee.value (Operand.func 39)), args := #[(Operand.tmp 4), (Operand.const (Value.int IntKind.i64 3)), (Operand.const (Value.int IntKind.i64 90))], argTypes := #[3, 3, 3] }), none⟩,
  ⟨(some 6), (Op.unOp UnOp.not 4 (Operand.tmp 5)), none⟩]
attribute [go_sem] r11_1
def r11_2 : List PO := [⟨(some 7), (Op.build 23 #[]), none⟩,
  ⟨none, (Op.store 23 (Operand.tmp 2) (Operand.tmp 7)), none⟩,
  ⟨(some 3), (Op.assign (Operand.const (Value.bool false))), none⟩]
attribute [go_sem] r11_2
def r11_3 : List PO := [⟨(some 8), (Op.move (Operand.tmp 0)), none⟩,
  ⟨(some 9), (Op.build 23 #[(1, (Operand.tmp 8))]), none⟩,
  ⟨none, (Op.store 23 (Operand.tmp 2) (Operand.tmp 9)), none⟩,
  ⟨(some 3), (Op.assign (Operand.const (Value.bool true))), none⟩]
attribute [go_sem] r11_3
def c11 : PC := (.seq (.reg r11_0) (.seq (.seq (.reg r11_1) (.cond (Operand.tmp 6) (.seq (.reg r11_2) .ret) .skip)) (.seq (.reg r11_3) .ret)))
def i11 : FnI := ⟨10, [(ResultVar.cell 2 23), (ResultVar.tmp 3)], c11, 0, [[0]], [[0, 0, 0, 0, 0], [0]], false, false, 0⟩
-- loop.example/g00344/spec.l12Event
def r41_3 : List PO := [⟨(some 9), (Op.fieldAddr 39 (Operand.tmp 1) 0), none⟩,
  ⟨(some 10), (Op.load 3 (Operand.tmp 9)), none⟩,
  ⟨(some 11), (Op.call { callee := (Callee.value (Operand.func 39)), args := #[(Operand.tmp 10), (Operand.const (Value.int IntKind.i64 1)), (Operand.const (Value.int IntKind.i64 10))], argTypes := #[3, 3, 3] }), none⟩,
  ⟨(some 12), (Op.move (Operand.tmp 11)), none⟩,
  ⟨(some 13), (Op.fieldAddr 39 (Operand.tmp 1) 1), (some (12, true))⟩,
  ⟨(some 14), (Op.load 3 (Operand.tmp 13)), (some (12, true))⟩,
  ⟨(some 15), (Op.binOp BinOp.eql 3 (Operand.tmp 14) (Operand.const (Value.int IntKind.i64 0)) 3), (some (12, true))⟩,
  ⟨(some 16), (Op.pick (Operand.tmp 12) (Operand.tmp 15) (Operand.const (Value.bool false))), none⟩,
  ⟨(some 2), (Op.assign (Operand.tmp 16)), none⟩]
attribute [go_sem] r41_3
def k41_1 : PC := (.post (.reg r41_3) ⟨[2], []⟩)
def r41_0 : List PO := [⟨(some 1), (Op.box 39 (Operand.tmp 0)), none⟩,
  ⟨(some 2), (Op.assign (Operand.const (Value.bool false))), none⟩]
attribute [go_sem] r41_0
def r41_1 : List PO := [⟨(some 3), (Op.fieldAddr 39 (Operand.tmp 1) 0), none⟩,
  ⟨(some 4), (Op.load 3 (Operand.tmp 3)), none⟩,
  ⟨(some 5), (Op.binOp BinOp.eql 3 (Operand.tmp 4) (Operand.const (Value.int IntKind.i64 5)) 3), none⟩]
attribute [go_sem] r41_1
def r41_2 : List PO := [⟨(some 6), (Op.fieldAddr 39 (Operand.tmp 1) 1), none⟩,
  ⟨(some 7), (Op.load 3 (Operand.tmp 6)), none⟩,
  ⟨(some 8), (Op.call { callee := (Callee.value (Operand.func 39)), args := #[(Operand.tmp 7), (Operand.const (Value.int IntKind.i64 0)), (Operand.const (Value.int IntKind.i64 100))], argTypes := #[3, 3, 3] }), none⟩,
  ⟨(some 2), (Op.assign (Operand.tmp 8)), none⟩]
attribute [go_sem] r41_2
def c41 : PC := (.seq (.reg r41_0) (.seq (.seq (.reg r41_1) (.cond (Operand.tmp 5) (.seq (.reg r41_2) .ret) .skip)) (.seq (.pre ⟨[1], [.old 0]⟩ k41_1) .ret)))
def i41 : FnI := ⟨17, [(ResultVar.tmp 2)], c41, 0, [[0, 0]], [[0]], false, false, 0⟩
-- loop.example/g00344/spec.l12To
def r60_0 : List PO := [⟨(some 2), (Op.box 23 (Operand.tmp 0)), none⟩,
  ⟨(some 4), (Op.alloc 23), none⟩]
attribute [go_sem] r60_0
def r60_1 : List PO := [⟨(some 5), (Op.move (Operand.tmp 1)), none⟩,
  ⟨(some 6), (Op.fieldAddr 23 (Operand.tmp 2) 0), none⟩,
  ⟨none, (Op.store 3 (Operand.tmp 6) (Operand.tmp 5)), none⟩]
attribute [go_sem] r60_1
def r60_2 : List PO := [⟨(some 7), (Op.fieldAddr 23 (Operand.tmp 2) 2), none⟩,
  ⟨none, (Op.store 3 (Operand.tmp 7) (Operand.const (Value.int IntKind.i64 0))), none⟩]
attribute [go_sem] r60_2
def r60_3 : List PO := [⟨(some 8), (Op.fieldAddr 23 (Operand.tmp 2) 3), none⟩,
  ⟨none, (Op.store 3 (Operand.tmp 8) (Operand.const (Value.int IntKind.i64 0))), none⟩]
attribute [go_sem] r60_3
def r60_4 : List PO := [⟨(some 9), (Op.load 23 (Operand.tmp 2)), none⟩,
  ⟨none, (Op.store 23 (Operand.tmp 4) (Operand.tmp 9)), none⟩]
attribute [go_sem] r60_4
def c60 : PC := (.seq (.reg r60_0) (.seq (.reg r60_1) (.seq (.reg r60_2) (.seq (.reg r60_3) (.seq (.reg r60_4) .ret)))))
def i60 : FnI := ⟨10, [(ResultVar.cell 4 23)], c60, 0, [[0, 0, 0, 0, 0], [0]], [[0, 0, 0, 0, 0]], false, false, 0⟩
-- loop.example/g00344/spec.l12Tick
def r49_0 : List PO := [⟨(some 1), (Op.box 23 (Operand.tmp 0)), none⟩,
  ⟨(some 2), (Op.alloc 23), none⟩,
  ⟨(some 3), (Op.assign (Operand.const (Value.slice none 0 0))), none⟩]
attribute [go_sem] r49_0
def r49_1 : List PO := [⟨(some 4), (Op.fieldAddr 23 (Operand.tmp 1) 0), none⟩,
  ⟨(some 5), (Op.load 3 (Operand.tmp 4)), none⟩,
  ⟨(some 6), (Op.binOp BinOp.lss 3 (Operand.tmp 5) (Operand.const (Value.int IntKind.i64 2)) 3), none⟩]
attribute [go_sem] r49_1
def r49_2 : List PO := [⟨(some 7), (Op.load 23 (Operand.tmp 1)), none⟩,
  ⟨none, (Op.store 23 (Operand.tmp 2) (Operand.tmp 7)), none⟩,
  ⟨(some 3), (Op.assign (Operand.const (Value.slice none 0 0))), none⟩]
attribute [go_sem] r49_2
def r49_3 : List PO := [⟨(some 8), (Op.fieldAddr 23 (Operand.tmp 1) 2), none⟩,
  ⟨(some 9), (Op.load 3 (Operand.tmp 8)), none⟩,
  ⟨(some 10), (Op.binOp BinOp.sub 3 (Operand.tmp 9) (Operand.const (Value.int IntKind.i64 1)) 3), none⟩,
  ⟨(some 11), (Op.fieldAddr 23 (Operand.tmp 1) 2), none⟩,
  ⟨none, (Op.store 3 (Operand.tmp 11) (Operand.tmp 10)), none⟩]
attribute [go_sem] r49_3
def r49_4 : List PO := [⟨(some 12), (Op.fieldAddr 23 (Operand.tmp 1) 2), none⟩,
  ⟨(some 13), (Op.load 3 (Operand.tmp 12)), none⟩,
  ⟨(some 14), (Op.binOp BinOp.eql 3 (Operand.tmp 13) (Operand.const (Value.int IntKind.i64 0)) 3), none⟩]
attribute [go_sem] r49_4
def r49_5 : List PO := [⟨(some 15), (Op.load 23 (Operand.tmp 1)), none⟩,
  ⟨(some 16), (Op.call { callee := (Callee.value (Operand.func 60)), args := #[(Operand.tmp 15), (Operand.const (Value.int IntKind.i64 0))], argTypes := #[23, 3] }), none⟩,
  ⟨(some 17), (Op.buildSlice 36 1 #[(0, (Operand.const (Value.int IntKind.i64 3)))]), none⟩,
  ⟨none, (Op.store 23 (Operand.tmp 2) (Operand.tmp 16)), none⟩,
  ⟨(some 3), (Op.assign (Operand.tmp 17)), none⟩]
attribute [go_sem] r49_5
def r49_6 : List PO := [⟨(some 18), (Op.fieldAddr 23 (Operand.tmp 1) 0), none⟩,
  ⟨(some 19), (Op.load 3 (Operand.tmp 18)), none⟩,
  ⟨(some 20), (Op.binOp BinOp.eql 3 (Operand.tmp 19) (Operand.const (Value.int IntKind.i64 2)) 3), none⟩]
attribute [go_sem] r49_6
def r49_7 : List PO := [⟨(some 21), (Op.load 23 (Operand.tmp 1)), none⟩,
  ⟨none, (Op.store 23 (Operand.tmp 2) (Operand.tmp 21)), none⟩,
  ⟨(some 3), (Op.assign (Operand.const (Value.slice none 0 0))), none⟩]
attribute [go_sem] r49_7
def r49_8 : List PO := [⟨(some 22), (Op.fieldAddr 23 (Operand.tmp 1) 3), none⟩,
  ⟨(some 23), (Op.load 3 (Operand.tmp 22)), none⟩,
  ⟨(some 24), (Op.binOp BinOp.sub 3 (Operand.tmp 23) (Operand.const (Value.int IntKind.i64 1)) 3), none⟩,
  ⟨(some 25), (Op.fieldAddr 23 (Operand.tmp 1) 3), none⟩,
  ⟨none, (Op.store 3 (Operand.tmp 25) (Operand.tmp 24)), none⟩]
attribute [go_sem] r49_8
def r49_9 : List PO := [⟨(some 26), (Op.fieldAddr 23 (Operand.tmp 1) 3), none⟩,
  ⟨(some 27), (Op.load 3 (Operand.tmp 26)), none⟩,
  ⟨(some 28), (Op.binOp BinOp.eql 3 (Operand.tmp 27) (Operand.const (Value.int IntKind.i64 0)) 3), none⟩]
attribute [go_sem] r49_9
def r49_10 : List PO := [⟨(some 29), (Op.fieldAddr 23 (Operand.tmp 1) 1), none⟩,
  ⟨(some 30), (Op.load 3 (Operand.tmp 29)), none⟩,
  ⟨(some 31), (Op.binOp BinOp.quo 3 (Operand.tmp 30) (Operand.const (Value.int IntKind.i64 3)) 3), none⟩,
  ⟨(some 32), (Op.fieldAddr 23 (Operand.tmp 1) 3), none⟩,
  ⟨none, (Op.store 3 (Operand.tmp 32) (Operand.tmp 31)), none⟩]
attribute [go_sem] r49_10
def r49_11 : List PO := [⟨(some 33), (Op.load 23 (Operand.tmp 1)), none⟩,
  ⟨(some 34), (Op.buildSlice 36 1 #[(0, (Operand.const (Value.int IntKind.i64 4)))]), none⟩,
  ⟨none, (Op.store 23 (Operand.tmp 2) (Operand.tmp 33)), none⟩,
  ⟨(some 3), (Op.assign (Operand.tmp 34)), none⟩]
attribute [go_sem] r49_11
def r49_12 : List PO := [⟨(some 35), (Op.load 23 (Operand.tmp 1)), none⟩,
  ⟨none, (Op.store 23 (Operand.tmp 2) (Operand.tmp 35)), none⟩,
  ⟨(some 3), (Op.assign (Operand.const (Value.slice none 0 0))), none⟩]
attribute [go_sem] r49_12
def c49 : PC := (.seq (.reg r49_0) (.seq (.seq (.reg r49_1) (.cond (Operand.tmp 6) (.seq (.reg r49_2) .ret) .skip)) (.seq (.reg r49_3) (.seq (.seq (.reg r49_4) (.cond (Operand.tmp 14) (.seq (.reg r49_5) .ret) .skip)) (.seq (.seq (.reg r49_6) (.cond (Operand.tmp 20) (.seq (.reg r49_7) .ret) .skip)) (.seq (.reg r49_8) (.seq (.seq (.reg r49_9) (.cond (Operand.tmp 28) (.seq (.reg r49_10) (.seq (.reg r49_11) .ret)) .skip)) (.seq (.reg r49_12) .ret))))))))
def i49 : FnI := ⟨36, [(ResultVar.cell 2 23), (ResultVar.tmp 3)], c49, 0, [[0, 0, 0, 0, 0]], [[0, 0, 0, 0, 0], [1]], false, false, 0⟩
-- loop.example/g00344/spec.l12Step
def r42_4 : List PO := [⟨(some 19), (Op.fieldAddr 39 (Operand.tmp 3) 0), none⟩,
  ⟨(some 20), (Op.load 3 (Operand.tmp 19)), none⟩,
  ⟨(some 21), (Op.binOp BinOp.eql 3 (Operand.tmp 20) (Operand.const (Value.int IntKind.i64 1)) 3), none⟩,
  ⟨(some 22), (Op.move (Operand.tmp 21)), none⟩,
  ⟨(some 23), (Op.fieldAddr 23 (Operand.tmp 2) 0), (some (22, true))⟩,
  ⟨(some 24), (Op.load 3 (Operand.tmp 23)), (some (22, true))⟩,
  ⟨(some 25), (Op.binOp BinOp.eql 3 (Operand.tmp 24) (Operand.const (Value.int IntKind.i64 0)) 3), (some (22, true))⟩,
  ⟨(some 26), (Op.pick (Operand.tmp 22) (Operand.tmp 25) (Operand.const (Value.bool false))), none⟩,
  ⟨(some 18), (Op.assign (Operand.tmp 26)), none⟩]
attribute [go_sem] r42_4
def k42_1 : PC := (.post (.reg r42_4) ⟨[2, 3, 4, 6, 18], [.old 0, .old 1, .old 2]⟩)
def r42_6 : List PO := [⟨(some 30), (Op.fieldAddr 39 (Operand.tmp 3) 0), none⟩,
  ⟨(some 31), (Op.load 3 (Operand.tmp 30)), none⟩,
  ⟨(some 32), (Op.binOp BinOp.eql 3 (Operand.tmp 31) (Operand.const (Value.int IntKind.i64 3)) 3), none⟩,
  ⟨(some 33), (Op.move (Operand.tmp 32)), none⟩,
  ⟨(some 34), (Op.fieldAddr 23 (Operand.tmp 2) 0), (some (33, true))⟩,
  ⟨(some 35), (Op.load 3 (Operand.tmp 34)), (some (33, true))⟩,
  ⟨(some 36), (Op.binOp BinOp.eql 3 (Operand.tmp 35) (Operand.const (Value.int IntKind.i64 1)) 3), (some (33, true))⟩,
  ⟨(some 37), (Op.pick (Operand.tmp 33) (Operand.tmp 36) (Operand.const (Value.bool false))), none⟩,
  ⟨(some 29), (Op.assign (Operand.tmp 37)), none⟩]
attribute [go_sem] r42_6
def k42_2 : PC := (.post (.reg r42_6) ⟨[2, 3, 4, 6, 29], [.old 0, .old 1, .old 2]⟩)
def r42_10 : List PO := [⟨(some 44), (Op.fieldAddr 39 (Operand.tmp 3) 0), none⟩,
  ⟨(some 45), (Op.load 3 (Operand.tmp 44)), none⟩,
  ⟨(some 46), (Op.binOp BinOp.eql 3 (Operand.tmp 45) (Operand.const (Value.int IntKind.i64 4)) 3), none⟩,
  ⟨(some 47), (Op.move (Operand.tmp 46)), none⟩,
  ⟨(some 48), (Op.move (Operand.tmp 6)), (some (47, true))⟩,
  ⟨(some 49), (Op.pick (Operand.tmp 47) (Operand.tmp 48) (Operand.const (Value.bool false))), none⟩,
  ⟨(some 43), (Op.assign (Operand.tmp 49)), none⟩]
attribute [go_sem] r42_10
def k42_3 : PC := (.post (.reg r42_10) ⟨[2, 3, 4, 6, 43], [.old 0, .old 1, .old 2]⟩)
def r42_12 : List PO := [⟨(some 53), (Op.fieldAddr 39 (Operand.tmp 3) 0), none⟩,
  ⟨(some 54), (Op.load 3 (Operand.tmp 53)), none⟩,
  ⟨(some 55), (Op.binOp BinOp.eql 3 (Operand.tmp 54) (Operand.const (Value.int IntKind.i64 9)) 3), none⟩,
  ⟨(some 56), (Op.move (Operand.tmp 55)), none⟩,
  ⟨(some 57), (Op.move (Operand.tmp 6)), (some (56, true))⟩,
  ⟨(some 58), (Op.pick (Operand.tmp 56) (Operand.tmp 57) (Operand.const (Value.bool false))), none⟩,
  ⟨(some 52), (Op.assign (Operand.tmp 58)), none⟩]
attribute [go_sem] r42_12
def k42_4 : PC := (.post (.reg r42_12) ⟨[2, 3, 4, 6, 52], [.old 0, .old 1, .old 2]⟩)
def r42_14 : List PO := [⟨(some 62), (Op.fieldAddr 39 (Operand.tmp 3) 0), none⟩,
  ⟨(some 63), (Op.load 3 (Operand.tmp 62)), none⟩,
  ⟨(some 64), (Op.binOp BinOp.eql 3 (Operand.tmp 63) (Operand.const (Value.int IntKind.i64 2)) 3), none⟩,
  ⟨(some 65), (Op.move (Operand.tmp 64)), none⟩,
  ⟨(some 66), (Op.move (Operand.tmp 6)), (some (65, true))⟩,
  ⟨(some 67), (Op.unOp UnOp.not 4 (Operand.tmp 66)), (some (65, true))⟩,
  ⟨(some 68), (Op.pick (Operand.tmp 65) (Operand.tmp 67) (Operand.const (Value.bool false))), none⟩,
  ⟨(some 61), (Op.assign (Operand.tmp 68)), none⟩]
attribute [go_sem] r42_14
def k42_5 : PC := (.post (.reg r42_14) ⟨[2, 3, 4, 6, 61], [.old 0, .old 1, .old 2]⟩)
def r42_18 : List PO := [⟨(some 76), (Op.fieldAddr 39 (Operand.tmp 3) 0), none⟩,
  ⟨(some 77), (Op.load 3 (Operand.tmp 76)), none⟩,
  ⟨(some 78), (Op.binOp BinOp.eql 3 (Operand.tmp 77) (Operand.const (Value.int IntKind.i64 5)) 3), none⟩,
  ⟨(some 79), (Op.move (Operand.tmp 78)), none⟩,
  ⟨(some 80), (Op.fieldAddr 23 (Operand.tmp 2) 0), (some (79, true))⟩,
  ⟨(some 81), (Op.load 3 (Operand.tmp 80)), (some (79, true))⟩,
  ⟨(some 82), (Op.binOp BinOp.eql 3 (Operand.tmp 81) (Operand.const (Value.int IntKind.i64 2)) 3), (some (79, true))⟩,
  ⟨(some 83), (Op.pick (Operand.tmp 79) (Operand.tmp 82) (Operand.const (Value.bool false))), none⟩,
  ⟨(some 84), (Op.move (Operand.tmp 83)), none⟩,
  ⟨(some 85), (Op.fieldAddr 39 (Operand.tmp 3) 1), (some (84, true))⟩,
  ⟨(some 86), (Op.load 3 (Operand.tmp 85)), (some (84, true))⟩,
  ⟨(some 87), (Op.binOp BinOp.geq 3 (Operand.tmp 86) (Operand.const (Value.int IntKind.i64 3)) 3), (some (84, true))⟩,
  ⟨(some 88), (Op.pick (Operand.tmp 84) (Operand.tmp 87) (Operand.const (Value.bool false))), none⟩,
  ⟨(some 75), (Op.assign (Operand.tmp 88)), none⟩]
attribute [go_sem] r42_18
def k42_6 : PC := (.post (.reg r42_18) ⟨[2, 3, 4, 75], [.old 0, .old 1, .old 2]⟩)
def r42_21 : List PO := [⟨(some 95), (Op.fieldAddr 39 (Operand.tmp 3) 1), none⟩,
  ⟨(some 96), (Op.load 3 (Operand.tmp 95)), none⟩,
  ⟨(some 97), (Op.fieldAddr 23 (Operand.tmp 2) 1), none⟩,
  ⟨none, (Op.store 3 (Operand.tmp 97) (Operand.tmp 96)), none⟩]
attribute [go_sem] r42_21
def k42_7 : PC := (.cond (Operand.tmp 94) (.post (.reg r42_21) ⟨[2, 4], [.old 0, .old 2]⟩) (.post .skip ⟨[2, 4], [.old 0, .old 2]⟩))
def r42_25 : List PO := [⟨(some 108), (Op.fieldAddr 39 (Operand.tmp 3) 0), none⟩,
  ⟨(some 109), (Op.load 3 (Operand.tmp 108)), none⟩,
  ⟨(some 110), (Op.binOp BinOp.eql 3 (Operand.tmp 109) (Operand.const (Value.int IntKind.i64 7)) 3), none⟩,
  ⟨(some 111), (Op.move (Operand.tmp 110)), none⟩,
  ⟨(some 112), (Op.fieldAddr 23 (Operand.tmp 2) 0), (some (111, true))⟩,
  ⟨(some 113), (Op.load 3 (Operand.tmp 112)), (some (111, true))⟩,
  ⟨(some 114), (Op.binOp BinOp.geq 3 (Operand.tmp 113) (Operand.const (Value.int IntKind.i64 3)) 3), (some (111, true))⟩,
  ⟨(some 115), (Op.pick (Operand.tmp 111) (Operand.tmp 114) (Operand.const (Value.bool false))), none⟩,
  ⟨(some 107), (Op.assign (Operand.tmp 115)), none⟩]
attribute [go_sem] r42_25
def k42_8 : PC := (.post (.reg r42_25) ⟨[2, 3, 4, 107], [.old 0, .old 1, .old 2]⟩)
def r42_26 : List PO := [⟨(some 116), (Op.fieldAddr 39 (Operand.tmp 3) 0), none⟩,
  ⟨(some 117), (Op.load 3 (Operand.tmp 116)), none⟩,
  ⟨(some 118), (Op.binOp BinOp.eql 3 (Operand.tmp 117) (Operand.const (Value.int IntKind.i64 8)) 3), none⟩,
  ⟨(some 119), (Op.move (Operand.tmp 118)), none⟩,
  ⟨(some 120), (Op.fieldAddr 23 (Operand.tmp 2) 0), (some (119, true))⟩,
  ⟨(some 121), (Op.load 3 (Operand.tmp 120)), (some (119, true))⟩,
  ⟨(some 122), (Op.binOp BinOp.eql 3 (Operand.tmp 121) (Operand.const (Value.int IntKind.i64 4)) 3), (some (119, true))⟩,
  ⟨(some 123), (Op.pick (Operand.tmp 119) (Operand.tmp 122) (Operand.const (Value.bool false))), none⟩,
  ⟨(some 107), (Op.assign (Operand.tmp 123)), none⟩]
attribute [go_sem] r42_26
def k42_10 : PC := (.post (.reg r42_26) ⟨[2, 4, 107], [.old 0, .old 2]⟩)
def k42_9 : PC := (.cond (Operand.tmp 107) (.post .skip ⟨[2, 4, 107], [.old 0, .old 2]⟩) (.post (.pre ⟨[2, 3, 4], [.old 0, .old 1, .old 2]⟩ k42_10) ⟨[2, 4, 107], [.old 0, .old 1]⟩))
def r42_27 : List PO := [⟨(some 124), (Op.fieldAddr 23 (Operand.tmp 2) 0), none⟩,
  ⟨(some 125), (Op.load 3 (Operand.tmp 124)), none⟩,
  ⟨(some 126), (Op.binOp BinOp.eql 3 (Operand.tmp 125) (Operand.const (Value.int IntKind.i64 3)) 3), none⟩,
  ⟨(some 127), (Op.move (Operand.tmp 126)), none⟩,
  ⟨(some 128), (Op.fieldAddr 23 (Operand.tmp 2) 4), (some (127, true))⟩,
  ⟨(some 129), (Op.load 3 (Operand.tmp 128)), (some (127, true))⟩,
  ⟨(some 130), (Op.binOp BinOp.lss 3 (Operand.tmp 129) (Operand.const (Value.int IntKind.i64 1000)) 3), (some (127, true))⟩,
  ⟨(some 131), (Op.pick (Operand.tmp 127) (Operand.tmp 130) (Operand.const (Value.bool false))), none⟩]
attribute [go_sem] r42_27
def k42_11 : PC := (.post (.reg r42_27) ⟨[2, 4, 131], [.old 0, .old 1]⟩)
def r42_28 : List PO := [⟨(some 132), (Op.fieldAddr 23 (Operand.tmp 2) 4), none⟩,
  ⟨(some 133), (Op.load 3 (Operand.tmp 132)), none⟩,
  ⟨(some 134), (Op.binOp BinOp.add 3 (Operand.tmp 133) (Operand.const (Value.int IntKind.i64 1)) 3), none⟩,
  ⟨(some 135), (Op.fieldAddr 23 (Operand.tmp 2) 4), none⟩,
  ⟨none, (Op.store 3 (Operand.tmp 135) (Operand.tmp 134)), none⟩]
attribute [go_sem] r42_28
def k42_12 : PC := (.cond (Operand.tmp 131) (.post (.reg r42_28) ⟨[2, 4], [.old 0, .old 1]⟩) (.post .skip ⟨[2, 4], [.old 0, .old 1]⟩))
def r42_0 : List PO := [⟨(some 2), (Op.box 23 (Operand.tmp 0)), none⟩,
  ⟨(some 3), (Op.box 39 (Operand.tmp 1)), none⟩,
  ⟨(some 4), (Op.alloc 23), none⟩,
  ⟨(some 5), (Op.assign (Operand.const (Value.slice none 0 0))), none⟩]
attribute [go_sem] r42_0
def r42_1 : List PO := [⟨(some 7), (Op.fieldAddr 23 (Operand.tmp 2) 0), none⟩,
  ⟨(some 8), (Op.load 3 (Operand.tmp 7)), none⟩,
  ⟨(some 9), (Op.binOp BinOp.geq 3 (Operand.tmp 8) (Operand.const (Value.int IntKind.i64 2)) 3), none⟩,
  ⟨(some 6), (Op.assign (Operand.tmp 9)), none⟩]
attribute [go_sem] r42_1
def r42_2 : List PO := [⟨(some 11), (Op.fieldAddr 39 (Operand.tmp 3) 0), none⟩,
  ⟨(some 12), (Op.load 3 (Operand.tmp 11)), none⟩,
  ⟨(some 13), (Op.binOp BinOp.eql 3 (Operand.tmp 12) (Operand.const (Value.int IntKind.i64 10)) 3), none⟩,
  ⟨(some 10), (Op.assign (Operand.tmp 13)), none⟩]
attribute [go_sem] r42_2
def r42_3 : List PO := [⟨(some 14), (Op.load 23 (Operand.tmp 2)), none⟩,
  ⟨(some 15), (Op.call { callee := (Callee.value (Operand.func 49)), args := #[(Operand.tmp 14)], argTypes := #[23] }), none⟩,
  ⟨(some 16), (Op.extract (Operand.tmp 15) 0), none⟩,
  ⟨(some 17), (Op.extract (Operand.tmp 15) 1), none⟩,
  ⟨none, (Op.store 23 (Operand.tmp 4) (Operand.tmp 16)), none⟩,
  ⟨(some 5), (Op.assign (Operand.tmp 17)), none⟩]
attribute [go_sem] r42_3
def r42_5 : List PO := [⟨(some 27), (Op.load 23 (Operand.tmp 2)), none⟩,
  ⟨(some 28), (Op.call { callee := (Callee.value (Operand.func 60)), args := #[(Operand.tmp 27), (Operand.const (Value.int IntKind.i64 1))], argTypes := #[23, 3] }), none⟩,
  ⟨none, (Op.store 23 (Operand.tmp 4) (Operand.tmp 28)), none⟩,
  ⟨(some 5), (Op.assign (Operand.const (Value.slice none 0 0))), none⟩]
attribute [go_sem] r42_5
def r42_7 : List PO := [⟨(some 38), (Op.load 23 (Operand.tmp 2)), none⟩,
  ⟨(some 39), (Op.call { callee := (Callee.value (Operand.func 60)), args := #[(Operand.tmp 38), (Operand.const (Value.int IntKind.i64 2))], argTypes := #[23, 3] }), none⟩,
  ⟨none, (Op.store 23 (Operand.tmp 2) (Operand.tmp 39)), none⟩]
attribute [go_sem] r42_7
def r42_8 : List PO := [⟨(some 40), (Op.fieldAddr 23 (Operand.tmp 2) 2), none⟩,
  ⟨none, (Op.store 3 (Operand.tmp 40) (Operand.const (Value.int IntKind.i64 90))), none⟩]
attribute [go_sem] r42_8
def r42_9 : List PO := [⟨(some 41), (Op.load 23 (Operand.tmp 2)), none⟩,
  ⟨(some 42), (Op.buildSlice 36 1 #[(0, (Operand.const (Value.int IntKind.i64 1)))]), none⟩,
  ⟨none, (Op.store 23 (Operand.tmp 4) (Operand.tmp 41)), none⟩,
  ⟨(some 5), (Op.assign (Operand.tmp 42)), none⟩]
attribute [go_sem] r42_9
def r42_11 : List PO := [⟨(some 50), (Op.load 23 (Operand.tmp 2)), none⟩,
  ⟨(some 51), (Op.call { callee := (Callee.value (Operand.func 60)), args := #[(Operand.tmp 50), (Operand.const (Value.int IntKind.i64 1))], argTypes := #[23, 3] }), none⟩,
  ⟨none, (Op.store 23 (Operand.tmp 4) (Operand.tmp 51)), none⟩,
  ⟨(some 5), (Op.assign (Operand.const (Value.slice none 0 0))), none⟩]
attribute [go_sem] r42_11
def r42_13 : List PO := [⟨(some 59), (Op.load 23 (Operand.tmp 2)), none⟩,
  ⟨(some 60), (Op.call { callee := (Callee.value (Operand.func 60)), args := #[(Operand.tmp 59), (Operand.const (Value.int IntKind.i64 0))], argTypes := #[23, 3] }), none⟩,
  ⟨none, (Op.store 23 (Operand.tmp 4) (Operand.tmp 60)), none⟩,
  ⟨(some 5), (Op.assign (Operand.const (Value.slice none 0 0))), none⟩]
attribute [go_sem] r42_13
def r42_15 : List PO := [⟨(some 69), (Op.load 23 (Operand.tmp 2)), none⟩,
  ⟨(some 70), (Op.call { callee := (Callee.value (Operand.func 60)), args := #[(Operand.tmp 69), (Operand.const (Value.int IntKind.i64 0))], argTypes := #[23, 3] }), none⟩,
  ⟨none, (Op.store 23 (Operand.tmp 4) (Operand.tmp 70)), none⟩,
  ⟨(some 5), (Op.assign (Operand.const (Value.slice none 0 0))), none⟩]
attribute [go_sem] r42_15
def r42_16 : List PO := [⟨(some 72), (Op.move (Operand.tmp 6)), none⟩,
  ⟨(some 73), (Op.unOp UnOp.not 4 (Operand.tmp 72)), none⟩,
  ⟨(some 71), (Op.assign (Operand.tmp 73)), none⟩]
attribute [go_sem] r42_16
def r42_17 : List PO := [⟨(some 74), (Op.load 23 (Operand.tmp 2)), none⟩,
  ⟨none, (Op.store 23 (Operand.tmp 4) (Operand.tmp 74)), none⟩,
  ⟨(some 5), (Op.assign (Operand.const (Value.slice none 0 0))), none⟩]
attribute [go_sem] r42_17
def r42_19 : List PO := [⟨(some 89), (Op.fieldAddr 23 (Operand.tmp 2) 0), none⟩,
  ⟨none, (Op.store 3 (Operand.tmp 89) (Operand.const (Value.int IntKind.i64 3))), none⟩]
attribute [go_sem] r42_19
def r42_20 : List PO := [⟨(some 90), (Op.fieldAddr 39 (Operand.tmp 3) 1), none⟩,
  ⟨(some 91), (Op.load 3 (Operand.tmp 90)), none⟩,
  ⟨(some 92), (Op.fieldAddr 23 (Operand.tmp 2) 1), none⟩,
  ⟨(some 93), (Op.load 3 (Operand.tmp 92)), none⟩,
  ⟨(some 94), (Op.binOp BinOp.lss 3 (Operand.tmp 91) (Operand.tmp 93) 3), none⟩]
attribute [go_sem] r42_20
def r42_22 : List PO := [⟨(some 98), (Op.fieldAddr 23 (Operand.tmp 2) 1), none⟩,
  ⟨(some 99), (Op.load 3 (Operand.tmp 98)), none⟩,
  ⟨(some 100), (Op.fieldAddr 23 (Operand.tmp 2) 2), none⟩,
  ⟨none, (Op.store 3 (Operand.tmp 100) (Operand.tmp 99)), none⟩]
attribute [go_sem] r42_22
def r42_23 : List PO := [⟨(some 101), (Op.fieldAddr 23 (Operand.tmp 2) 1), none⟩,
  ⟨(some 102), (Op.load 3 (Operand.tmp 101)), none⟩,
  ⟨(some 103), (Op.binOp BinOp.quo 3 (Operand.tmp 102) (Operand.const (Value.int IntKind.i64 3)) 3), none⟩,
  ⟨(some 104), (Op.fieldAddr 23 (Operand.tmp 2) 3), none⟩,
  ⟨none, (Op.store 3 (Operand.tmp 104) (Operand.tmp 103)), none⟩]
attribute [go_sem] r42_23
def r42_24 : List PO := [⟨(some 105), (Op.load 23 (Operand.tmp 2)), none⟩,
  ⟨(some 106), (Op.buildSlice 36 1 #[(0, (Operand.const (Value.int IntKind.i64 4)))]), none⟩,
  ⟨none, (Op.store 23 (Operand.tmp 4) (Operand.tmp 105)), none⟩,
  ⟨(some 5), (Op.assign (Operand.tmp 106)), none⟩]
attribute [go_sem] r42_24
def r42_29 : List PO := [⟨(some 136), (Op.fieldAddr 23 (Operand.tmp 2) 0), none⟩,
  ⟨none, (Op.store 3 (Operand.tmp 136) (Operand.const (Value.int IntKind.i64 4))), none⟩]
attribute [go_sem] r42_29
def r42_30 : List PO := [⟨(some 137), (Op.fieldAddr 23 (Operand.tmp 2) 1), none⟩,
  ⟨(some 138), (Op.load 3 (Operand.tmp 137)), none⟩,
  ⟨(some 139), (Op.fieldAddr 23 (Operand.tmp 2) 2), none⟩,
  ⟨none, (Op.store 3 (Operand.tmp 139) (Operand.tmp 138)), none⟩]
attribute [go_sem] r42_30
def r42_31 : List PO := [⟨(some 140), (Op.load 23 (Operand.tmp 2)), none⟩,
  ⟨none, (Op.store 23 (Operand.tmp 4) (Operand.tmp 140)), none⟩,
  ⟨(some 5), (Op.assign (Operand.const (Value.slice none 0 0))), none⟩]
attribute [go_sem] r42_31
def r42_32 : List PO := [⟨(some 141), (Op.load 23 (Operand.tmp 2)), none⟩,
  ⟨(some 142), (Op.call { callee := (Callee.value (Operand.func 60)), args := #[(Operand.tmp 141), (Operand.const (Value.int IntKind.i64 0))], argTypes := #[23, 3] }), none⟩,
  ⟨(some 143), (Op.buildSlice 36 1 #[(0, (Operand.const (Value.int IntKind.i64 3)))]), none⟩,
  ⟨none, (Op.store 23 (Operand.tmp 4) (Operand.tmp 142)), none⟩,
  ⟨(some 5), (Op.assign (Operand.tmp 143)), none⟩]
attribute [go_sem] r42_32
def c42 : PC := (.seq (.reg r42_0) (.seq (.reg r42_1) (.seq (.block 0 (.seq (.reg r42_2) (.cond (Operand.tmp 10) (.seq (.reg r42_3) .ret) (.seq (.pre ⟨[2, 3, 4, 6], [.old 0, .old 1, .old 2]⟩ k42_1) (.cond (Operand.tmp 18) (.seq (.reg r42_5) .ret) (.seq (.pre ⟨[2, 3, 4, 6], [.old 0, .old 1, .old 2]⟩ k42_2) (.cond (Operand.tmp 29) (.seq (.reg r42_7) (.seq (.reg r42_8) (.seq (.reg r42_9) .ret))) (.seq (.pre ⟨[2, 3, 4, 6], [.old 0, .old 1, .old 2]⟩ k42_3) (.cond (Operand.tmp 43) (.seq (.reg r42_11) .ret) (.seq (.pre ⟨[2, 3, 4, 6], [.old 0, .old 1, .old 2]⟩ k42_4) (.cond (Operand.tmp 52) (.seq (.reg r42_13) .ret) (.seq (.pre ⟨[2, 3, 4, 6], [.old 0, .old 1, .old 2]⟩ k42_5) (.cond (Operand.tmp 61) (.seq (.reg r42_15) .ret) (.seq (.reg r42_16) (.cond (Operand.tmp 71) (.seq (.reg r42_17) .ret) (.seq (.pre ⟨[2, 3, 4], [.old 0, .old 1, .old 2]⟩ k42_6) (.cond (Operand.tmp 75) (.seq (.reg r42_19) (.seq (.seq (.reg r42_20) (.pre ⟨[2, 3, 4, 94], [.old 0, .old 1, .old 2]⟩ k42_7)) (.seq (.reg r42_22) (.seq (.reg r42_23) (.seq (.reg r42_24) .ret))))) (.seq (.seq (.pre ⟨[2, 3, 4], [.old 0, .old 1, .old 2]⟩ k42_8) (.pre ⟨[2, 3, 4, 107], [.old 0, .old 1, .old 2]⟩ k42_9)) (.cond (Operand.tmp 107) (.seq (.seq (.pre ⟨[2, 4], [.old 0, .old 1]⟩ k42_11) (.pre ⟨[2, 4, 131], [.old 0, .old 1]⟩ k42_12)) (.seq (.reg r42_29) (.seq (.reg r42_30) (.seq (.reg r42_31) .ret)))) .skip))))))))))))))))))) (.seq (.reg r42_32) .ret))))
def i42 : FnI := ⟨144, [(ResultVar.cell 4 23), (ResultVar.tmp 5)], c42, 0, [[0, 0, 0, 0, 0], [0, 0]], [[0, 0, 0, 0, 0], [1]], false, false, 0⟩
-- loop.example/g00344/spec.PlayEvents
def r26_2 : List PO := [⟨(some 19), (Op.move (Operand.tmp 8)), none⟩,
  ⟨(some 20), (Op.unOp UnOp.not 4 (Operand.tmp 19)), none⟩,
  ⟨(some 21), (Op.move (Operand.tmp 20)), none⟩,
  ⟨(some 22), (Op.move (Operand.tmp 1)), (some (21, false))⟩,
  ⟨(some 23), (Op.call { callee := (Callee.builtin Builtin.len), args := #[(Operand.tmp 22)], argTypes := #[47] }), (some (21, false))⟩,
  ⟨(some 24), (Op.binOp BinOp.gtr 3 (Operand.tmp 23) (Operand.const (Value.int IntKind.i64 100)) 3), (some (21, false))⟩,
  ⟨(some 25), (Op.pick (Operand.tmp 21) (Operand.const (Value.bool true)) (Operand.tmp 24)), none⟩]
attribute [go_sem] r26_2
def k26_1 : PC := (.post (.reg r26_2) ⟨[1, 4, 7, 25], [.old 0, .old 1]⟩)
def r26_6 : List PO := [⟨(some 30), (Op.binOp BinOp.lss 3 (Operand.tmp 29) (Operand.tmp 28) 3), none⟩]
attribute [go_sem] r26_6
def r26_7 : List PO := [⟨(some 31), (Op.indexAddr 47 (Operand.tmp 27) (Operand.tmp 29)), none⟩,
  ⟨(some 32), (Op.load 39 (Operand.tmp 31)), none⟩,
  ⟨(some 11), (Op.alloc 39), none⟩,
  ⟨none, (Op.store 39 (Operand.tmp 11) (Operand.tmp 32)), none⟩]
attribute [go_sem] r26_7
def r26_8 : List PO := [⟨(some 33), (Op.load 39 (Operand.tmp 11)), none⟩,
  ⟨(some 34), (Op.call { callee := (Callee.value (Operand.func 41)), args := #[(Operand.tmp 33)], argTypes := #[39] }), none⟩,
  ⟨(some 35), (Op.unOp UnOp.not 4 (Operand.tmp 34)), none⟩]
attribute [go_sem] r26_8
def r26_9 : List PO := [⟨(some 36), (Op.build 23 #[]), none⟩,
  ⟨none, (Op.store 23 (Operand.tmp 4) (Operand.tmp 36)), none⟩,
  ⟨(some 5), (Op.assign (Operand.const (Value.slice none 0 0))), none⟩,
  ⟨(some 6), (Op.assign (Operand.const (Value.bool false))), none⟩]
attribute [go_sem] r26_9
def r26_10 : List PO := [⟨(some 38), (Op.load 23 (Operand.tmp 7)), none⟩,
  ⟨(some 39), (Op.load 39 (Operand.tmp 11)), none⟩,
  ⟨(some 40), (Op.call { callee := (Callee.value (Operand.func 42)), args := #[(Operand.tmp 38), (Operand.tmp 39)], argTypes := #[23, 39] }), none⟩,
  ⟨(some 37), (Op.move (Operand.tmp 40)), none⟩,
  ⟨(some 41), (Op.extract (Operand.tmp 37) 0), none⟩,
  ⟨(some 42), (Op.extract (Operand.tmp 37) 1), none⟩,
  ⟨(some 12), (Op.alloc 23), none⟩,
  ⟨none, (Op.store 23 (Operand.tmp 12) (Operand.tmp 41)), none⟩,
  ⟨(some 13), (Op.assign (Operand.tmp 42)), none⟩]
attribute [go_sem] r26_10
def r26_11 : List PO := [⟨(some 43), (Op.load 23 (Operand.tmp 12)), none⟩,
  ⟨none, (Op.store 23 (Operand.tmp 7) (Operand.tmp 43)), none⟩]
attribute [go_sem] r26_11
def r26_12 : List PO := [⟨(some 44), (Op.move (Operand.tmp 9)), none⟩,
  ⟨(some 45), (Op.move (Operand.tmp 13)), none⟩,
  ⟨(some 46), (Op.call { callee := (Callee.builtin Builtin.append), args := #[(Operand.tmp 44), (Operand.tmp 45)], argTypes := #[36, 36] }), none⟩,
  ⟨(some 9), (Op.assign (Operand.tmp 46)), none⟩]
attribute [go_sem] r26_12
def r26_13 : List PO := [⟨(some 47), (Op.binOp BinOp.add 3 (Operand.tmp 29) (Operand.const (Value.int IntKind.i64 1)) 3), none⟩,
  ⟨(some 29), (Op.move (Operand.tmp 47)), none⟩]
attribute [go_sem] r26_13
def k26_2b : PC := (.seq (.reg r26_6) (.seq (.cond (Operand.tmp 30) .skip (.pre ⟨[4, 7, 9], [.old 0, .old 1, .old 2]⟩ (.exit 0))) (.seq (.block 1 (.seq (.reg r26_7) (.seq (.seq (.reg r26_8) (.cond (Operand.tmp 35) (.seq (.reg r26_9) (.pre ⟨[4, 5, 6], [.old 0, .nilT 5 0 1]⟩ .ret)) .skip)) (.seq (.reg r26_10) (.seq (.reg r26_11) (.reg r26_12)))))) (.post (.reg r26_13) ⟨[4, 7, 9, 27, 28, 29], [.old 0, .old 1, .old 6]⟩))))
def r26_0 : List PO := [⟨(some 4), (Op.alloc 23), none⟩,
  ⟨(some 5), (Op.assign (Operand.const (Value.slice none 0 0))), none⟩,
  ⟨(some 6), (Op.assign (Operand.const (Value.bool false))), none⟩]
attribute [go_sem] r26_0
def r26_1 : List PO := [⟨(some 15), (Op.move (Operand.tmp 0)), none⟩,
  ⟨(some 16), (Op.call { callee := (Callee.value (Operand.func 11)), args := #[(Operand.tmp 15)], argTypes := #[3] }), none⟩,
  ⟨(some 14), (Op.move (Operand.tmp 16)), none⟩,
  ⟨(some 17), (Op.extract (Operand.tmp 14) 0), none⟩,
  ⟨(some 18), (Op.extract (Operand.tmp 14) 1), none⟩,
  ⟨(some 7), (Op.alloc 23), none⟩,
  ⟨none, (Op.store 23 (Operand.tmp 7) (Operand.tmp 17)), none⟩,
  ⟨(some 8), (Op.assign (Operand.tmp 18)), none⟩]
attribute [go_sem] r26_1
def r26_3 : List PO := [⟨(some 26), (Op.build 23 #[]), none⟩,
  ⟨none, (Op.store 23 (Operand.tmp 4) (Operand.tmp 26)), none⟩,
  ⟨(some 5), (Op.assign (Operand.const (Value.slice none 0 0))), none⟩,
  ⟨(some 6), (Op.assign (Operand.const (Value.bool false))), none⟩]
attribute [go_sem] r26_3
def r26_4 : List PO := [⟨(some 9), (Op.assign (Operand.const (Value.slice none 0 0))), none⟩]
attribute [go_sem] r26_4
def r26_5 : List PO := [⟨(some 27), (Op.move (Operand.tmp 1)), none⟩,
  ⟨(some 28), (Op.call { callee := (Callee.builtin Builtin.len), args := #[(Operand.tmp 27)], argTypes := #[47] }), none⟩,
  ⟨(some 29), (Op.move (Operand.const (Value.int IntKind.i64 0))), none⟩]
attribute [go_sem] r26_5
def r26_14 : List PO := [⟨(some 48), (Op.load 23 (Operand.tmp 7)), none⟩,
  ⟨(some 49), (Op.move (Operand.tmp 9)), none⟩,
  ⟨none, (Op.store 23 (Operand.tmp 4) (Operand.tmp 48)), none⟩,
  ⟨(some 5), (Op.assign (Operand.tmp 49)), none⟩,
  ⟨(some 6), (Op.assign (Operand.const (Value.bool true))), none⟩]
attribute [go_sem] r26_14
def c26 : PC := (.seq (.reg r26_0) (.seq (.reg r26_1) (.seq (.seq (.pre ⟨[1, 4, 7, 8], [.old 0, .old 1]⟩ k26_1) (.cond (Operand.tmp 25) (.seq (.reg r26_3) .ret) .skip)) (.seq (.reg r26_4) (.seq (.seq (.reg r26_5) (.block 0 (.pre ⟨[4, 7, 9, 27, 28, 29], [.old 0, .old 1, .nilT 9 0 1]⟩ (.loop k26_2b)))) (.seq (.reg r26_14) .ret))))))
def i26 : FnI := ⟨50, [(ResultVar.cell 4 23), (ResultVar.tmp 5), (ResultVar.tmp 6)], c26, 0, [[0], [2]], [[0, 0, 0, 0, 0], [1], [0]], false, false, 0⟩
-- loop.example/g00344/impl.within
def r40_1 : List PO := [⟨(some 7), (Op.move (Operand.tmp 0)), none⟩,
  ⟨(some 8), (Op.move (Operand.tmp 1)), none⟩,
  ⟨(some 9), (Op.binOp BinOp.geq 3 (Operand.tmp 7) (Operand.tmp 8) 3), none⟩,
  ⟨(some 10), (Op.move (Operand.tmp 9)), none⟩,
  ⟨(some 11), (Op.move (Operand.tmp 0)), (some (10, true))⟩,
  ⟨(some 12), (Op.move (Operand.tmp 2)), (some (10, true))⟩,
  ⟨(some 13), (Op.binOp BinOp.leq 3 (Operand.tmp 11) (Operand.tmp 12) 3), (some (10, true))⟩,
  ⟨(some 14), (Op.pick (Operand.tmp 10) (Operand.tmp 13) (Operand.const (Value.bool false))), none⟩,
  ⟨(some 6), (Op.assign (Operand.tmp 14)), none⟩]
attribute [go_sem] r40_1
def k40_1 : PC := (.post (.reg r40_1) ⟨[6], []⟩)
def r40_0 : List PO := [⟨(some 6), (Op.assign (Operand.const (Value.bool false))), none⟩]
attribute [go_sem] r40_0
def c40 : PC := (.seq (.reg r40_0) (.seq (.pre ⟨[0, 1, 2], []⟩ k40_1) .ret))
def i40 : FnI := ⟨15, [(ResultVar.tmp 6)], c40, 0, [[0], [0], [0]], [[0]], false, false, 0⟩
-- loop.example/g00344/impl.NewSession
def r12_0 : List PO := [⟨(some 2), (Op.alloc 23), none⟩,
  ⟨(some 3), (Op.assign (Operand.const (Value.bool false))), none⟩]
attribute [go_sem] r12_0
def r12_1 : List PO := [⟨(some 4), (Op.move (Operand.tmp 0)), none⟩,
  ⟨(some 5), (Op.call { callee := (Callee.value (Operand.func 40)), args := #[(Operand.tmp 4), (Operand.const (Value.int IntKind.i64 3)), (Operand.const (Value.int IntKind.i64 90))], argTypes := #[3, 3, 3] }), none⟩,
  ⟨(some 6), (Op.unOp UnOp.not 4 (Operand.tmp 5)), none⟩]
attribute [go_sem] r12_1
def r12_2 : List PO := [⟨(some 7), (Op.build 23 #[]), none⟩,
  ⟨none, (Op.store 23 (Operand.tmp 2) (Operand.tmp 7)), none⟩,
  ⟨(some 3), (Op.assign (Operand.const (Value.bool false))), none⟩]
attribute [go_sem] r12_2
def r12_3 : List PO := [⟨(some 8), (Op.move (Operand.tmp 0)), none⟩,
  ⟨(some 9), (Op.build 23 #[(1, (Operand.tmp 8))]), none⟩,
  ⟨none, (Op.store 23 (Operand.tmp 2) (Operand.tmp 9)), none⟩,
  ⟨(some 3), (Op.assign (Operand.const (Value.bool true))), none⟩]
attribute [go_sem] r12_3
def c12 : PC := (.seq (.reg r12_0) (.seq (.seq (.reg r12_1) (.cond (Operand.tmp 6) (.seq (.reg r12_2) .ret) .skip)) (.seq (.reg r12_3) .ret)))
def i12 : FnI := ⟨10, [(ResultVar.cell 2 23), (ResultVar.tmp 3)], c12, 0, [[0]], [[0, 0, 0, 0, 0], [0]], false, false, 0⟩
-- slices.IndexFunc[[]loop.example/g00344/impl.Event,loop.example/g00344/impl.Event]
def r63_2 : List PO := [⟨(some 9), (Op.binOp BinOp.lss 3 (Operand.tmp 8) (Operand.tmp 7) 3), none⟩]
attribute [go_sem] r63_2
def r63_3 : List PO := [⟨(some 10), (Op.move (Operand.tmp 8)), none⟩,
  ⟨(some 5), (Op.assign (Operand.tmp 10)), none⟩]
attribute [go_sem] r63_3
def r63_4 : List PO := [⟨(some 11), (Op.move (Operand.tmp 1)), none⟩,
  ⟨(some 12), (Op.move (Operand.tmp 0)), none⟩,
  ⟨(some 13), (Op.move (Operand.tmp 5)), none⟩,
  ⟨(some 14), (Op.indexAddr 47 (Operand.tmp 12) (Operand.tmp 13)), none⟩,
  ⟨(some 15), (Op.load 39 (Operand.tmp 14)), none⟩,
  ⟨(some 16), (Op.call { callee := (Callee.value (Operand.tmp 11)), args := #[(Operand.tmp 15)], argTypes := #[39] }), none⟩]
attribute [go_sem] r63_4
def r63_5 : List PO := [⟨(some 17), (Op.move (Operand.tmp 5)), none⟩,
  ⟨(some 4), (Op.assign (Operand.tmp 17)), none⟩]
attribute [go_sem] r63_5
def r63_6 : List PO := [⟨(some 18), (Op.binOp BinOp.add 3 (Operand.tmp 8) (Operand.const (Value.int IntKind.i64 1)) 3), none⟩,
  ⟨(some 8), (Op.move (Operand.tmp 18)), none⟩]
attribute [go_sem] r63_6
def k63_1b : PC := (.seq (.reg r63_2) (.seq (.cond (Operand.tmp 9) .skip (.pre ⟨[], []⟩ (.exit 0))) (.seq (.block 1 (.seq (.reg r63_3) (.seq (.reg r63_4) (.cond (Operand.tmp 16) (.seq (.reg r63_5) (.pre ⟨[4], []⟩ .ret)) .skip)))) (.post (.reg r63_6) ⟨[0, 1, 7, 8], []⟩))))
def r63_0 : List PO := [⟨(some 4), (Op.assign (Operand.const (Value.int IntKind.i64 0))), none⟩]
attribute [go_sem] r63_0
def r63_1 : List PO := [⟨(some 6), (Op.move (Operand.tmp 0)), none⟩,
  ⟨(some 7), (Op.call { callee := (Callee.builtin Builtin.len), args := #[(Operand.tmp 6)], argTypes := #[47] }), none⟩,
  ⟨(some 8), (Op.move (Operand.const (Value.int IntKind.i64 0))), none⟩]
attribute [go_sem] r63_1
def r63_7 : List PO := [⟨(some 4), (Op.assign (Operand.const (Value.int IntKind.i64 (-1)))), none⟩]
attribute [go_sem] r63_7
def c63 : PC := (.seq (.reg r63_0) (.seq (.seq (.reg r63_1) (.block 0 (.pre ⟨[0, 1, 7, 8], []⟩ (.loop k63_1b)))) (.seq (.reg r63_7) .ret)))
def i63 : FnI := ⟨19, [(ResultVar.tmp 4)], c63, 0, [[2], [0]], [[0]], false, false, 0⟩
-- slices.ContainsFunc[[]loop.example/g00344/impl.Event,loop.example/g00344/impl.Event]
def r45_0 : List PO := [⟨(some 4), (Op.assign (Operand.const (Value.bool false))), none⟩]
attribute [go_sem] r45_0
def r45_1 : List PO := [⟨(some 5), (Op.move (Operand.tmp 0)), none⟩,
  ⟨(some 6), (Op.move (Operand.tmp 1)), none⟩,
  ⟨(some 7), (Op.call { callee := (Callee.value (Operand.func 63)), args := #[(Operand.tmp 5), (Operand.tmp 6)], argTypes := #[47, 67] }), none⟩,
  ⟨(some 8), (Op.binOp BinOp.geq 3 (Operand.tmp 7) (Operand.const (Value.int IntKind.i64 0)) 3), none⟩,
  ⟨(some 4), (Op.assign (Operand.tmp 8)), none⟩]
attribute [go_sem] r45_1
def c45 : PC := (.seq (.reg r45_0) (.seq (.reg r45_1) .ret))
def i45 : FnI := ⟨9, [(ResultVar.tmp 4)], c45, 0, [[2], [0]], [[0]], false, false, 0⟩
-- loop.example/g00344/impl.isEvent
def r43_1 : List PO := [⟨(some 3), (Op.fieldAddr 39 (Operand.tmp 1) 0), none⟩,
  ⟨(some 4), (Op.load 3 (Operand.tmp 3)), none⟩,
  ⟨(some 5), (Op.call { callee := (Callee.value (Operand.func 40)), args := #[(Operand.tmp 4), (Operand.const (Value.int IntKind.i64 1)), (Operand.const (Value.int IntKind.i64 10))], argTypes := #[3, 3, 3] }), none⟩,
  ⟨(some 6), (Op.move (Operand.tmp 5)), none⟩,
  ⟨(some 7), (Op.fieldAddr 39 (Operand.tmp 1) 1), (some (6, true))⟩,
  ⟨(some 8), (Op.load 3 (Operand.tmp 7)), (some (6, true))⟩,
  ⟨(some 9), (Op.binOp BinOp.eql 3 (Operand.tmp 8) (Operand.const (Value.int IntKind.i64 0)) 3), (some (6, true))⟩,
  ⟨(some 10), (Op.move (Operand.tmp 9)), (some (6, true))⟩,
  ⟨(some 11), (Op.fieldAddr 39 (Operand.tmp 1) 0), (some (10, false))⟩,
  ⟨(some 12), (Op.load 3 (Operand.tmp 11)), (some (10, false))⟩,
  ⟨(some 13), (Op.binOp BinOp.eql 3 (Operand.tmp 12) (Operand.const (Value.int IntKind.i64 5)) 3), (some (10, false))⟩,
  ⟨(some 14), (Op.move (Operand.tmp 13)), (some (10, false))⟩,
  ⟨(some 15), (Op.fieldAddr 39 (Operand.tmp 1) 1), (some (14, true))⟩,
  ⟨(some 16), (Op.load 3 (Operand.tmp 15)), (some (14, true))⟩,
  ⟨(some 17), (Op.call { callee := (Callee.value (Operand.func 40)), args := #[(Operand.tmp 16), (Operand.const (Value.int IntKind.i64 0)), (Operand.const (Value.int IntKind.i64 100))], argTypes := #[3, 3, 3] }), (some (14, true))⟩,
  ⟨(some 18), (Op.pick (Operand.tmp 14) (Operand.tmp 17) (Operand.const (Value.bool false))), (some (10, false))⟩,
  ⟨(some 19), (Op.pick (Operand.tmp 10) (Operand.const (Value.bool true)) (Operand.tmp 18)), (some (6, true))⟩,
  ⟨(some 20), (Op.pick (Operand.tmp 6) (Operand.tmp 19) (Operand.const (Value.bool false))), none⟩,
  ⟨(some 2), (Op.assign (Operand.tmp 20)), none⟩]
attribute [go_sem] r43_1
def k43_1 : PC := (.post (.reg r43_1) ⟨[2], []⟩)
def r43_0 : List PO := [⟨(some 1), (Op.box 39 (Operand.tmp 0)), none⟩,
  ⟨(some 2), (Op.assign (Operand.const (Value.bool false))), none⟩]
attribute [go_sem] r43_0
def c43 : PC := (.seq (.reg r43_0) (.seq (.pre ⟨[1], [.old 0]⟩ k43_1) .ret))
def i43 : FnI := ⟨21, [(ResultVar.tmp 2)], c43, 0, [[0, 0]], [[0]], false, false, 0⟩
-- loop.example/g00344/impl.PlayEvents$1
def r46_0 : List PO := [⟨(some 1), (Op.box 39 (Operand.tmp 0)), none⟩,
  ⟨(some 2), (Op.assign (Operand.const (Value.bool false))), none⟩]
attribute [go_sem] r46_0
def r46_1 : List PO := [⟨(some 3), (Op.load 39 (Operand.tmp 1)), none⟩,
  ⟨(some 4), (Op.call { callee := (Callee.value (Operand.func 43)), args := #[(Operand.tmp 3)], argTypes := #[39] }), none⟩,
  ⟨(some 5), (Op.unOp UnOp.not 4 (Operand.tmp 4)), none⟩,
  ⟨(some 2), (Op.assign (Operand.tmp 5)), none⟩]
attribute [go_sem] r46_1
def c46 : PC := (.seq (.reg r46_0) (.seq (.reg r46_1) .ret))
def i46 : FnI := ⟨6, [(ResultVar.tmp 2)], c46, 0, [[0, 0]], [[0]], false, false, 0⟩
-- (loop.example/g00344/impl.Session).to
def r61_0 : List PO := [⟨(some 2), (Op.box 23 (Operand.tmp 0)), none⟩,
  ⟨(some 4), (Op.alloc 23), none⟩]
attribute [go_sem] r61_0
def r61_1 : List PO := [⟨(some 5), (Op.move (Operand.tmp 1)), none⟩,
  ⟨(some 6), (Op.fieldAddr 23 (Operand.tmp 2) 1), none⟩,
  ⟨(some 7), (Op.load 3 (Operand.tmp 6)), none⟩,
  ⟨(some 8), (Op.fieldAddr 23 (Operand.tmp 2) 4), none⟩,
  ⟨(some 9), (Op.load 3 (Operand.tmp 8)), none⟩,
  ⟨(some 10), (Op.build 23 #[(0, (Operand.tmp 5)), (1, (Operand.tmp 7)), (4, (Operand.tmp 9))]), none⟩,
  ⟨none, (Op.store 23 (Operand.tmp 4) (Operand.tmp 10)), none⟩]
attribute [go_sem] r61_1
def c61 : PC := (.seq (.reg r61_0) (.seq (.reg r61_1) .ret))
def i61 : FnI := ⟨11, [(ResultVar.cell 4 23)], c61, 0, [[0, 0, 0, 0, 0], [0]], [[0, 0, 0, 0, 0]], false, false, 0⟩
-- (loop.example/g00344/impl.Session).tick
def r62_0 : List PO := [⟨(some 1), (Op.box 23 (Operand.tmp 0)), none⟩,
  ⟨(some 2), (Op.alloc 23), none⟩,
  ⟨(some 3), (Op.assign (Operand.const (Value.slice none 0 0))), none⟩]
attribute [go_sem] r62_0
def r62_1 : List PO := [⟨(some 4), (Op.fieldAddr 23 (Operand.tmp 1) 2), none⟩,
  ⟨(some 5), (Op.load 3 (Operand.tmp 4)), none⟩,
  ⟨(some 6), (Op.binOp BinOp.sub 3 (Operand.tmp 5) (Operand.const (Value.int IntKind.i64 1)) 3), none⟩,
  ⟨(some 7), (Op.fieldAddr 23 (Operand.tmp 1) 2), none⟩,
  ⟨none, (Op.store 3 (Operand.tmp 7) (Operand.tmp 6)), none⟩]
attribute [go_sem] r62_1
def r62_2 : List PO := [⟨(some 8), (Op.fieldAddr 23 (Operand.tmp 1) 2), none⟩,
  ⟨(some 9), (Op.load 3 (Operand.tmp 8)), none⟩,
  ⟨(some 10), (Op.binOp BinOp.eql 3 (Operand.tmp 9) (Operand.const (Value.int IntKind.i64 0)) 3), none⟩]
attribute [go_sem] r62_2
def r62_3 : List PO := [⟨(some 11), (Op.load 23 (Operand.tmp 1)), none⟩,
  ⟨(some 12), (Op.call { callee := (Callee.value (Operand.func 61)), args := #[(Operand.tmp 11), (Operand.const (Value.int IntKind.i64 0))], argTypes := #[23, 3] }), none⟩,
  ⟨(some 13), (Op.buildSlice 36 1 #[(0, (Operand.const (Value.int IntKind.i64 3)))]), none⟩,
  ⟨none, (Op.store 23 (Operand.tmp 2) (Operand.tmp 12)), none⟩,
  ⟨(some 3), (Op.assign (Operand.tmp 13)), none⟩]
attribute [go_sem] r62_3
def r62_4 : List PO := [⟨(some 14), (Op.fieldAddr 23 (Operand.tmp 1) 0), none⟩,
  ⟨(some 15), (Op.load 3 (Operand.tmp 14)), none⟩,
  ⟨(some 16), (Op.binOp BinOp.eql 3 (Operand.tmp 15) (Operand.const (Value.int IntKind.i64 2)) 3), none⟩]
attribute [go_sem] r62_4
def r62_5 : List PO := [⟨(some 17), (Op.load 23 (Operand.tmp 1)), none⟩,
  ⟨none, (Op.store 23 (Operand.tmp 2) (Operand.tmp 17)), none⟩,
  ⟨(some 3), (Op.assign (Operand.const (Value.slice none 0 0))), none⟩]
attribute [go_sem] r62_5
def r62_6 : List PO := [⟨(some 18), (Op.fieldAddr 23 (Operand.tmp 1) 3), none⟩,
  ⟨(some 19), (Op.load 3 (Operand.tmp 18)), none⟩,
  ⟨(some 20), (Op.binOp BinOp.sub 3 (Operand.tmp 19) (Operand.const (Value.int IntKind.i64 1)) 3), none⟩,
  ⟨(some 21), (Op.fieldAddr 23 (Operand.tmp 1) 3), none⟩,
  ⟨none, (Op.store 3 (Operand.tmp 21) (Operand.tmp 20)), none⟩]
attribute [go_sem] r62_6
def r62_7 : List PO := [⟨(some 22), (Op.fieldAddr 23 (Operand.tmp 1) 3), none⟩,
  ⟨(some 23), (Op.load 3 (Operand.tmp 22)), none⟩,
  ⟨(some 24), (Op.binOp BinOp.eql 3 (Operand.tmp 23) (Operand.const (Value.int IntKind.i64 0)) 3), none⟩]
attribute [go_sem] r62_7
def r62_8 : List PO := [⟨(some 25), (Op.fieldAddr 23 (Operand.tmp 1) 1), none⟩,
  ⟨(some 26), (Op.load 3 (Operand.tmp 25)), none⟩,
  ⟨(some 27), (Op.binOp BinOp.quo 3 (Operand.tmp 26) (Operand.const (Value.int IntKind.i64 3)) 3), none⟩,
  ⟨(some 28), (Op.fieldAddr 23 (Operand.tmp 1) 3), none⟩,
  ⟨none, (Op.store 3 (Operand.tmp 28) (Operand.tmp 27)), none⟩]
attribute [go_sem] r62_8
def r62_9 : List PO := [⟨(some 29), (Op.load 23 (Operand.tmp 1)), none⟩,
  ⟨(some 30), (Op.buildSlice 36 1 #[(0, (Operand.const (Value.int IntKind.i64 4)))]), none⟩,
  ⟨none, (Op.store 23 (Operand.tmp 2) (Operand.tmp 29)), none⟩,
  ⟨(some 3), (Op.assign (Operand.tmp 30)), none⟩]
attribute [go_sem] r62_9
def r62_10 : List PO := [⟨(some 31), (Op.load 23 (Operand.tmp 1)), none⟩,
  ⟨none, (Op.store 23 (Operand.tmp 2) (Operand.tmp 31)), none⟩,
  ⟨(some 3), (Op.assign (Operand.const (Value.slice none 0 0))), none⟩]
attribute [go_sem] r62_10
def c62 : PC := (.seq (.reg r62_0) (.seq (.seq (.reg r62_1) (.seq (.reg r62_2) (.cond (Operand.tmp 10) (.seq (.reg r62_3) .ret) .skip))) (.seq (.seq (.reg r62_4) (.cond (Operand.tmp 16) (.seq (.reg r62_5) .ret) .skip)) (.seq (.seq (.reg r62_6) (.seq (.reg r62_7) (.cond (Operand.tmp 24) (.seq (.reg r62_8) (.seq (.reg r62_9) .ret)) .skip))) (.seq (.reg r62_10) .ret)))))
def i62 : FnI := ⟨32, [(ResultVar.cell 2 23), (ResultVar.tmp 3)], c62, 0, [[0, 0, 0, 0, 0]], [[0, 0, 0, 0, 0], [1]], false, false, 0⟩
-- (loop.example/g00344/impl.Session).step
def r44_2 : List PO := [⟨(some 13), (Op.fieldAddr 39 (Operand.tmp 3) 0), none⟩,
  ⟨(some 14), (Op.load 3 (Operand.tmp 13)), none⟩,
  ⟨(some 15), (Op.binOp BinOp.eql 3 (Operand.tmp 14) (Operand.const (Value.int IntKind.i64 1)) 3), none⟩,
  ⟨(some 16), (Op.move (Operand.tmp 15)), none⟩,
  ⟨(some 17), (Op.fieldAddr 23 (Operand.tmp 2) 0), (some (16, true))⟩,
  ⟨(some 18), (Op.load 3 (Operand.tmp 17)), (some (16, true))⟩,
  ⟨(some 19), (Op.binOp BinOp.eql 3 (Operand.tmp 18) (Operand.const (Value.int IntKind.i64 0)) 3), (some (16, true))⟩,
  ⟨(some 20), (Op.pick (Operand.tmp 16) (Operand.tmp 19) (Operand.const (Value.bool false))), none⟩,
  ⟨(some 12), (Op.assign (Operand.tmp 20)), none⟩]
attribute [go_sem] r44_2
def k44_1 : PC := (.post (.reg r44_2) ⟨[2, 3, 4, 6, 12], [.old 0, .old 1, .old 2]⟩)
def r44_4 : List PO := [⟨(some 24), (Op.fieldAddr 39 (Operand.tmp 3) 0), none⟩,
  ⟨(some 25), (Op.load 3 (Operand.tmp 24)), none⟩,
  ⟨(some 26), (Op.binOp BinOp.eql 3 (Operand.tmp 25) (Operand.const (Value.int IntKind.i64 2)) 3), none⟩,
  ⟨(some 27), (Op.move (Operand.tmp 26)), none⟩,
  ⟨(some 28), (Op.move (Operand.tmp 6)), (some (27, true))⟩,
  ⟨(some 29), (Op.unOp UnOp.not 4 (Operand.tmp 28)), (some (27, true))⟩,
  ⟨(some 30), (Op.pick (Operand.tmp 27) (Operand.tmp 29) (Operand.const (Value.bool false))), none⟩,
  ⟨(some 23), (Op.assign (Operand.tmp 30)), none⟩]
attribute [go_sem] r44_4
def k44_2 : PC := (.post (.reg r44_4) ⟨[2, 3, 4, 6, 23], [.old 0, .old 1, .old 2]⟩)
def r44_6 : List PO := [⟨(some 34), (Op.fieldAddr 39 (Operand.tmp 3) 0), none⟩,
  ⟨(some 35), (Op.load 3 (Operand.tmp 34)), none⟩,
  ⟨(some 36), (Op.binOp BinOp.eql 3 (Operand.tmp 35) (Operand.const (Value.int IntKind.i64 3)) 3), none⟩,
  ⟨(some 37), (Op.move (Operand.tmp 36)), none⟩,
  ⟨(some 38), (Op.fieldAddr 23 (Operand.tmp 2) 0), (some (37, true))⟩,
  ⟨(some 39), (Op.load 3 (Operand.tmp 38)), (some (37, true))⟩,
  ⟨(some 40), (Op.binOp BinOp.eql 3 (Operand.tmp 39) (Operand.const (Value.int IntKind.i64 1)) 3), (some (37, true))⟩,
  ⟨(some 41), (Op.pick (Operand.tmp 37) (Operand.tmp 40) (Operand.const (Value.bool false))), none⟩,
  ⟨(some 33), (Op.assign (Operand.tmp 41)), none⟩]
attribute [go_sem] r44_6
def k44_3 : PC := (.post (.reg r44_6) ⟨[2, 3, 4, 6, 33], [.old 0, .old 1, .old 2]⟩)
def r44_14 : List PO := [⟨(some 58), (Op.fieldAddr 39 (Operand.tmp 3) 0), none⟩,
  ⟨(some 59), (Op.load 3 (Operand.tmp 58)), none⟩,
  ⟨(some 60), (Op.binOp BinOp.eql 3 (Operand.tmp 59) (Operand.const (Value.int IntKind.i64 5)) 3), none⟩,
  ⟨(some 61), (Op.move (Operand.tmp 60)), none⟩,
  ⟨(some 62), (Op.fieldAddr 23 (Operand.tmp 2) 0), (some (61, true))⟩,
  ⟨(some 63), (Op.load 3 (Operand.tmp 62)), (some (61, true))⟩,
  ⟨(some 64), (Op.binOp BinOp.eql 3 (Operand.tmp 63) (Operand.const (Value.int IntKind.i64 2)) 3), (some (61, true))⟩,
  ⟨(some 65), (Op.pick (Operand.tmp 61) (Operand.tmp 64) (Operand.const (Value.bool false))), none⟩,
  ⟨(some 66), (Op.move (Operand.tmp 65)), none⟩,
  ⟨(some 67), (Op.fieldAddr 39 (Operand.tmp 3) 1), (some (66, true))⟩,
  ⟨(some 68), (Op.load 3 (Operand.tmp 67)), (some (66, true))⟩,
  ⟨(some 69), (Op.binOp BinOp.gtr 3 (Operand.tmp 68) (Operand.const (Value.int IntKind.i64 2)) 3), (some (66, true))⟩,
  ⟨(some 70), (Op.pick (Operand.tmp 66) (Operand.tmp 69) (Operand.const (Value.bool false))), none⟩,
  ⟨(some 57), (Op.assign (Operand.tmp 70)), none⟩]
attribute [go_sem] r44_14
def k44_4 : PC := (.post (.reg r44_14) ⟨[2, 3, 4, 57], [.old 0, .old 1, .old 2]⟩)
def r44_19 : List PO := [⟨(some 89), (Op.fieldAddr 39 (Operand.tmp 3) 0), none⟩,
  ⟨(some 90), (Op.load 3 (Operand.tmp 89)), none⟩,
  ⟨(some 91), (Op.binOp BinOp.eql 3 (Operand.tmp 90) (Operand.const (Value.int IntKind.i64 7)) 3), none⟩,
  ⟨(some 92), (Op.move (Operand.tmp 91)), none⟩,
  ⟨(some 93), (Op.fieldAddr 23 (Operand.tmp 2) 0), (some (92, true))⟩,
  ⟨(some 94), (Op.load 3 (Operand.tmp 93)), (some (92, true))⟩,
  ⟨(some 95), (Op.binOp BinOp.eql 3 (Operand.tmp 94) (Operand.const (Value.int IntKind.i64 3)) 3), (some (92, true))⟩,
  ⟨(some 96), (Op.pick (Operand.tmp 92) (Operand.tmp 95) (Operand.const (Value.bool false))), none⟩,
  ⟨(some 88), (Op.assign (Operand.tmp 96)), none⟩]
attribute [go_sem] r44_19
def k44_5 : PC := (.post (.reg r44_19) ⟨[2, 3, 4, 88], [.old 0, .old 1, .old 2]⟩)
def r44_22 : List PO := [⟨(some 108), (Op.fieldAddr 39 (Operand.tmp 3) 0), none⟩,
  ⟨(some 109), (Op.load 3 (Operand.tmp 108)), none⟩,
  ⟨(some 110), (Op.binOp BinOp.eql 3 (Operand.tmp 109) (Operand.const (Value.int IntKind.i64 7)) 3), none⟩,
  ⟨(some 111), (Op.move (Operand.tmp 110)), none⟩,
  ⟨(some 112), (Op.fieldAddr 39 (Operand.tmp 3) 0), (some (111, false))⟩,
  ⟨(some 113), (Op.load 3 (Operand.tmp 112)), (some (111, false))⟩,
  ⟨(some 114), (Op.binOp BinOp.eql 3 (Operand.tmp 113) (Operand.const (Value.int IntKind.i64 8)) 3), (some (111, false))⟩,
  ⟨(some 115), (Op.pick (Operand.tmp 111) (Operand.const (Value.bool true)) (Operand.tmp 114)), none⟩,
  ⟨(some 116), (Op.move (Operand.tmp 115)), none⟩,
  ⟨(some 117), (Op.fieldAddr 23 (Operand.tmp 2) 0), (some (116, true))⟩,
  ⟨(some 118), (Op.load 3 (Operand.tmp 117)), (some (116, true))⟩,
  ⟨(some 119), (Op.binOp BinOp.eql 3 (Operand.tmp 118) (Operand.const (Value.int IntKind.i64 4)) 3), (some (116, true))⟩,
  ⟨(some 120), (Op.pick (Operand.tmp 116) (Operand.tmp 119) (Operand.const (Value.bool false))), none⟩,
  ⟨(some 107), (Op.assign (Operand.tmp 120)), none⟩]
attribute [go_sem] r44_22
def k44_6 : PC := (.post (.reg r44_22) ⟨[2, 3, 4, 107], [.old 0, .old 1, .old 2]⟩)
def r44_0 : List PO := [⟨(some 2), (Op.box 23 (Operand.tmp 0)), none⟩,
  ⟨(some 3), (Op.box 39 (Operand.tmp 1)), none⟩,
  ⟨(some 4), (Op.alloc 23), none⟩,
  ⟨(some 5), (Op.assign (Operand.const (Value.slice none 0 0))), none⟩]
attribute [go_sem] r44_0
def r44_1 : List PO := [⟨(some 9), (Op.fieldAddr 23 (Operand.tmp 2) 0), none⟩,
  ⟨(some 10), (Op.load 3 (Operand.tmp 9)), none⟩,
  ⟨(some 11), (Op.binOp BinOp.geq 3 (Operand.tmp 10) (Operand.const (Value.int IntKind.i64 2)) 3), none⟩,
  ⟨(some 6), (Op.assign (Operand.tmp 11)), none⟩]
attribute [go_sem] r44_1
def r44_3 : List PO := [⟨(some 21), (Op.load 23 (Operand.tmp 2)), none⟩,
  ⟨(some 22), (Op.call { callee := (Callee.value (Operand.func 61)), args := #[(Operand.tmp 21), (Operand.const (Value.int IntKind.i64 1))], argTypes := #[23, 3] }), none⟩,
  ⟨none, (Op.store 23 (Operand.tmp 4) (Operand.tmp 22)), none⟩,
  ⟨(some 5), (Op.assign (Operand.const (Value.slice none 0 0))), none⟩]
attribute [go_sem] r44_3
def r44_5 : List PO := [⟨(some 31), (Op.load 23 (Operand.tmp 2)), none⟩,
  ⟨(some 32), (Op.call { callee := (Callee.value (Operand.func 61)), args := #[(Operand.tmp 31), (Operand.const (Value.int IntKind.i64 0))], argTypes := #[23, 3] }), none⟩,
  ⟨none, (Op.store 23 (Operand.tmp 4) (Operand.tmp 32)), none⟩,
  ⟨(some 5), (Op.assign (Operand.const (Value.slice none 0 0))), none⟩]
attribute [go_sem] r44_5
def r44_7 : List PO := [⟨(some 42), (Op.load 23 (Operand.tmp 2)), none⟩,
  ⟨(some 43), (Op.call { callee := (Callee.value (Operand.func 61)), args := #[(Operand.tmp 42), (Operand.const (Value.int IntKind.i64 2))], argTypes := #[23, 3] }), none⟩,
  ⟨(some 7), (Op.alloc 23), none⟩,
  ⟨none, (Op.store 23 (Operand.tmp 7) (Operand.tmp 43)), none⟩]
attribute [go_sem] r44_7
def r44_8 : List PO := [⟨(some 44), (Op.fieldAddr 23 (Operand.tmp 7) 2), none⟩,
  ⟨none, (Op.store 3 (Operand.tmp 44) (Operand.const (Value.int IntKind.i64 90))), none⟩]
attribute [go_sem] r44_8
def r44_9 : List PO := [⟨(some 45), (Op.load 23 (Operand.tmp 7)), none⟩,
  ⟨(some 46), (Op.buildSlice 36 1 #[(0, (Operand.const (Value.int IntKind.i64 1)))]), none⟩,
  ⟨none, (Op.store 23 (Operand.tmp 4) (Operand.tmp 45)), none⟩,
  ⟨(some 5), (Op.assign (Operand.tmp 46)), none⟩]
attribute [go_sem] r44_9
def r44_10 : List PO := [⟨(some 48), (Op.move (Operand.tmp 6)), none⟩,
  ⟨(some 49), (Op.unOp UnOp.not 4 (Operand.tmp 48)), none⟩,
  ⟨(some 47), (Op.assign (Operand.tmp 49)), none⟩]
attribute [go_sem] r44_10
def r44_11 : List PO := [⟨(some 50), (Op.load 23 (Operand.tmp 2)), none⟩,
  ⟨none, (Op.store 23 (Operand.tmp 4) (Operand.tmp 50)), none⟩,
  ⟨(some 5), (Op.assign (Operand.const (Value.slice none 0 0))), none⟩]
attribute [go_sem] r44_11
def r44_12 : List PO := [⟨(some 52), (Op.fieldAddr 39 (Operand.tmp 3) 0), none⟩,
  ⟨(some 53), (Op.load 3 (Operand.tmp 52)), none⟩,
  ⟨(some 54), (Op.binOp BinOp.eql 3 (Operand.tmp 53) (Operand.const (Value.int IntKind.i64 4)) 3), none⟩,
  ⟨(some 51), (Op.assign (Operand.tmp 54)), none⟩]
attribute [go_sem] r44_12
def r44_13 : List PO := [⟨(some 55), (Op.load 23 (Operand.tmp 2)), none⟩,
  ⟨(some 56), (Op.call { callee := (Callee.value (Operand.func 61)), args := #[(Operand.tmp 55), (Operand.const (Value.int IntKind.i64 1))], argTypes := #[23, 3] }), none⟩,
  ⟨none, (Op.store 23 (Operand.tmp 4) (Operand.tmp 56)), none⟩,
  ⟨(some 5), (Op.assign (Operand.const (Value.slice none 0 0))), none⟩]
attribute [go_sem] r44_13
def r44_15 : List PO := [⟨(some 71), (Op.load 23 (Operand.tmp 2)), none⟩,
  ⟨(some 72), (Op.call { callee := (Callee.value (Operand.func 61)), args := #[(Operand.tmp 71), (Operand.const (Value.int IntKind.i64 3))], argTypes := #[23, 3] }), none⟩,
  ⟨(some 8), (Op.alloc 23), none⟩,
  ⟨none, (Op.store 23 (Operand.tmp 8) (Operand.tmp 72)), none⟩]
attribute [go_sem] r44_15
def r44_16 : List PO := [⟨(some 73), (Op.fieldAddr 23 (Operand.tmp 2) 1), none⟩,
  ⟨(some 74), (Op.load 3 (Operand.tmp 73)), none⟩,
  ⟨(some 75), (Op.fieldAddr 39 (Operand.tmp 3) 1), none⟩,
  ⟨(some 76), (Op.load 3 (Operand.tmp 75)), none⟩,
  ⟨(some 77), (Op.call { callee := (Callee.builtin Builtin.min), args := #[(Operand.tmp 74), (Operand.tmp 76)], argTypes := #[3, 3] }), none⟩,
  ⟨(some 78), (Op.fieldAddr 23 (Operand.tmp 8) 1), none⟩,
  ⟨none, (Op.store 3 (Operand.tmp 78) (Operand.tmp 77)), none⟩]
attribute [go_sem] r44_16
def r44_17 : List PO := [⟨(some 79), (Op.fieldAddr 23 (Operand.tmp 8) 1), none⟩,
  ⟨(some 80), (Op.load 3 (Operand.tmp 79)), none⟩,
  ⟨(some 81), (Op.fieldAddr 23 (Operand.tmp 8) 1), none⟩,
  ⟨(some 82), (Op.load 3 (Operand.tmp 81)), none⟩,
  ⟨(some 83), (Op.binOp BinOp.quo 3 (Operand.tmp 82) (Operand.const (Value.int IntKind.i64 3)) 3), none⟩,
  ⟨(some 84), (Op.fieldAddr 23 (Operand.tmp 8) 2), none⟩,
  ⟨none, (Op.store 3 (Operand.tmp 84) (Operand.tmp 80)), none⟩,
  ⟨(some 85), (Op.fieldAddr 23 (Operand.tmp 8) 3), none⟩,
  ⟨none, (Op.store 3 (Operand.tmp 85) (Operand.tmp 83)), none⟩]
attribute [go_sem] r44_17
def r44_18 : List PO := [⟨(some 86), (Op.load 23 (Operand.tmp 8)), none⟩,
  ⟨(some 87), (Op.buildSlice 36 1 #[(0, (Operand.const (Value.int IntKind.i64 4)))]), none⟩,
  ⟨none, (Op.store 23 (Operand.tmp 4) (Operand.tmp 86)), none⟩,
  ⟨(some 5), (Op.assign (Operand.tmp 87)), none⟩]
attribute [go_sem] r44_18
def r44_20 : List PO := [⟨(some 97), (Op.fieldAddr 23 (Operand.tmp 2) 1), none⟩,
  ⟨(some 98), (Op.load 3 (Operand.tmp 97)), none⟩,
  ⟨(some 99), (Op.fieldAddr 23 (Operand.tmp 2) 4), none⟩,
  ⟨(some 100), (Op.load 3 (Operand.tmp 99)), none⟩,
  ⟨(some 101), (Op.binOp BinOp.add 3 (Operand.tmp 100) (Operand.const (Value.int IntKind.i64 1)) 3), none⟩,
  ⟨(some 102), (Op.call { callee := (Callee.builtin Builtin.min), args := #[(Operand.const (Value.int IntKind.i64 1000)), (Operand.tmp 101)], argTypes := #[3, 3] }), none⟩,
  ⟨(some 103), (Op.fieldAddr 23 (Operand.tmp 2) 0), none⟩,
  ⟨none, (Op.store 3 (Operand.tmp 103) (Operand.const (Value.int IntKind.i64 4))), none⟩,
  ⟨(some 104), (Op.fieldAddr 23 (Operand.tmp 2) 2), none⟩,
  ⟨none, (Op.store 3 (Operand.tmp 104) (Operand.tmp 98)), none⟩,
  ⟨(some 105), (Op.fieldAddr 23 (Operand.tmp 2) 4), none⟩,
  ⟨none, (Op.store 3 (Operand.tmp 105) (Operand.tmp 102)), none⟩]
attribute [go_sem] r44_20
def r44_21 : List PO := [⟨(some 106), (Op.load 23 (Operand.tmp 2)), none⟩,
  ⟨none, (Op.store 23 (Operand.tmp 4) (Operand.tmp 106)), none⟩,
  ⟨(some 5), (Op.assign (Operand.const (Value.slice none 0 0))), none⟩]
attribute [go_sem] r44_21
def r44_23 : List PO := [⟨(some 121), (Op.fieldAddr 23 (Operand.tmp 2) 1), none⟩,
  ⟨(some 122), (Op.load 3 (Operand.tmp 121)), none⟩,
  ⟨(some 123), (Op.fieldAddr 23 (Operand.tmp 2) 2), none⟩,
  ⟨none, (Op.store 3 (Operand.tmp 123) (Operand.tmp 122)), none⟩]
attribute [go_sem] r44_23
def r44_24 : List PO := [⟨(some 124), (Op.load 23 (Operand.tmp 2)), none⟩,
  ⟨none, (Op.store 23 (Operand.tmp 4) (Operand.tmp 124)), none⟩,
  ⟨(some 5), (Op.assign (Operand.const (Value.slice none 0 0))), none⟩]
attribute [go_sem] r44_24
def r44_25 : List PO := [⟨(some 126), (Op.fieldAddr 39 (Operand.tmp 3) 0), none⟩,
  ⟨(some 127), (Op.load 3 (Operand.tmp 126)), none⟩,
  ⟨(some 128), (Op.binOp BinOp.eql 3 (Operand.tmp 127) (Operand.const (Value.int IntKind.i64 9)) 3), none⟩,
  ⟨(some 125), (Op.assign (Operand.tmp 128)), none⟩]
attribute [go_sem] r44_25
def r44_26 : List PO := [⟨(some 129), (Op.load 23 (Operand.tmp 2)), none⟩,
  ⟨(some 130), (Op.call { callee := (Callee.value (Operand.func 61)), args := #[(Operand.tmp 129), (Operand.const (Value.int IntKind.i64 0))], argTypes := #[23, 3] }), none⟩,
  ⟨none, (Op.store 23 (Operand.tmp 4) (Operand.tmp 130)), none⟩,
  ⟨(some 5), (Op.assign (Operand.const (Value.slice none 0 0))), none⟩]
attribute [go_sem] r44_26
def r44_27 : List PO := [⟨(some 132), (Op.fieldAddr 39 (Operand.tmp 3) 0), none⟩,
  ⟨(some 133), (Op.load 3 (Operand.tmp 132)), none⟩,
  ⟨(some 134), (Op.binOp BinOp.eql 3 (Operand.tmp 133) (Operand.const (Value.int IntKind.i64 10)) 3), none⟩,
  ⟨(some 131), (Op.assign (Operand.tmp 134)), none⟩]
attribute [go_sem] r44_27
def r44_28 : List PO := [⟨(some 135), (Op.load 23 (Operand.tmp 2)), none⟩,
  ⟨(some 136), (Op.call { callee := (Callee.value (Operand.func 62)), args := #[(Operand.tmp 135)], argTypes := #[23] }), none⟩,
  ⟨(some 137), (Op.extract (Operand.tmp 136) 0), none⟩,
  ⟨(some 138), (Op.extract (Operand.tmp 136) 1), none⟩,
  ⟨none, (Op.store 23 (Operand.tmp 4) (Operand.tmp 137)), none⟩,
  ⟨(some 5), (Op.assign (Operand.tmp 138)), none⟩]
attribute [go_sem] r44_28
def r44_29 : List PO := [⟨(some 139), (Op.load 23 (Operand.tmp 2)), none⟩,
  ⟨(some 140), (Op.call { callee := (Callee.value (Operand.func 61)), args := #[(Operand.tmp 139), (Operand.const (Value.int IntKind.i64 0))], argTypes := #[23, 3] }), none⟩,
  ⟨(some 141), (Op.buildSlice 36 1 #[(0, (Operand.const (Value.int IntKind.i64 3)))]), none⟩,
  ⟨none, (Op.store 23 (Operand.tmp 4) (Operand.tmp 140)), none⟩,
  ⟨(some 5), (Op.assign (Operand.tmp 141)), none⟩]
attribute [go_sem] r44_29
def c44 : PC := (.seq (.reg r44_0) (.seq (.reg r44_1) (.seq (.block 0 (.seq (.pre ⟨[2, 3, 4, 6], [.old 0, .old 1, .old 2]⟩ k44_1) (.cond (Operand.tmp 12) (.seq (.reg r44_3) .ret) (.seq (.pre ⟨[2, 3, 4, 6], [.old 0, .old 1, .old 2]⟩ k44_2) (.cond (Operand.tmp 23) (.seq (.reg r44_5) .ret) (.seq (.pre ⟨[2, 3, 4, 6], [.old 0, .old 1, .old 2]⟩ k44_3) (.cond (Operand.tmp 33) (.seq (.reg r44_7) (.seq (.reg r44_8) (.seq (.reg r44_9) .ret))) (.seq (.reg r44_10) (.cond (Operand.tmp 47) (.seq (.reg r44_11) .ret) (.seq (.reg r44_12) (.cond (Operand.tmp 51) (.seq (.reg r44_13) .ret) (.seq (.pre ⟨[2, 3, 4], [.old 0, .old 1, .old 2]⟩ k44_4) (.cond (Operand.tmp 57) (.seq (.reg r44_15) (.seq (.reg r44_16) (.seq (.reg r44_17) (.seq (.reg r44_18) .ret)))) (.seq (.pre ⟨[2, 3, 4], [.old 0, .old 1, .old 2]⟩ k44_5) (.cond (Operand.tmp 88) (.seq (.reg r44_20) (.seq (.reg r44_21) .ret)) (.seq (.pre ⟨[2, 3, 4], [.old 0, .old 1, .old 2]⟩ k44_6) (.cond (Operand.tmp 107) (.seq (.reg r44_23) (.seq (.reg r44_24) .ret)) (.seq (.reg r44_25) (.cond (Operand.tmp 125) (.seq (.reg r44_26) .ret) (.seq (.reg r44_27) (.cond (Operand.tmp 131) (.seq (.reg r44_28) .ret) .skip))))))))))))))))))))) (.seq (.reg r44_29) .ret))))
def i44 : FnI := ⟨142, [(ResultVar.cell 4 23), (ResultVar.tmp 5)], c44, 0, [[0, 0, 0, 0, 0], [0, 0]], [[0, 0, 0, 0, 0], [1]], false, false, 0⟩
-- loop.example/g00344/impl.PlayEvents
def r28_2 : List PO := [⟨(some 19), (Op.move (Operand.tmp 8)), none⟩,
  ⟨(some 20), (Op.unOp UnOp.not 4 (Operand.tmp 19)), none⟩,
  ⟨(some 21), (Op.move (Operand.tmp 20)), none⟩,
  ⟨(some 22), (Op.move (Operand.tmp 1)), (some (21, false))⟩,
  ⟨(some 23), (Op.call { callee := (Callee.builtin Builtin.len), args := #[(Operand.tmp 22)], argTypes := #[47] }), (some (21, false))⟩,
  ⟨(some 24), (Op.binOp BinOp.gtr 3 (Operand.tmp 23) (Operand.const (Value.int IntKind.i64 100)) 3), (some (21, false))⟩,
  ⟨(some 25), (Op.pick (Operand.tmp 21) (Operand.const (Value.bool true)) (Operand.tmp 24)), none⟩,
  ⟨(some 26), (Op.move (Operand.tmp 25)), none⟩,
  ⟨(some 27), (Op.move (Operand.tmp 1)), (some (26, false))⟩,
  ⟨(some 28), (Op.call { callee := (Callee.value (Operand.func 45)), args := #[(Operand.tmp 27), (Operand.func 46)], argTypes := #[47, 67] }), (some (26, false))⟩,
  ⟨(some 29), (Op.pick (Operand.tmp 26) (Operand.const (Value.bool true)) (Operand.tmp 28)), none⟩]
attribute [go_sem] r28_2
def k28_1 : PC := (.post (.reg r28_2) ⟨[1, 4, 7, 29], [.old 0, .old 1]⟩)
def r28_6 : List PO := [⟨(some 35), (Op.binOp BinOp.lss 3 (Operand.tmp 34) (Operand.tmp 33) 3), none⟩]
attribute [go_sem] r28_6
def r28_7 : List PO := [⟨(some 36), (Op.indexAddr 47 (Operand.tmp 32) (Operand.tmp 34)), none⟩,
  ⟨(some 37), (Op.load 39 (Operand.tmp 36)), none⟩,
  ⟨(some 11), (Op.alloc 39), none⟩,
  ⟨none, (Op.store 39 (Operand.tmp 11) (Operand.tmp 37)), none⟩]
attribute [go_sem] r28_7
def r28_8 : List PO := [⟨(some 39), (Op.load 23 (Operand.tmp 7)), none⟩,
  ⟨(some 40), (Op.load 39 (Operand.tmp 11)), none⟩,
  ⟨(some 41), (Op.call { callee := (Callee.value (Operand.func 44)), args := #[(Operand.tmp 39), (Operand.tmp 40)], argTypes := #[23, 39] }), none⟩,
  ⟨(some 38), (Op.move (Operand.tmp 41)), none⟩,
  ⟨(some 42), (Op.extract (Operand.tmp 38) 0), none⟩,
  ⟨(some 43), (Op.extract (Operand.tmp 38) 1), none⟩,
  ⟨(some 12), (Op.alloc 23), none⟩,
  ⟨none, (Op.store 23 (Operand.tmp 12) (Operand.tmp 42)), none⟩,
  ⟨(some 13), (Op.assign (Operand.tmp 43)), none⟩]
attribute [go_sem] r28_8
def r28_9 : List PO := [⟨(some 44), (Op.load 23 (Operand.tmp 12)), none⟩,
  ⟨none, (Op.store 23 (Operand.tmp 7) (Operand.tmp 44)), none⟩]
attribute [go_sem] r28_9
def r28_10 : List PO := [⟨(some 45), (Op.move (Operand.tmp 9)), none⟩,
  ⟨(some 46), (Op.move (Operand.tmp 13)), none⟩,
  ⟨(some 47), (Op.call { callee := (Callee.builtin Builtin.append), args := #[(Operand.tmp 45), (Operand.tmp 46)], argTypes := #[36, 36] }), none⟩,
  ⟨(some 9), (Op.assign (Operand.tmp 47)), none⟩]
attribute [go_sem] r28_10
def r28_11 : List PO := [⟨(some 48), (Op.binOp BinOp.add 3 (Operand.tmp 34) (Operand.const (Value.int IntKind.i64 1)) 3), none⟩,
  ⟨(some 34), (Op.move (Operand.tmp 48)), none⟩]
attribute [go_sem] r28_11
def k28_2b : PC := (.seq (.reg r28_6) (.seq (.cond (Operand.tmp 35) .skip (.pre ⟨[4, 7, 9], [.old 0, .old 1, .old 2]⟩ (.exit 0))) (.seq (.block 1 (.seq (.reg r28_7) (.seq (.reg r28_8) (.seq (.reg r28_9) (.reg r28_10))))) (.post (.reg r28_11) ⟨[4, 7, 9, 32, 33, 34], [.old 0, .old 1, .old 6]⟩))))
def r28_0 : List PO := [⟨(some 4), (Op.alloc 23), none⟩,
  ⟨(some 5), (Op.assign (Operand.const (Value.slice none 0 0))), none⟩,
  ⟨(some 6), (Op.assign (Operand.const (Value.bool false))), none⟩]
attribute [go_sem] r28_0
def r28_1 : List PO := [⟨(some 15), (Op.move (Operand.tmp 0)), none⟩,
  ⟨(some 16), (Op.call { callee := (Callee.value (Operand.func 12)), args := #[(Operand.tmp 15)], argTypes := #[3] }), none⟩,
  ⟨(some 14), (Op.move (Operand.tmp 16)), none⟩,
  ⟨(some 17), (Op.extract (Operand.tmp 14) 0), none⟩,
  ⟨(some 18), (Op.extract (Operand.tmp 14) 1), none⟩,
  ⟨(some 7), (Op.alloc 23), none⟩,
  ⟨none, (Op.store 23 (Operand.tmp 7) (Operand.tmp 17)), none⟩,
  ⟨(some 8), (Op.assign (Operand.tmp 18)), none⟩]
attribute [go_sem] r28_1
def r28_3 : List PO := [⟨(some 30), (Op.build 23 #[]), none⟩,
  ⟨none, (Op.store 23 (Operand.tmp 4) (Operand.tmp 30)), none⟩,
  ⟨(some 5), (Op.assign (Operand.const (Value.slice none 0 0))), none⟩,
  ⟨(some 6), (Op.assign (Operand.const (Value.bool false))), none⟩]
attribute [go_sem] r28_3
def r28_4 : List PO := [⟨(some 31), (Op.buildSlice 36 0 #[]), none⟩,
  ⟨(some 9), (Op.assign (Operand.tmp 31)), none⟩]
attribute [go_sem] r28_4
def r28_5 : List PO := [⟨(some 32), (Op.move (Operand.tmp 1)), none⟩,
  ⟨(some 33), (Op.call { callee := (Callee.builtin Builtin.len), args := #[(Operand.tmp 32)], argTypes := #[47] }), none⟩,
  ⟨(some 34), (Op.move (Operand.const (Value.int IntKind.i64 0))), none⟩]
attribute [go_sem] r28_5
def r28_12 : List PO := [⟨(some 49), (Op.load 23 (Operand.tmp 7)), none⟩,
  ⟨(some 50), (Op.move (Operand.tmp 9)), none⟩,
  ⟨none, (Op.store 23 (Operand.tmp 4) (Operand.tmp 49)), none⟩,
  ⟨(some 5), (Op.assign (Operand.tmp 50)), none⟩,
  ⟨(some 6), (Op.assign (Operand.const (Value.bool true))), none⟩]
attribute [go_sem] r28_12
def c28 : PC := (.seq (.reg r28_0) (.seq (.reg r28_1) (.seq (.seq (.pre ⟨[1, 4, 7, 8], [.old 0, .old 1]⟩ k28_1) (.cond (Operand.tmp 29) (.seq (.reg r28_3) .ret) .skip)) (.seq (.reg r28_4) (.seq (.seq (.reg r28_5) (.block 0 (.pre ⟨[4, 7, 9, 32, 33, 34], [.old 0, .old 1, .old 2]⟩ (.loop k28_2b)))) (.seq (.reg r28_12) .ret))))))
def i28 : FnI := ⟨51, [(ResultVar.cell 4 23), (ResultVar.tmp 5), (ResultVar.tmp 6)], c28, 0, [[0], [2]], [[0, 0, 0, 0, 0], [1], [0]], false, false, 0⟩
-- loop.example/g00344/laws.eqSession
def r13_0 : List PO := [⟨(some 2), (Op.box 23 (Operand.tmp 0)), none⟩,
  ⟨(some 3), (Op.box 23 (Operand.tmp 1)), none⟩,
  ⟨(some 4), (Op.assign (Operand.const (Value.bool false))), none⟩]
attribute [go_sem] r13_0
def r13_1 : List PO := [⟨(some 5), (Op.fieldAddr 23 (Operand.tmp 2) 0), none⟩,
  ⟨(some 6), (Op.load 3 (Operand.tmp 5)), none⟩,
  ⟨(some 7), (Op.fieldAddr 23 (Operand.tmp 3) 0), none⟩,
  ⟨(some 8), (Op.load 3 (Operand.tmp 7)), none⟩,
  ⟨(some 9), (Op.binOp BinOp.neq 3 (Operand.tmp 6) (Operand.tmp 8) 3), none⟩]
attribute [go_sem] r13_1
def r13_2 : List PO := [⟨(some 4), (Op.assign (Operand.const (Value.bool false))), none⟩]
attribute [go_sem] r13_2
def r13_3 : List PO := [⟨(some 10), (Op.fieldAddr 23 (Operand.tmp 2) 1), none⟩,
  ⟨(some 11), (Op.load 3 (Operand.tmp 10)), none⟩,
  ⟨(some 12), (Op.fieldAddr 23 (Operand.tmp 3) 1), none⟩,
  ⟨(some 13), (Op.load 3 (Operand.tmp 12)), none⟩,
  ⟨(some 14), (Op.binOp BinOp.neq 3 (Operand.tmp 11) (Operand.tmp 13) 3), none⟩]
attribute [go_sem] r13_3
def r13_4 : List PO := [⟨(some 4), (Op.assign (Operand.const (Value.bool false))), none⟩]
attribute [go_sem] r13_4
def r13_5 : List PO := [⟨(some 15), (Op.fieldAddr 23 (Operand.tmp 2) 2), none⟩,
  ⟨(some 16), (Op.load 3 (Operand.tmp 15)), none⟩,
  ⟨(some 17), (Op.fieldAddr 23 (Operand.tmp 3) 2), none⟩,
  ⟨(some 18), (Op.load 3 (Operand.tmp 17)), none⟩,
  ⟨(some 19), (Op.binOp BinOp.neq 3 (Operand.tmp 16) (Operand.tmp 18) 3), none⟩]
attribute [go_sem] r13_5
def r13_6 : List PO := [⟨(some 4), (Op.assign (Operand.const (Value.bool false))), none⟩]
attribute [go_sem] r13_6
def r13_7 : List PO := [⟨(some 20), (Op.fieldAddr 23 (Operand.tmp 2) 3), none⟩,
  ⟨(some 21), (Op.load 3 (Operand.tmp 20)), none⟩,
  ⟨(some 22), (Op.fieldAddr 23 (Operand.tmp 3) 3), none⟩,
  ⟨(some 23), (Op.load 3 (Operand.tmp 22)), none⟩,
  ⟨(some 24), (Op.binOp BinOp.neq 3 (Operand.tmp 21) (Operand.tmp 23) 3), none⟩]
attribute [go_sem] r13_7
def r13_8 : List PO := [⟨(some 4), (Op.assign (Operand.const (Value.bool false))), none⟩]
attribute [go_sem] r13_8
def r13_9 : List PO := [⟨(some 25), (Op.fieldAddr 23 (Operand.tmp 2) 4), none⟩,
  ⟨(some 26), (Op.load 3 (Operand.tmp 25)), none⟩,
  ⟨(some 27), (Op.fieldAddr 23 (Operand.tmp 3) 4), none⟩,
  ⟨(some 28), (Op.load 3 (Operand.tmp 27)), none⟩,
  ⟨(some 29), (Op.binOp BinOp.neq 3 (Operand.tmp 26) (Operand.tmp 28) 3), none⟩]
attribute [go_sem] r13_9
def r13_10 : List PO := [⟨(some 4), (Op.assign (Operand.const (Value.bool false))), none⟩]
attribute [go_sem] r13_10
def r13_11 : List PO := [⟨(some 4), (Op.assign (Operand.const (Value.bool true))), none⟩]
attribute [go_sem] r13_11
def c13 : PC := (.seq (.reg r13_0) (.seq (.seq (.reg r13_1) (.cond (Operand.tmp 9) (.seq (.reg r13_2) .ret) .skip)) (.seq (.seq (.reg r13_3) (.cond (Operand.tmp 14) (.seq (.reg r13_4) .ret) .skip)) (.seq (.seq (.reg r13_5) (.cond (Operand.tmp 19) (.seq (.reg r13_6) .ret) .skip)) (.seq (.seq (.reg r13_7) (.cond (Operand.tmp 24) (.seq (.reg r13_8) .ret) .skip)) (.seq (.seq (.reg r13_9) (.cond (Operand.tmp 29) (.seq (.reg r13_10) .ret) .skip)) (.seq (.reg r13_11) .ret)))))))
def i13 : FnI := ⟨30, [(ResultVar.tmp 4)], c13, 0, [[0, 0, 0, 0, 0], [0, 0, 0, 0, 0]], [[0]], false, false, 0⟩
-- loop.example/g00344/laws.eqIntS
def r22_4 : List PO := [⟨(some 11), (Op.move (Operand.tmp 5)), none⟩,
  ⟨(some 12), (Op.move (Operand.tmp 0)), none⟩,
  ⟨(some 13), (Op.call { callee := (Callee.builtin Builtin.len), args := #[(Operand.tmp 12)], argTypes := #[36] }), none⟩,
  ⟨(some 14), (Op.binOp BinOp.lss 3 (Operand.tmp 11) (Operand.tmp 13) 3), none⟩]
attribute [go_sem] r22_4
def r22_6 : List PO := [⟨(some 17), (Op.move (Operand.tmp 0)), none⟩,
  ⟨(some 18), (Op.move (Operand.tmp 5)), none⟩,
  ⟨(some 19), (Op.indexAddr 36 (Operand.tmp 17) (Operand.tmp 18)), none⟩,
  ⟨(some 20), (Op.load 3 (Operand.tmp 19)), none⟩,
  ⟨(some 21), (Op.move (Operand.tmp 1)), none⟩,
  ⟨(some 22), (Op.move (Operand.tmp 5)), none⟩,
  ⟨(some 23), (Op.indexAddr 36 (Operand.tmp 21) (Operand.tmp 22)), none⟩,
  ⟨(some 24), (Op.load 3 (Operand.tmp 23)), none⟩,
  ⟨(some 25), (Op.binOp BinOp.neq 3 (Operand.tmp 20) (Operand.tmp 24) 3), none⟩]
attribute [go_sem] r22_6
def r22_7 : List PO := [⟨(some 4), (Op.assign (Operand.const (Value.bool false))), none⟩]
attribute [go_sem] r22_7
def r22_5 : List PO := [⟨(some 15), (Op.move (Operand.tmp 5)), none⟩,
  ⟨(some 16), (Op.binOp BinOp.add 3 (Operand.tmp 15) (Operand.const (Value.int IntKind.i64 1)) 3), none⟩,
  ⟨(some 5), (Op.assign (Operand.tmp 16)), none⟩]
attribute [go_sem] r22_5
def k22_1b : PC := (.seq (.seq (.reg r22_4) (.cond (Operand.tmp 14) .skip (.pre ⟨[], []⟩ (.exit 0)))) (.seq (.block 1 (.seq (.fz r22_6) (.cond (Operand.tmp 25) (.seq (.reg r22_7) (.pre ⟨[4], []⟩ .ret)) .skip))) (.post (.reg r22_5) ⟨[0, 1, 5], []⟩)))
def r22_0 : List PO := [⟨(some 4), (Op.assign (Operand.const (Value.bool false))), none⟩]
attribute [go_sem] r22_0
def r22_1 : List PO := [⟨(some 6), (Op.move (Operand.tmp 0)), none⟩,
  ⟨(some 7), (Op.call { callee := (Callee.builtin Builtin.len), args := #[(Operand.tmp 6)], argTypes := #[36] }), none⟩,
  ⟨(some 8), (Op.move (Operand.tmp 1)), none⟩,
  ⟨(some 9), (Op.call { callee := (Callee.builtin Builtin.len), args := #[(Operand.tmp 8)], argTypes := #[36] }), none⟩,
  ⟨(some 10), (Op.binOp BinOp.neq 3 (Operand.tmp 7) (Operand.tmp 9) 3), none⟩]
attribute [go_sem] r22_1
def r22_2 : List PO := [⟨(some 4), (Op.assign (Operand.const (Value.bool false))), none⟩]
attribute [go_sem] r22_2
def r22_3 : List PO := [⟨(some 5), (Op.assign (Operand.const (Value.int IntKind.i64 0))), none⟩]
attribute [go_sem] r22_3
def r22_8 : List PO := [⟨(some 4), (Op.assign (Operand.const (Value.bool true))), none⟩]
attribute [go_sem] r22_8
def c22 : PC := (.seq (.reg r22_0) (.seq (.seq (.reg r22_1) (.cond (Operand.tmp 10) (.seq (.reg r22_2) .ret) .skip)) (.seq (.seq (.reg r22_3) (.block 0 (.pre ⟨[0, 1, 5], []⟩ (.loop k22_1b)))) (.seq (.reg r22_8) .ret))))
def i22 : FnI := ⟨26, [(ResultVar.tmp 4)], c22, 0, [[1], [1]], [[0]], false, false, 0⟩
-- loop.example/g00344/laws.eqEvent
def r47_0 : List PO := [⟨(some 2), (Op.box 39 (Operand.tmp 0)), none⟩,
  ⟨(some 3), (Op.box 39 (Operand.tmp 1)), none⟩,
  ⟨(some 4), (Op.assign (Operand.const (Value.bool false))), none⟩]
attribute [go_sem] r47_0
def r47_1 : List PO := [⟨(some 5), (Op.fieldAddr 39 (Operand.tmp 2) 0), none⟩,
  ⟨(some 6), (Op.load 3 (Operand.tmp 5)), none⟩,
  ⟨(some 7), (Op.fieldAddr 39 (Operand.tmp 3) 0), none⟩,
  ⟨(some 8), (Op.load 3 (Operand.tmp 7)), none⟩,
  ⟨(some 9), (Op.binOp BinOp.neq 3 (Operand.tmp 6) (Operand.tmp 8) 3), none⟩]
attribute [go_sem] r47_1
def r47_2 : List PO := [⟨(some 4), (Op.assign (Operand.const (Value.bool false))), none⟩]
attribute [go_sem] r47_2
def r47_3 : List PO := [⟨(some 10), (Op.fieldAddr 39 (Operand.tmp 2) 1), none⟩,
  ⟨(some 11), (Op.load 3 (Operand.tmp 10)), none⟩,
  ⟨(some 12), (Op.fieldAddr 39 (Operand.tmp 3) 1), none⟩,
  ⟨(some 13), (Op.load 3 (Operand.tmp 12)), none⟩,
  ⟨(some 14), (Op.binOp BinOp.neq 3 (Operand.tmp 11) (Operand.tmp 13) 3), none⟩]
attribute [go_sem] r47_3
def r47_4 : List PO := [⟨(some 4), (Op.assign (Operand.const (Value.bool false))), none⟩]
attribute [go_sem] r47_4
def r47_5 : List PO := [⟨(some 4), (Op.assign (Operand.const (Value.bool true))), none⟩]
attribute [go_sem] r47_5
def c47 : PC := (.seq (.reg r47_0) (.seq (.seq (.reg r47_1) (.cond (Operand.tmp 9) (.seq (.reg r47_2) .ret) .skip)) (.seq (.seq (.reg r47_3) (.cond (Operand.tmp 14) (.seq (.reg r47_4) .ret) .skip)) (.seq (.reg r47_5) .ret))))
def i47 : FnI := ⟨15, [(ResultVar.tmp 4)], c47, 0, [[0, 0], [0, 0]], [[0]], false, false, 0⟩
-- loop.example/g00344/laws.eqEventS
def r29_4 : List PO := [⟨(some 11), (Op.move (Operand.tmp 5)), none⟩,
  ⟨(some 12), (Op.move (Operand.tmp 0)), none⟩,
  ⟨(some 13), (Op.call { callee := (Callee.builtin Builtin.len), args := #[(Operand.tmp 12)], argTypes := #[47] }), none⟩,
  ⟨(some 14), (Op.binOp BinOp.lss 3 (Operand.tmp 11) (Operand.tmp 13) 3), none⟩]
attribute [go_sem] r29_4
def r29_6 : List PO := [⟨(some 17), (Op.move (Operand.tmp 0)), none⟩,
  ⟨(some 18), (Op.move (Operand.tmp 5)), none⟩,
  ⟨(some 19), (Op.indexAddr 47 (Operand.tmp 17) (Operand.tmp 18)), none⟩,
  ⟨(some 20), (Op.load 39 (Operand.tmp 19)), none⟩,
  ⟨(some 21), (Op.move (Operand.tmp 1)), none⟩,
  ⟨(some 22), (Op.move (Operand.tmp 5)), none⟩,
  ⟨(some 23), (Op.indexAddr 47 (Operand.tmp 21) (Operand.tmp 22)), none⟩,
  ⟨(some 24), (Op.load 39 (Operand.tmp 23)), none⟩,
  ⟨(some 25), (Op.call { callee := (Callee.value (Operand.func 47)), args := #[(Operand.tmp 20), (Operand.tmp 24)], argTypes := #[39, 39] }), none⟩,
  ⟨(some 26), (Op.unOp UnOp.not 4 (Operand.tmp 25)), none⟩]
attribute [go_sem] r29_6
def r29_7 : List PO := [⟨(some 4), (Op.assign (Operand.const (Value.bool false))), none⟩]
attribute [go_sem] r29_7
def r29_5 : List PO := [⟨(some 15), (Op.move (Operand.tmp 5)), none⟩,
  ⟨(some 16), (Op.binOp BinOp.add 3 (Operand.tmp 15) (Operand.const (Value.int IntKind.i64 1)) 3), none⟩,
  ⟨(some 5), (Op.assign (Operand.tmp 16)), none⟩]
attribute [go_sem] r29_5
def k29_1b : PC := (.seq (.seq (.reg r29_4) (.cond (Operand.tmp 14) .skip (.pre ⟨[], []⟩ (.exit 0)))) (.seq (.block 1 (.seq (.fz r29_6) (.cond (Operand.tmp 26) (.seq (.reg r29_7) (.pre ⟨[4], []⟩ .ret)) .skip))) (.post (.reg r29_5) ⟨[0, 1, 5], []⟩)))
def r29_0 : List PO := [⟨(some 4), (Op.assign (Operand.const (Value.bool false))), none⟩]
attribute [go_sem] r29_0
def r29_1 : List PO := [⟨(some 6), (Op.move (Operand.tmp 0)), none⟩,
  ⟨(some 7), (Op.call { callee := (Callee.builtin Builtin.len), args := #[(Operand.tmp 6)], argTypes := #[47] }), none⟩,
  ⟨(some 8), (Op.move (Operand.tmp 1)), none⟩,
  ⟨(some 9), (Op.call { callee := (Callee.builtin Builtin.len), args := #[(Operand.tmp 8)], argTypes := #[47] }), none⟩,
  ⟨(some 10), (Op.binOp BinOp.neq 3 (Operand.tmp 7) (Operand.tmp 9) 3), none⟩]
attribute [go_sem] r29_1
def r29_2 : List PO := [⟨(some 4), (Op.assign (Operand.const (Value.bool false))), none⟩]
attribute [go_sem] r29_2
def r29_3 : List PO := [⟨(some 5), (Op.assign (Operand.const (Value.int IntKind.i64 0))), none⟩]
attribute [go_sem] r29_3
def r29_8 : List PO := [⟨(some 4), (Op.assign (Operand.const (Value.bool true))), none⟩]
attribute [go_sem] r29_8
def c29 : PC := (.seq (.reg r29_0) (.seq (.seq (.reg r29_1) (.cond (Operand.tmp 10) (.seq (.reg r29_2) .ret) .skip)) (.seq (.seq (.reg r29_3) (.block 0 (.pre ⟨[0, 1, 5], []⟩ (.loop k29_1b)))) (.seq (.reg r29_8) .ret))))
def i29 : FnI := ⟨27, [(ResultVar.tmp 4)], c29, 0, [[2], [2]], [[0]], false, false, 0⟩
-- loop.example/g00344/laws.markEventS
def r30_2 : List PO := [⟨(some 6), (Op.move (Operand.tmp 5)), none⟩,
  ⟨(some 7), (Op.move (Operand.tmp 0)), none⟩,
  ⟨(some 8), (Op.call { callee := (Callee.builtin Builtin.len), args := #[(Operand.tmp 7)], argTypes := #[47] }), none⟩,
  ⟨(some 9), (Op.binOp BinOp.lss 3 (Operand.tmp 6) (Operand.tmp 8) 3), none⟩]
attribute [go_sem] r30_2
def r30_4 : List PO := [⟨(some 12), (Op.move (Operand.tmp 0)), none⟩,
  ⟨(some 13), (Op.move (Operand.tmp 5)), none⟩,
  ⟨(some 14), (Op.move (Operand.tmp 1)), none⟩,
  ⟨(some 15), (Op.indexAddr 47 (Operand.tmp 12) (Operand.tmp 13)), none⟩,
  ⟨(some 16), (Op.fieldAddr 39 (Operand.tmp 15) 0), none⟩,
  ⟨none, (Op.store 3 (Operand.tmp 16) (Operand.tmp 14)), none⟩]
attribute [go_sem] r30_4
def r30_5 : List PO := [⟨(some 17), (Op.move (Operand.tmp 1)), none⟩,
  ⟨(some 18), (Op.binOp BinOp.add 3 (Operand.tmp 17) (Operand.const (Value.int IntKind.i64 1)) 3), none⟩,
  ⟨(some 1), (Op.assign (Operand.tmp 18)), none⟩]
attribute [go_sem] r30_5
def r30_6 : List PO := [⟨(some 19), (Op.move (Operand.tmp 0)), none⟩,
  ⟨(some 20), (Op.move (Operand.tmp 5)), none⟩,
  ⟨(some 21), (Op.move (Operand.tmp 1)), none⟩,
  ⟨(some 22), (Op.indexAddr 47 (Operand.tmp 19) (Operand.tmp 20)), none⟩,
  ⟨(some 23), (Op.fieldAddr 39 (Operand.tmp 22) 1), none⟩,
  ⟨none, (Op.store 3 (Operand.tmp 23) (Operand.tmp 21)), none⟩]
attribute [go_sem] r30_6
def r30_7 : List PO := [⟨(some 24), (Op.move (Operand.tmp 1)), none⟩,
  ⟨(some 25), (Op.binOp BinOp.add 3 (Operand.tmp 24) (Operand.const (Value.int IntKind.i64 1)) 3), none⟩,
  ⟨(some 1), (Op.assign (Operand.tmp 25)), none⟩]
attribute [go_sem] r30_7
def r30_3 : List PO := [⟨(some 10), (Op.move (Operand.tmp 5)), none⟩,
  ⟨(some 11), (Op.binOp BinOp.add 3 (Operand.tmp 10) (Operand.const (Value.int IntKind.i64 1)) 3), none⟩,
  ⟨(some 5), (Op.assign (Operand.tmp 11)), none⟩]
attribute [go_sem] r30_3
def k30_1b : PC := (.seq (.seq (.reg r30_2) (.cond (Operand.tmp 9) .skip (.pre ⟨[1], []⟩ (.exit 0)))) (.seq (.block 1 (.seq (.reg r30_4) (.seq (.reg r30_5) (.seq (.reg r30_6) (.reg r30_7))))) (.post (.reg r30_3) ⟨[0, 1, 5], []⟩)))
def r30_0 : List PO := [⟨(some 4), (Op.assign (Operand.const (Value.int IntKind.i64 0))), none⟩]
attribute [go_sem] r30_0
def r30_1 : List PO := [⟨(some 5), (Op.assign (Operand.const (Value.int IntKind.i64 0))), none⟩]
attribute [go_sem] r30_1
def r30_8 : List PO := [⟨(some 26), (Op.move (Operand.tmp 1)), none⟩,
  ⟨(some 4), (Op.assign (Operand.tmp 26)), none⟩]
attribute [go_sem] r30_8
def c30 : PC := (.seq (.reg r30_0) (.seq (.seq (.reg r30_1) (.block 0 (.pre ⟨[0, 1, 5], []⟩ (.loop k30_1b)))) (.seq (.reg r30_8) (.pre ⟨[4], []⟩ .ret))))
def i30 : FnI := ⟨27, [(ResultVar.tmp 4)], c30, 3, [[2], [0]], [[0]], false, true, 1⟩
-- loop.example/g00344/laws.markIntS
def r23_2 : List PO := [⟨(some 6), (Op.move (Operand.tmp 5)), none⟩,
  ⟨(some 7), (Op.move (Operand.tmp 0)), none⟩,
  ⟨(some 8), (Op.call { callee := (Callee.builtin Builtin.len), args := #[(Operand.tmp 7)], argTypes := #[36] }), none⟩,
  ⟨(some 9), (Op.binOp BinOp.lss 3 (Operand.tmp 6) (Operand.tmp 8) 3), none⟩]
attribute [go_sem] r23_2
def r23_4 : List PO := [⟨(some 12), (Op.move (Operand.tmp 0)), none⟩,
  ⟨(some 13), (Op.move (Operand.tmp 5)), none⟩,
  ⟨(some 14), (Op.move (Operand.tmp 1)), none⟩,
  ⟨(some 15), (Op.indexAddr 36 (Operand.tmp 12) (Operand.tmp 13)), none⟩,
  ⟨none, (Op.store 3 (Operand.tmp 15) (Operand.tmp 14)), none⟩]
attribute [go_sem] r23_4
def r23_5 : List PO := [⟨(some 16), (Op.move (Operand.tmp 1)), none⟩,
  ⟨(some 17), (Op.binOp BinOp.add 3 (Operand.tmp 16) (Operand.const (Value.int IntKind.i64 1)) 3), none⟩,
  ⟨(some 1), (Op.assign (Operand.tmp 17)), none⟩]
attribute [go_sem] r23_5
def r23_3 : List PO := [⟨(some 10), (Op.move (Operand.tmp 5)), none⟩,
  ⟨(some 11), (Op.binOp BinOp.add 3 (Operand.tmp 10) (Operand.const (Value.int IntKind.i64 1)) 3), none⟩,
  ⟨(some 5), (Op.assign (Operand.tmp 11)), none⟩]
attribute [go_sem] r23_3
def k23_1b : PC := (.seq (.seq (.reg r23_2) (.cond (Operand.tmp 9) .skip (.pre ⟨[1], []⟩ (.exit 0)))) (.seq (.block 1 (.seq (.reg r23_4) (.reg r23_5))) (.post (.reg r23_3) ⟨[0, 1, 5], []⟩)))
def r23_0 : List PO := [⟨(some 4), (Op.assign (Operand.const (Value.int IntKind.i64 0))), none⟩]
attribute [go_sem] r23_0
def r23_1 : List PO := [⟨(some 5), (Op.assign (Operand.const (Value.int IntKind.i64 0))), none⟩]
attribute [go_sem] r23_1
def r23_6 : List PO := [⟨(some 18), (Op.move (Operand.tmp 1)), none⟩,
  ⟨(some 4), (Op.assign (Operand.tmp 18)), none⟩]
attribute [go_sem] r23_6
def c23 : PC := (.seq (.reg r23_0) (.seq (.seq (.reg r23_1) (.block 0 (.pre ⟨[0, 1, 5], []⟩ (.loop k23_1b)))) (.seq (.reg r23_6) (.pre ⟨[4], []⟩ .ret))))
def i23 : FnI := ⟨19, [(ResultVar.tmp 4)], c23, 3, [[1], [0]], [[0]], false, true, 1⟩
-- loop.example/g00344/laws.heldIntS
def r24_2 : List PO := [⟨(some 6), (Op.move (Operand.tmp 5)), none⟩,
  ⟨(some 7), (Op.move (Operand.tmp 0)), none⟩,
  ⟨(some 8), (Op.call { callee := (Callee.builtin Builtin.len), args := #[(Operand.tmp 7)], argTypes := #[36] }), none⟩,
  ⟨(some 9), (Op.binOp BinOp.lss 3 (Operand.tmp 6) (Operand.tmp 8) 3), none⟩]
attribute [go_sem] r24_2
def r24_4 : List PO := [⟨(some 12), (Op.move (Operand.tmp 0)), none⟩,
  ⟨(some 13), (Op.move (Operand.tmp 5)), none⟩,
  ⟨(some 14), (Op.indexAddr 36 (Operand.tmp 12) (Operand.tmp 13)), none⟩,
  ⟨(some 15), (Op.load 3 (Operand.tmp 14)), none⟩,
  ⟨(some 16), (Op.move (Operand.tmp 1)), none⟩,
  ⟨(some 17), (Op.binOp BinOp.neq 3 (Operand.tmp 15) (Operand.tmp 16) 3), none⟩]
attribute [go_sem] r24_4
def r24_5 : List PO := [⟨(some 4), (Op.assign (Operand.const (Value.int IntKind.i64 (-1)))), none⟩]
attribute [go_sem] r24_5
def r24_6 : List PO := [⟨(some 18), (Op.move (Operand.tmp 1)), none⟩,
  ⟨(some 19), (Op.binOp BinOp.add 3 (Operand.tmp 18) (Operand.const (Value.int IntKind.i64 1)) 3), none⟩,
  ⟨(some 1), (Op.assign (Operand.tmp 19)), none⟩]
attribute [go_sem] r24_6
def r24_3 : List PO := [⟨(some 10), (Op.move (Operand.tmp 5)), none⟩,
  ⟨(some 11), (Op.binOp BinOp.add 3 (Operand.tmp 10) (Operand.const (Value.int IntKind.i64 1)) 3), none⟩,
  ⟨(some 5), (Op.assign (Operand.tmp 11)), none⟩]
attribute [go_sem] r24_3
def k24_1b : PC := (.seq (.seq (.reg r24_2) (.cond (Operand.tmp 9) .skip (.pre ⟨[1], []⟩ (.exit 0)))) (.seq (.block 1 (.seq (.seq (.reg r24_4) (.cond (Operand.tmp 17) (.seq (.reg r24_5) (.pre ⟨[4], []⟩ .ret)) .skip)) (.reg r24_6))) (.post (.reg r24_3) ⟨[0, 1, 5], []⟩)))
def r24_0 : List PO := [⟨(some 4), (Op.assign (Operand.const (Value.int IntKind.i64 0))), none⟩]
attribute [go_sem] r24_0
def r24_1 : List PO := [⟨(some 5), (Op.assign (Operand.const (Value.int IntKind.i64 0))), none⟩]
attribute [go_sem] r24_1
def r24_7 : List PO := [⟨(some 20), (Op.move (Operand.tmp 1)), none⟩,
  ⟨(some 4), (Op.assign (Operand.tmp 20)), none⟩]
attribute [go_sem] r24_7
def c24 : PC := (.seq (.reg r24_0) (.seq (.seq (.reg r24_1) (.block 0 (.pre ⟨[0, 1, 5], []⟩ (.loop k24_1b)))) (.seq (.reg r24_7) .ret)))
def i24 : FnI := ⟨21, [(ResultVar.tmp 4)], c24, 0, [[1], [0]], [[0]], false, false, 0⟩
-- loop.example/g00344/laws.FnExactPlayEvents
def r7_8 : List PO := [⟨(some 41), (Op.load 23 (Operand.tmp 10)), none⟩,
  ⟨(some 42), (Op.load 23 (Operand.tmp 6)), none⟩,
  ⟨(some 43), (Op.call { callee := (Callee.value (Operand.func 13)), args := #[(Operand.tmp 41), (Operand.tmp 42)], argTypes := #[23, 23] }), none⟩,
  ⟨(some 44), (Op.unOp UnOp.not 4 (Operand.tmp 43)), none⟩,
  ⟨(some 45), (Op.move (Operand.tmp 44)), none⟩,
  ⟨(some 46), (Op.move (Operand.tmp 11)), (some (45, false))⟩,
  ⟨(some 47), (Op.move (Operand.tmp 7)), (some (45, false))⟩,
  ⟨(some 48), (Op.call { callee := (Callee.value (Operand.func 22)), args := #[(Operand.tmp 46), (Operand.tmp 47)], argTypes := #[36, 36] }), (some (45, false))⟩,
  ⟨(some 49), (Op.unOp UnOp.not 4 (Operand.tmp 48)), (some (45, false))⟩,
  ⟨(some 50), (Op.pick (Operand.tmp 45) (Operand.const (Value.bool true)) (Operand.tmp 49)), none⟩,
  ⟨(some 51), (Op.move (Operand.tmp 50)), none⟩,
  ⟨(some 52), (Op.move (Operand.tmp 12)), (some (51, false))⟩,
  ⟨(some 53), (Op.move (Operand.tmp 8)), (some (51, false))⟩,
  ⟨(some 54), (Op.binOp BinOp.neq 4 (Operand.tmp 52) (Operand.tmp 53) 4), (some (51, false))⟩,
  ⟨(some 55), (Op.pick (Operand.tmp 51) (Operand.const (Value.bool true)) (Operand.tmp 54)), none⟩]
attribute [go_sem] r7_8
def k7_1 : PC := (.post (.reg r7_8) ⟨[0, 1, 6, 7, 8, 9, 10, 11, 12, 55], [.old 0, .old 1, .old 2, .old 3, .old 4]⟩)
def r7_14 : List PO := [⟨(some 64), (Op.move (Operand.tmp 13)), none⟩,
  ⟨(some 65), (Op.binOp BinOp.lss 3 (Operand.tmp 64) (Operand.const (Value.int IntKind.i64 0)) 3), none⟩,
  ⟨(some 66), (Op.move (Operand.tmp 65)), none⟩,
  ⟨(some 67), (Op.load 23 (Operand.tmp 10)), (some (66, false))⟩,
  ⟨(some 68), (Op.load 23 (Operand.tmp 6)), (some (66, false))⟩,
  ⟨(some 69), (Op.call { callee := (Callee.value (Operand.func 13)), args := #[(Operand.tmp 67), (Operand.tmp 68)], argTypes := #[23, 23] }), (some (66, false))⟩,
  ⟨(some 70), (Op.unOp UnOp.not 4 (Operand.tmp 69)), (some (66, false))⟩,
  ⟨(some 71), (Op.pick (Operand.tmp 66) (Operand.const (Value.bool true)) (Operand.tmp 70)), none⟩,
  ⟨(some 72), (Op.move (Operand.tmp 71)), none⟩,
  ⟨(some 73), (Op.move (Operand.tmp 11)), (some (72, false))⟩,
  ⟨(some 74), (Op.move (Operand.tmp 7)), (some (72, false))⟩,
  ⟨(some 75), (Op.call { callee := (Callee.value (Operand.func 22)), args := #[(Operand.tmp 73), (Operand.tmp 74)], argTypes := #[36, 36] }), (some (72, false))⟩,
  ⟨(some 76), (Op.unOp UnOp.not 4 (Operand.tmp 75)), (some (72, false))⟩,
  ⟨(some 77), (Op.pick (Operand.tmp 72) (Operand.const (Value.bool true)) (Operand.tmp 76)), none⟩,
  ⟨(some 78), (Op.move (Operand.tmp 77)), none⟩,
  ⟨(some 79), (Op.move (Operand.tmp 12)), (some (78, false))⟩,
  ⟨(some 80), (Op.move (Operand.tmp 8)), (some (78, false))⟩,
  ⟨(some 81), (Op.binOp BinOp.neq 4 (Operand.tmp 79) (Operand.tmp 80) 4), (some (78, false))⟩,
  ⟨(some 82), (Op.pick (Operand.tmp 78) (Operand.const (Value.bool true)) (Operand.tmp 81)), none⟩]
attribute [go_sem] r7_14
def k7_2 : PC := (.post (.reg r7_14) ⟨[0, 1, 6, 7, 8, 11, 82], [.old 0, .old 1, .old 3]⟩)
def r7_25 : List PO := [⟨(some 102), (Op.load 23 (Operand.tmp 16)), none⟩,
  ⟨(some 103), (Op.load 23 (Operand.tmp 6)), none⟩,
  ⟨(some 104), (Op.call { callee := (Callee.value (Operand.func 13)), args := #[(Operand.tmp 102), (Operand.tmp 103)], argTypes := #[23, 23] }), none⟩,
  ⟨(some 105), (Op.unOp UnOp.not 4 (Operand.tmp 104)), none⟩,
  ⟨(some 106), (Op.move (Operand.tmp 105)), none⟩,
  ⟨(some 107), (Op.move (Operand.tmp 17)), (some (106, false))⟩,
  ⟨(some 108), (Op.move (Operand.tmp 7)), (some (106, false))⟩,
  ⟨(some 109), (Op.call { callee := (Callee.value (Operand.func 22)), args := #[(Operand.tmp 107), (Operand.tmp 108)], argTypes := #[36, 36] }), (some (106, false))⟩,
  ⟨(some 110), (Op.unOp UnOp.not 4 (Operand.tmp 109)), (some (106, false))⟩,
  ⟨(some 111), (Op.pick (Operand.tmp 106) (Operand.const (Value.bool true)) (Operand.tmp 110)), none⟩,
  ⟨(some 112), (Op.move (Operand.tmp 111)), none⟩,
  ⟨(some 113), (Op.move (Operand.tmp 18)), (some (112, false))⟩,
  ⟨(some 114), (Op.move (Operand.tmp 8)), (some (112, false))⟩,
  ⟨(some 115), (Op.binOp BinOp.neq 4 (Operand.tmp 113) (Operand.tmp 114) 4), (some (112, false))⟩,
  ⟨(some 116), (Op.pick (Operand.tmp 112) (Operand.const (Value.bool true)) (Operand.tmp 115)), none⟩]
attribute [go_sem] r7_25
def k7_3 : PC := (.post (.reg r7_25) ⟨[11, 14, 116], [.old 2]⟩)
def r7_0 : List PO := [⟨(some 4), (Op.assign (Operand.const (Value.bool false))), none⟩]
attribute [go_sem] r7_0
def r7_1 : List PO := [⟨(some 5), (Op.assign (Operand.const (Value.int IntKind.i64 1048576))), none⟩]
attribute [go_sem] r7_1
def r7_2 : List PO := [⟨(some 19), (Op.move (Operand.tmp 1)), none⟩,
  ⟨(some 20), (Op.move (Operand.tmp 5)), none⟩,
  ⟨(some 21), (Op.call { callee := (Callee.value (Operand.func 25)), args := #[(Operand.tmp 19), (Operand.tmp 20)], argTypes := #[44, 3] }), none⟩,
  ⟨(some 5), (Op.assign (Operand.tmp 21)), none⟩]
attribute [go_sem] r7_2
def r7_3 : List PO := [⟨(some 22), (Op.move (Operand.tmp 5)), none⟩,
  ⟨(some 23), (Op.binOp BinOp.lss 3 (Operand.tmp 22) (Operand.const (Value.int IntKind.i64 0)) 3), none⟩]
attribute [go_sem] r7_3
def r7_4 : List PO := [⟨(some 4), (Op.assign (Operand.const (Value.bool true))), none⟩]
attribute [go_sem] r7_4
def r7_5 : List PO := [⟨(some 25), (Op.move (Operand.tmp 0)), none⟩,
  ⟨(some 26), (Op.move (Operand.tmp 1)), none⟩,
  ⟨(some 27), (Op.call { callee := (Callee.value (Operand.func 27)), args := #[(Operand.tmp 26)], argTypes := #[44] }), none⟩,
  ⟨(some 28), (Op.call { callee := (Callee.value (Operand.func 26)), args := #[(Operand.tmp 25), (Operand.tmp 27)], argTypes := #[3, 47] }), none⟩,
  ⟨(some 24), (Op.move (Operand.tmp 28)), none⟩,
  ⟨(some 29), (Op.extract (Operand.tmp 24) 0), none⟩,
  ⟨(some 30), (Op.extract (Operand.tmp 24) 1), none⟩,
  ⟨(some 31), (Op.extract (Operand.tmp 24) 2), none⟩,
  ⟨(some 6), (Op.alloc 23), none⟩,
  ⟨none, (Op.store 23 (Operand.tmp 6) (Operand.tmp 29)), none⟩,
  ⟨(some 7), (Op.assign (Operand.tmp 30)), none⟩,
  ⟨(some 8), (Op.assign (Operand.tmp 31)), none⟩]
attribute [go_sem] r7_5
def r7_6 : List PO := [⟨(some 32), (Op.move (Operand.tmp 1)), none⟩,
  ⟨(some 33), (Op.call { callee := (Callee.value (Operand.func 27)), args := #[(Operand.tmp 32)], argTypes := #[44] }), none⟩,
  ⟨(some 9), (Op.assign (Operand.tmp 33)), none⟩]
attribute [go_sem] r7_6
def r7_7 : List PO := [⟨(some 35), (Op.move (Operand.tmp 0)), none⟩,
  ⟨(some 36), (Op.move (Operand.tmp 9)), none⟩,
  ⟨(some 37), (Op.call { callee := (Callee.value (Operand.func 28)), args := #[(Operand.tmp 35), (Operand.tmp 36)], argTypes := #[3, 47] }), none⟩,
  ⟨(some 34), (Op.move (Operand.tmp 37)), none⟩,
  ⟨(some 38), (Op.extract (Operand.tmp 34) 0), none⟩,
  ⟨(some 39), (Op.extract (Operand.tmp 34) 1), none⟩,
  ⟨(some 40), (Op.extract (Operand.tmp 34) 2), none⟩,
  ⟨(some 10), (Op.alloc 23), none⟩,
  ⟨none, (Op.store 23 (Operand.tmp 10) (Operand.tmp 38)), none⟩,
  ⟨(some 11), (Op.assign (Operand.tmp 39)), none⟩,
  ⟨(some 12), (Op.assign (Operand.tmp 40)), none⟩]
attribute [go_sem] r7_7
def r7_9 : List PO := [⟨(some 4), (Op.assign (Operand.const (Value.bool false))), none⟩]
attribute [go_sem] r7_9
def r7_10 : List PO := [⟨(some 56), (Op.move (Operand.tmp 9)), none⟩,
  ⟨(some 57), (Op.move (Operand.tmp 1)), none⟩,
  ⟨(some 58), (Op.call { callee := (Callee.value (Operand.func 27)), args := #[(Operand.tmp 57)], argTypes := #[44] }), none⟩,
  ⟨(some 59), (Op.call { callee := (Callee.value (Operand.func 29)), args := #[(Operand.tmp 56), (Operand.tmp 58)], argTypes := #[47, 47] }), none⟩,
  ⟨(some 60), (Op.unOp UnOp.not 4 (Operand.tmp 59)), none⟩]
attribute [go_sem] r7_10
def r7_11 : List PO := [⟨(some 4), (Op.assign (Operand.const (Value.bool false))), none⟩]
attribute [go_sem] r7_11
def r7_12 : List PO := [⟨(some 13), (Op.assign (Operand.const (Value.int IntKind.i64 1))), none⟩]
attribute [go_sem] r7_12
def r7_13 : List PO := [⟨(some 61), (Op.move (Operand.tmp 9)), none⟩,
  ⟨(some 62), (Op.move (Operand.tmp 13)), none⟩,
  ⟨(some 63), (Op.call { callee := (Callee.value (Operand.func 30)), args := #[(Operand.tmp 61), (Operand.tmp 62)], argTypes := #[47, 3] }), none⟩,
  ⟨(some 13), (Op.assign (Operand.tmp 63)), none⟩]
attribute [go_sem] r7_13
def r7_15 : List PO := [⟨(some 4), (Op.assign (Operand.const (Value.bool false))), none⟩]
attribute [go_sem] r7_15
def r7_16 : List PO := [⟨(some 14), (Op.assign (Operand.const (Value.int IntKind.i64 1))), none⟩]
attribute [go_sem] r7_16
def r7_17 : List PO := [⟨(some 83), (Op.move (Operand.tmp 11)), none⟩,
  ⟨(some 84), (Op.move (Operand.tmp 14)), none⟩,
  ⟨(some 85), (Op.call { callee := (Callee.value (Operand.func 23)), args := #[(Operand.tmp 83), (Operand.tmp 84)], argTypes := #[36, 3] }), none⟩,
  ⟨(some 14), (Op.assign (Operand.tmp 85)), none⟩]
attribute [go_sem] r7_17
def r7_18 : List PO := [⟨(some 15), (Op.assign (Operand.const (Value.int IntKind.i64 1))), none⟩]
attribute [go_sem] r7_18
def r7_19 : List PO := [⟨(some 86), (Op.move (Operand.tmp 11)), none⟩,
  ⟨(some 87), (Op.move (Operand.tmp 15)), none⟩,
  ⟨(some 88), (Op.call { callee := (Callee.value (Operand.func 24)), args := #[(Operand.tmp 86), (Operand.tmp 87)], argTypes := #[36, 3] }), none⟩,
  ⟨(some 15), (Op.assign (Operand.tmp 88)), none⟩]
attribute [go_sem] r7_19
def r7_20 : List PO := [⟨(some 89), (Op.move (Operand.tmp 15)), none⟩,
  ⟨(some 90), (Op.binOp BinOp.lss 3 (Operand.tmp 89) (Operand.const (Value.int IntKind.i64 0)) 3), none⟩]
attribute [go_sem] r7_20
def r7_21 : List PO := [⟨(some 4), (Op.assign (Operand.const (Value.bool false))), none⟩]
attribute [go_sem] r7_21
def r7_22 : List PO := [⟨(some 91), (Op.move (Operand.tmp 15)), none⟩,
  ⟨(some 92), (Op.move (Operand.tmp 14)), none⟩,
  ⟨(some 93), (Op.binOp BinOp.neq 3 (Operand.tmp 91) (Operand.tmp 92) 3), none⟩]
attribute [go_sem] r7_22
def r7_23 : List PO := [⟨(some 4), (Op.assign (Operand.const (Value.bool false))), none⟩]
attribute [go_sem] r7_23
def r7_24 : List PO := [⟨(some 95), (Op.move (Operand.tmp 0)), none⟩,
  ⟨(some 96), (Op.move (Operand.tmp 1)), none⟩,
  ⟨(some 97), (Op.call { callee := (Callee.value (Operand.func 27)), args := #[(Operand.tmp 96)], argTypes := #[44] }), none⟩,
  ⟨(some 98), (Op.call { callee := (Callee.value (Operand.func 28)), args := #[(Operand.tmp 95), (Operand.tmp 97)], argTypes := #[3, 47] }), none⟩,
  ⟨(some 94), (Op.move (Operand.tmp 98)), none⟩,
  ⟨(some 99), (Op.extract (Operand.tmp 94) 0), none⟩,
  ⟨(some 100), (Op.extract (Operand.tmp 94) 1), none⟩,
  ⟨(some 101), (Op.extract (Operand.tmp 94) 2), none⟩,
  ⟨(some 16), (Op.alloc 23), none⟩,
  ⟨none, (Op.store 23 (Operand.tmp 16) (Operand.tmp 99)), none⟩,
  ⟨(some 17), (Op.assign (Operand.tmp 100)), none⟩,
  ⟨(some 18), (Op.assign (Operand.tmp 101)), none⟩]
attribute [go_sem] r7_24
def r7_26 : List PO := [⟨(some 4), (Op.assign (Operand.const (Value.bool false))), none⟩]
attribute [go_sem] r7_26
def r7_27 : List PO := [⟨(some 15), (Op.assign (Operand.const (Value.int IntKind.i64 1))), none⟩]
attribute [go_sem] r7_27
def r7_28 : List PO := [⟨(some 117), (Op.move (Operand.tmp 11)), none⟩,
  ⟨(some 118), (Op.move (Operand.tmp 15)), none⟩,
  ⟨(some 119), (Op.call { callee := (Callee.value (Operand.func 24)), args := #[(Operand.tmp 117), (Operand.tmp 118)], argTypes := #[36, 3] }), none⟩,
  ⟨(some 15), (Op.assign (Operand.tmp 119)), none⟩]
attribute [go_sem] r7_28
def r7_29 : List PO := [⟨(some 120), (Op.move (Operand.tmp 15)), none⟩,
  ⟨(some 121), (Op.binOp BinOp.lss 3 (Operand.tmp 120) (Operand.const (Value.int IntKind.i64 0)) 3), none⟩]
attribute [go_sem] r7_29
def r7_31 : List PO := [⟨(some 122), (Op.move (Operand.tmp 15)), none⟩,
  ⟨(some 123), (Op.move (Operand.tmp 14)), none⟩,
  ⟨(some 124), (Op.binOp BinOp.neq 3 (Operand.tmp 122) (Operand.tmp 123) 3), none⟩]
attribute [go_sem] r7_31
def r7_33 : List PO := [⟨(some 4), (Op.assign (Operand.const (Value.bool true))), none⟩]
attribute [go_sem] r7_33
def c7 : PC := (.seq (.reg r7_0) (.seq (.reg r7_1) (.seq (.reg r7_2) (.seq (.seq (.reg r7_3) (.cond (Operand.tmp 23) (.seq (.reg r7_4) .ret) .skip)) (.seq (.reg r7_5) (.seq (.reg r7_6) (.seq (.reg r7_7) (.seq (.seq (.pre ⟨[0, 1, 6, 7, 8, 9, 10, 11, 12], [.old 2, .old 1, .old 3, .old 5, .old 4]⟩ k7_1) (.cond (Operand.tmp 55) (.seq (.reg r7_9) .ret) .skip)) (.seq (.seq (.reg r7_10) (.cond (Operand.tmp 60) (.seq (.reg r7_11) .ret) .skip)) (.seq (.reg r7_12) (.seq (.reg r7_13) (.seq (.seq (.pre ⟨[0, 1, 6, 7, 8, 10, 11, 12, 13], [.old 0, .old 1, .old 3, .old 4]⟩ k7_2) (.cond (Operand.tmp 82) (.seq (.reg r7_15) .ret) .skip)) (.seq (.reg r7_16) (.seq (.reg r7_17) (.seq (.reg r7_18) (.seq (.reg r7_19) (.seq (.seq (.reg r7_20) (.cond (Operand.tmp 90) (.seq (.reg r7_21) .ret) .skip)) (.seq (.seq (.reg r7_22) (.cond (Operand.tmp 93) (.seq (.reg r7_23) .ret) .skip)) (.seq (.reg r7_24) (.seq (.seq (.pre ⟨[6, 7, 8, 11, 14, 16, 17, 18], [.old 0, .old 1, .old 2, .old 5, .old 4]⟩ k7_3) (.cond (Operand.tmp 116) (.seq (.reg r7_26) .ret) .skip)) (.seq (.reg r7_27) (.seq (.reg r7_28) (.seq (.seq (.reg r7_29) (.cond (Operand.tmp 121) .bad .skip)) (.seq (.seq (.reg r7_31) (.cond (Operand.tmp 124) .bad .skip)) (.seq (.reg r7_33) .ret)))))))))))))))))))))))))
def i7 : FnI := ⟨125, [(ResultVar.tmp 4)], c7, 0, [[0], [2]], [[0]], false, false, 0⟩
def tys : List (Nat × TyI) := [(3, ⟨1, 8, false, [.int .i64 0], [0], 0, [], .int .i64, false⟩),
  (4, ⟨1, 1, false, [.bool false], [0], 0, [], .bool, false⟩),
  (23, ⟨5, 40, true, [.int .i64 0, .int .i64 0, .int .i64 0, .int .i64 0, .int .i64 0], [0, 0, 0, 0, 0], 0, [(0, 1, false), (1, 1, false), (2, 1, false), (3, 1, false), (4, 1, false)], .other, false⟩),
  (35, ⟨2, 16, true, [.int .i64 0, .int .i64 0], [0, 0], 0, [(0, 1, false), (1, 1, false)], .other, false⟩),
  (36, ⟨1, 24, false, [.nil], [1], 3, [], .other, false⟩),
  (39, ⟨2, 16, true, [.int .i64 0, .int .i64 0], [0, 0], 0, [(0, 1, false), (1, 1, false)], .other, false⟩),
  (44, ⟨1, 24, false, [.nil], [2], 35, [], .other, false⟩),
  (47, ⟨1, 24, false, [.nil], [2], 39, [], .other, false⟩)]
def fns : List (Nat × FnI) := [(7, i7), (11, i11), (12, i12), (13, i13), (20, i20), (22, i22), (23, i23), (24, i24), (25, i25), (26, i26), (27, i27), (28, i28), (29, i29), (30, i30), (39, i39), (40, i40), (41, i41), (42, i42), (43, i43), (44, i44), (45, i45), (46, i46), (47, i47), (49, i49), (60, i60), (61, i61), (62, i62), (63, i63)]
def T : Tab := mkTab tys fns
theorem ty3 : T.ty 3 = some ⟨1, 8, false, [.int .i64 0], [0], 0, [], .int .i64, false⟩ := rfl
theorem base3 : T.baseOf 3 = Bs.int .i64 := rfl
theorem ty4 : T.ty 4 = some ⟨1, 1, false, [.bool false], [0], 0, [], .bool, false⟩ := rfl
theorem base4 : T.baseOf 4 = Bs.bool := rfl
theorem ty23 : T.ty 23 = some ⟨5, 40, true, [.int .i64 0, .int .i64 0, .int .i64 0, .int .i64 0, .int .i64 0], [0, 0, 0, 0, 0], 0, [(0, 1, false), (1, 1, false), (2, 1, false), (3, 1, false), (4, 1, false)], .other, false⟩ := rfl
theorem base23 : T.baseOf 23 = Bs.other := rfl
theorem ty35 : T.ty 35 = some ⟨2, 16, true, [.int .i64 0, .int .i64 0], [0, 0], 0, [(0, 1, false), (1, 1, false)], .other, false⟩ := rfl
theorem base35 : T.baseOf 35 = Bs.other := rfl
theorem ty36 : T.ty 36 = some ⟨1, 24, false, [.nil], [1], 3, [], .other, false⟩ := rfl
theorem base36 : T.baseOf 36 = Bs.other := rfl
theorem elem36 : T.elemOf 36 = some ⟨1, 8, false, [.int .i64 0], [0], 0, [], .int .i64, false⟩ := rfl
theorem ty39 : T.ty 39 = some ⟨2, 16, true, [.int .i64 0, .int .i64 0], [0, 0], 0, [(0, 1, false), (1, 1, false)], .other, false⟩ := rfl
theorem base39 : T.baseOf 39 = Bs.other := rfl
theorem ty44 : T.ty 44 = some ⟨1, 24, false, [.nil], [2], 35, [], .other, false⟩ := rfl
theorem base44 : T.baseOf 44 = Bs.other := rfl
theorem elem44 : T.elemOf 44 = some ⟨2, 16, true, [.int .i64 0, .int .i64 0], [0, 0], 0, [(0, 1, false), (1, 1, false)], .other, false⟩ := rfl
theorem ty47 : T.ty 47 = some ⟨1, 24, false, [.nil], [2], 39, [], .other, false⟩ := rfl
theorem base47 : T.baseOf 47 = Bs.other := rfl
theorem elem47 : T.elemOf 47 = some ⟨2, 16, true, [.int .i64 0, .int .i64 0], [0, 0], 0, [(0, 1, false), (1, 1, false)], .other, false⟩ := rfl
attribute [go_sem] ty3 base3 ty4 base4 ty23 base23 ty35 base35 ty36 base36 elem36 ty39 base39 ty44 base44 elem44 ty47 base47 elem47
theorem ok7 : FnOk Try.prog (7, i7) := ⟨Try.f7, _, Try.func7, rfl, by kernel_rfl, rfl, rfl, by kernel_rfl⟩
theorem ok11 : FnOk Try.prog (11, i11) := ⟨Try.f11, _, Try.func11, rfl, by kernel_rfl, rfl, rfl, by kernel_rfl⟩
theorem ok12 : FnOk Try.prog (12, i12) := ⟨Try.f12, _, Try.func12, rfl, by kernel_rfl, rfl, rfl, by kernel_rfl⟩
theorem ok13 : FnOk Try.prog (13, i13) := ⟨Try.f13, _, Try.func13, rfl, by kernel_rfl, rfl, rfl, by kernel_rfl⟩
theorem ok20 : FnOk Try.prog (20, i20) := ⟨Try.f20, _, Try.func20, rfl, by kernel_rfl, rfl, rfl, by kernel_rfl⟩
theorem ok22 : FnOk Try.prog (22, i22) := ⟨Try.f22, _, Try.func22, rfl, by kernel_rfl, rfl, rfl, by kernel_rfl⟩
theorem ok23 : FnOk Try.prog (23, i23) := ⟨Try.f23, _, Try.func23, rfl, by kernel_rfl, rfl, rfl, by kernel_rfl⟩
theorem ok24 : FnOk Try.prog (24, i24) := ⟨Try.f24, _, Try.func24, rfl, by kernel_rfl, rfl, rfl, by kernel_rfl⟩
theorem ok25 : FnOk Try.prog (25, i25) := ⟨Try.f25, _, Try.func25, rfl, by kernel_rfl, rfl, rfl, by kernel_rfl⟩
theorem ok26 : FnOk Try.prog (26, i26) := ⟨Try.f26, _, Try.func26, rfl, by kernel_rfl, rfl, rfl, by kernel_rfl⟩
theorem ok27 : FnOk Try.prog (27, i27) := ⟨Try.f27, _, Try.func27, rfl, by kernel_rfl, rfl, rfl, by kernel_rfl⟩
theorem ok28 : FnOk Try.prog (28, i28) := ⟨Try.f28, _, Try.func28, rfl, by kernel_rfl, rfl, rfl, by kernel_rfl⟩
theorem ok29 : FnOk Try.prog (29, i29) := ⟨Try.f29, _, Try.func29, rfl, by kernel_rfl, rfl, rfl, by kernel_rfl⟩
theorem ok30 : FnOk Try.prog (30, i30) := ⟨Try.f30, _, Try.func30, rfl, by kernel_rfl, rfl, rfl, by kernel_rfl⟩
theorem ok39 : FnOk Try.prog (39, i39) := ⟨Try.f39, _, Try.func39, rfl, by kernel_rfl, rfl, rfl, by kernel_rfl⟩
theorem ok40 : FnOk Try.prog (40, i40) := ⟨Try.f40, _, Try.func40, rfl, by kernel_rfl, rfl, rfl, by kernel_rfl⟩
theorem ok41 : FnOk Try.prog (41, i41) := ⟨Try.f41, _, Try.func41, rfl, by kernel_rfl, rfl, rfl, by kernel_rfl⟩
theorem ok42 : FnOk Try.prog (42, i42) := ⟨Try.f42, _, Try.func42, rfl, by kernel_rfl, rfl, rfl, by kernel_rfl⟩
theorem ok43 : FnOk Try.prog (43, i43) := ⟨Try.f43, _, Try.func43, rfl, by kernel_rfl, rfl, rfl, by kernel_rfl⟩
theorem ok44 : FnOk Try.prog (44, i44) := ⟨Try.f44, _, Try.func44, rfl, by kernel_rfl, rfl, rfl, by kernel_rfl⟩
theorem ok45 : FnOk Try.prog (45, i45) := ⟨Try.f45, _, Try.func45, rfl, by kernel_rfl, rfl, rfl, by kernel_rfl⟩
theorem ok46 : FnOk Try.prog (46, i46) := ⟨Try.f46, _, Try.func46, rfl, by kernel_rfl, rfl, rfl, by kernel_rfl⟩
theorem ok47 : FnOk Try.prog (47, i47) := ⟨Try.f47, _, Try.func47, rfl, by kernel_rfl, rfl, rfl, by kernel_rfl⟩
theorem ok49 : FnOk Try.prog (49, i49) := ⟨Try.f49, _, Try.func49, rfl, by kernel_rfl, rfl, rfl, by kernel_rfl⟩
theorem ok60 : FnOk Try.prog (60, i60) := ⟨Try.f60, _, Try.func60, rfl, by kernel_rfl, rfl, rfl, by kernel_rfl⟩
theorem ok61 : FnOk Try.prog (61, i61) := ⟨Try.f61, _, Try.func61, rfl, by kernel_rfl, rfl, rfl, by kernel_rfl⟩
theorem ok62 : FnOk Try.prog (62, i62) := ⟨Try.f62, _, Try.func62, rfl, by kernel_rfl, rfl, rfl, by kernel_rfl⟩
theorem ok63 : FnOk Try.prog (63, i63) := ⟨Try.f63, _, Try.func63, rfl, by kernel_rfl, rfl, rfl, by kernel_rfl⟩
theorem tab : TabOk Try.prog T := tabOk_of (by kernel_rfl) (.cons ok7 (.cons ok11 (.cons ok12 (.cons ok13 (.cons ok20 (.cons ok22 (.cons ok23 (.cons ok24 (.cons ok25 (.cons ok26 (.cons ok27 (.cons ok28 (.cons ok29 (.cons ok30 (.cons ok39 (.cons ok40 (.cons ok41 (.cons ok42 (.cons ok43 (.cons ok44 (.cons ok45 (.cons ok46 (.cons ok47 (.cons ok49 (.cons ok60 (.cons ok61 (.cons ok62 (.cons ok63 (.nil)))))))))))))))))))))))))))))
theorem fn7 : T.fn 7 = some i7 := rfl
theorem fn11 : T.fn 11 = some i11 := rfl
theorem fn12 : T.fn 12 = some i12 := rfl
theorem fn13 : T.fn 13 = some i13 := rfl
theorem fn20 : T.fn 20 = some i20 := rfl
theorem fn22 : T.fn 22 = some i22 := rfl
theorem fn23 : T.fn 23 = some i23 := rfl
theorem fn24 : T.fn 24 = some i24 := rfl
theorem fn25 : T.fn 25 = some i25 := rfl
theorem fn26 : T.fn 26 = some i26 := rfl
theorem fn27 : T.fn 27 = some i27 := rfl
theorem fn28 : T.fn 28 = some i28 := rfl
theorem fn29 : T.fn 29 = some i29 := rfl
theorem fn30 : T.fn 30 = some i30 := rfl
theorem fn39 : T.fn 39 = some i39 := rfl
theorem fn40 : T.fn 40 = some i40 := rfl
theorem fn41 : T.fn 41 = some i41 := rfl
theorem fn42 : T.fn 42 = some i42 := rfl
theorem fn43 : T.fn 43 = some i43 := rfl
theorem fn44 : T.fn 44 = some i44 := rfl
theorem fn45 : T.fn 45 = some i45 := rfl
theorem fn46 : T.fn 46 = some i46 := rfl
theorem fn47 : T.fn 47 = some i47 := rfl
theorem fn49 : T.fn 49 = some i49 := rfl
theorem fn60 : T.fn 60 = some i60 := rfl
theorem fn61 : T.fn 61 = some i61 := rfl
theorem fn62 : T.fn 62 = some i62 := rfl
theorem fn63 : T.fn 63 = some i63 := rfl
end Go.Pi.Ytcihklkihglmjaa.PlayEvents
