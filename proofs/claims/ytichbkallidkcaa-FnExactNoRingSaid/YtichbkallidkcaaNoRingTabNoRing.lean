/- What functions of the program answer, and that the law answers true at every input; no condition -/
import Derived.Test.YtichbkallidkcaaProg
import Derived.Test.YtichbkallidkcaaPiD
import Derived.Test.YtichbkallidkcaaPiC
set_option linter.all false
/- The program's tables for Pi: types and functions, as they stand in the loaded program, with hints. -/
namespace Go.Pi.Ytichbkallidkcaa.NoRing
open Go Go.Proofs Go.Pi
set_option maxRecDepth 100000

-- loop.example/g00344/laws.szRelS
def r11_0 : List PO := [⟨(some 4), (Op.assign (Operand.const (Value.int IntKind.i64 0))), none⟩]
attribute [go_sem] r11_0
def r11_1 : List PO := [⟨(some 5), (Op.move (Operand.tmp 1)), none⟩,
  ⟨(some 6), (Op.move (Operand.tmp 0)), none⟩,
  ⟨(some 7), (Op.call { callee := (Callee.builtin Builtin.len), args := #[(Operand.tmp 6)], argTypes := #[22] }), none⟩,
  ⟨(some 8), (Op.binOp BinOp.sub 3 (Operand.tmp 5) (Operand.tmp 7) 3), none⟩,
  ⟨(some 1), (Op.assign (Operand.tmp 8)), none⟩]
attribute [go_sem] r11_1
def r11_2 : List PO := [⟨(some 9), (Op.move (Operand.tmp 1)), none⟩,
  ⟨(some 10), (Op.binOp BinOp.lss 3 (Operand.tmp 9) (Operand.const (Value.int IntKind.i64 0)) 3), none⟩]
attribute [go_sem] r11_2
def r11_3 : List PO := [⟨(some 4), (Op.assign (Operand.const (Value.int IntKind.i64 (-1)))), none⟩]
attribute [go_sem] r11_3
def r11_4 : List PO := [⟨(some 11), (Op.move (Operand.tmp 1)), none⟩,
  ⟨(some 4), (Op.assign (Operand.tmp 11)), none⟩]
attribute [go_sem] r11_4
def c11 : PC := (.seq (.reg r11_0) (.seq (.reg r11_1) (.seq (.seq (.reg r11_2) (.cond (Operand.tmp 10) (.seq (.reg r11_3) .ret) .skip)) (.seq (.reg r11_4) .ret))))
def i11 : FnI := ⟨12, [(ResultVar.tmp 4)], c11, 0, [[3], [0]], [[0]], false, false, 0⟩
-- loop.example/g00344/laws.toRel
def r40_0 : List PO := [⟨(some 1), (Op.box 65 (Operand.tmp 0)), none⟩,
  ⟨(some 2), (Op.alloc 63), none⟩]
attribute [go_sem] r40_0
def r40_1 : List PO := [⟨(some 3), (Op.alloc 63), none⟩]
attribute [go_sem] r40_1
def r40_2 : List PO := [⟨(some 4), (Op.fieldAddr 65 (Operand.tmp 1) 0), none⟩,
  ⟨(some 5), (Op.load 3 (Operand.tmp 4)), none⟩,
  ⟨(some 6), (Op.fieldAddr 63 (Operand.tmp 3) 0), none⟩,
  ⟨none, (Op.store 3 (Operand.tmp 6) (Operand.tmp 5)), none⟩]
attribute [go_sem] r40_2
def r40_3 : List PO := [⟨(some 7), (Op.fieldAddr 65 (Operand.tmp 1) 1), none⟩,
  ⟨(some 8), (Op.load 3 (Operand.tmp 7)), none⟩,
  ⟨(some 9), (Op.fieldAddr 63 (Operand.tmp 3) 1), none⟩,
  ⟨none, (Op.store 3 (Operand.tmp 9) (Operand.tmp 8)), none⟩]
attribute [go_sem] r40_3
def r40_4 : List PO := [⟨(some 10), (Op.fieldAddr 65 (Operand.tmp 1) 2), none⟩,
  ⟨(some 11), (Op.load 3 (Operand.tmp 10)), none⟩,
  ⟨(some 12), (Op.fieldAddr 63 (Operand.tmp 3) 2), none⟩,
  ⟨none, (Op.store 3 (Operand.tmp 12) (Operand.tmp 11)), none⟩]
attribute [go_sem] r40_4
def r40_5 : List PO := [⟨(some 13), (Op.load 63 (Operand.tmp 3)), none⟩,
  ⟨none, (Op.store 63 (Operand.tmp 2) (Operand.tmp 13)), none⟩]
attribute [go_sem] r40_5
def c40 : PC := (.seq (.reg r40_0) (.seq (.reg r40_1) (.seq (.reg r40_2) (.seq (.reg r40_3) (.seq (.reg r40_4) (.seq (.reg r40_5) .ret))))))
def i40 : FnI := ⟨14, [(ResultVar.cell 2 63)], c40, 0, [[0, 0, 0]], [[0, 0, 0]], false, false, 0⟩
-- loop.example/g00344/laws.toRelS
def r13_3 : List PO := [⟨(some 8), (Op.move (Operand.tmp 4)), none⟩,
  ⟨(some 9), (Op.move (Operand.tmp 0)), none⟩,
  ⟨(some 10), (Op.call { callee := (Callee.builtin Builtin.len), args := #[(Operand.tmp 9)], argTypes := #[22] }), none⟩,
  ⟨(some 11), (Op.binOp BinOp.lss 3 (Operand.tmp 8) (Operand.tmp 10) 3), none⟩]
attribute [go_sem] r13_3
def r13_5 : List PO := [⟨(some 14), (Op.move (Operand.tmp 3)), none⟩,
  ⟨(some 15), (Op.move (Operand.tmp 4)), none⟩,
  ⟨(some 16), (Op.move (Operand.tmp 0)), none⟩,
  ⟨(some 17), (Op.move (Operand.tmp 4)), none⟩,
  ⟨(some 18), (Op.indexAddr 22 (Operand.tmp 16) (Operand.tmp 17)), none⟩,
  ⟨(some 19), (Op.load 65 (Operand.tmp 18)), none⟩,
  ⟨(some 20), (Op.call { callee := (Callee.value (Operand.func 40)), args := #[(Operand.tmp 19)], argTypes := #[65] }), none⟩,
  ⟨(some 21), (Op.indexAddr 25 (Operand.tmp 14) (Operand.tmp 15)), none⟩,
  ⟨none, (Op.store 63 (Operand.tmp 21) (Operand.tmp 20)), none⟩]
attribute [go_sem] r13_5
def r13_4 : List PO := [⟨(some 12), (Op.move (Operand.tmp 4)), none⟩,
  ⟨(some 13), (Op.binOp BinOp.add 3 (Operand.tmp 12) (Operand.const (Value.int IntKind.i64 1)) 3), none⟩,
  ⟨(some 4), (Op.assign (Operand.tmp 13)), none⟩]
attribute [go_sem] r13_4
def k13_1b : PC := (.seq (.seq (.reg r13_3) (.cond (Operand.tmp 11) .skip (.pre ⟨[3], [.old 0], []⟩ (.exit 0)))) (.seq (.block 1 (.reg r13_5)) (.post (.reg r13_4) ⟨[0, 3, 4], [.old 0], []⟩)))
def r13_0 : List PO := [⟨(some 2), (Op.assign (Operand.const (Value.slice none 0 0))), none⟩]
attribute [go_sem] r13_0
def r13_1 : List PO := [⟨(some 5), (Op.move (Operand.tmp 0)), none⟩,
  ⟨(some 6), (Op.call { callee := (Callee.builtin Builtin.len), args := #[(Operand.tmp 5)], argTypes := #[22] }), none⟩,
  ⟨(some 7), (Op.makeSlice 25 (Operand.tmp 6) (Operand.tmp 6)), none⟩,
  ⟨(some 3), (Op.assign (Operand.tmp 7)), none⟩]
attribute [go_sem] r13_1
def r13_2 : List PO := [⟨(some 4), (Op.assign (Operand.const (Value.int IntKind.i64 0))), none⟩]
attribute [go_sem] r13_2
def r13_6 : List PO := [⟨(some 22), (Op.move (Operand.tmp 3)), none⟩,
  ⟨(some 2), (Op.assign (Operand.tmp 22)), none⟩]
attribute [go_sem] r13_6
def c13 : PC := (.seq (.reg r13_0) (.seq (.reg r13_1) (.seq (.seq (.reg r13_2) (.block 0 (.pre ⟨[0, 3, 4], [.old 0], []⟩ (.loop k13_1b)))) (.seq (.reg r13_6) .ret))))
def i13 : FnI := ⟨23, [(ResultVar.tmp 2)], c13, 0, [[3]], [[3]], false, false, 0⟩
-- loop.example/g00344/spec.l1In
def r39_1 : List PO := [⟨(some 7), (Op.move (Operand.tmp 0)), none⟩,
  ⟨(some 8), (Op.move (Operand.tmp 1)), none⟩,
  ⟨(some 9), (Op.binOp BinOp.geq 3 (Operand.tmp 7) (Operand.tmp 8) 3), none⟩,
  ⟨(some 10), (Op.move (Operand.tmp 9)), none⟩,
  ⟨(some 11), (Op.move (Operand.tmp 0)), (some (10, true))⟩,
  ⟨(some 12), (Op.move (Operand.tmp 2)), (some (10, true))⟩,
  ⟨(some 13), (Op.binOp BinOp.leq 3 (Operand.tmp 11) (Operand.tmp 12) 3), (some (10, true))⟩,
  ⟨(some 14), (Op.pick (Operand.tmp 10) (Operand.tmp 13) (Operand.const (Value.bool false))), none⟩,
  ⟨(some 6), (Op.assign (Operand.tmp 14)), none⟩]
attribute [go_sem] r39_1
def k39_1 : PC := (.post (.reg r39_1) ⟨[6], [], []⟩)
def r39_0 : List PO := [⟨(some 6), (Op.assign (Operand.const (Value.bool false))), none⟩]
attribute [go_sem] r39_0
def c39 : PC := (.seq (.reg r39_0) (.seq (.pre ⟨[0, 1, 2], [], []⟩ k39_1) .ret))
def i39 : FnI := ⟨15, [(ResultVar.tmp 6)], c39, 0, [[0], [0], [0]], [[0]], false, false, 0⟩
-- loop.example/g00344/spec.GoodRels
def r12_1 : List PO := [⟨(some 9), (Op.move (Operand.tmp 0)), none⟩,
  ⟨(some 10), (Op.call { callee := (Callee.value (Operand.func 39)), args := #[(Operand.tmp 9), (Operand.const (Value.int IntKind.i64 1)), (Operand.const (Value.int IntKind.i64 5))], argTypes := #[3, 3, 3] }), none⟩,
  ⟨(some 11), (Op.unOp UnOp.not 4 (Operand.tmp 10)), none⟩,
  ⟨(some 12), (Op.move (Operand.tmp 11)), none⟩,
  ⟨(some 13), (Op.move (Operand.tmp 1)), (some (12, false))⟩,
  ⟨(some 14), (Op.call { callee := (Callee.builtin Builtin.len), args := #[(Operand.tmp 13)], argTypes := #[25] }), (some (12, false))⟩,
  ⟨(some 15), (Op.binOp BinOp.gtr 3 (Operand.tmp 14) (Operand.const (Value.int IntKind.i64 15)) 3), (some (12, false))⟩,
  ⟨(some 16), (Op.pick (Operand.tmp 12) (Operand.const (Value.bool true)) (Operand.tmp 15)), none⟩]
attribute [go_sem] r12_1
def k12_1 : PC := (.post (.reg r12_1) ⟨[0, 1, 16], [], []⟩)
def r12_6 : List PO := [⟨(some 24), (Op.fieldAddr 63 (Operand.tmp 6) 0), none⟩,
  ⟨(some 25), (Op.load 3 (Operand.tmp 24)), none⟩,
  ⟨(some 26), (Op.binOp BinOp.lss 3 (Operand.tmp 25) (Operand.const (Value.int IntKind.i64 0)) 3), none⟩,
  ⟨(some 27), (Op.move (Operand.tmp 26)), none⟩,
  ⟨(some 28), (Op.fieldAddr 63 (Operand.tmp 6) 0), (some (27, false))⟩,
  ⟨(some 29), (Op.load 3 (Operand.tmp 28)), (some (27, false))⟩,
  ⟨(some 30), (Op.fieldAddr 63 (Operand.tmp 6) 1), (some (27, false))⟩,
  ⟨(some 31), (Op.load 3 (Operand.tmp 30)), (some (27, false))⟩,
  ⟨(some 32), (Op.binOp BinOp.geq 3 (Operand.tmp 29) (Operand.tmp 31) 3), (some (27, false))⟩,
  ⟨(some 33), (Op.pick (Operand.tmp 27) (Operand.const (Value.bool true)) (Operand.tmp 32)), none⟩,
  ⟨(some 34), (Op.move (Operand.tmp 33)), none⟩,
  ⟨(some 35), (Op.fieldAddr 63 (Operand.tmp 6) 1), (some (34, false))⟩,
  ⟨(some 36), (Op.load 3 (Operand.tmp 35)), (some (34, false))⟩,
  ⟨(some 37), (Op.move (Operand.tmp 0)), (some (34, false))⟩,
  ⟨(some 38), (Op.binOp BinOp.gtr 3 (Operand.tmp 36) (Operand.tmp 37) 3), (some (34, false))⟩,
  ⟨(some 39), (Op.pick (Operand.tmp 34) (Operand.const (Value.bool true)) (Operand.tmp 38)), none⟩,
  ⟨(some 40), (Op.move (Operand.tmp 39)), none⟩,
  ⟨(some 41), (Op.fieldAddr 63 (Operand.tmp 6) 2), (some (40, false))⟩,
  ⟨(some 42), (Op.load 3 (Operand.tmp 41)), (some (40, false))⟩,
  ⟨(some 43), (Op.call { callee := (Callee.value (Operand.func 39)), args := #[(Operand.tmp 42), (Operand.const (Value.int IntKind.i64 1)), (Operand.const (Value.int IntKind.i64 3))], argTypes := #[3, 3, 3] }), (some (40, false))⟩,
  ⟨(some 44), (Op.unOp UnOp.not 4 (Operand.tmp 43)), (some (40, false))⟩,
  ⟨(some 45), (Op.pick (Operand.tmp 40) (Operand.const (Value.bool true)) (Operand.tmp 44)), none⟩]
attribute [go_sem] r12_6
def k12_7 : PC := (.post (.reg r12_6) ⟨[0, 1, 5, 6, 17, 18, 19, 45], [.old 0], []⟩)
def r12_11 : List PO := [⟨(some 54), (Op.fieldAddr 63 (Operand.tmp 8) 0), none⟩,
  ⟨(some 55), (Op.load 3 (Operand.tmp 54)), none⟩,
  ⟨(some 56), (Op.fieldAddr 63 (Operand.tmp 6) 0), none⟩,
  ⟨(some 57), (Op.load 3 (Operand.tmp 56)), none⟩,
  ⟨(some 58), (Op.binOp BinOp.eql 3 (Operand.tmp 55) (Operand.tmp 57) 3), none⟩,
  ⟨(some 59), (Op.move (Operand.tmp 58)), none⟩,
  ⟨(some 60), (Op.fieldAddr 63 (Operand.tmp 8) 1), (some (59, true))⟩,
  ⟨(some 61), (Op.load 3 (Operand.tmp 60)), (some (59, true))⟩,
  ⟨(some 62), (Op.fieldAddr 63 (Operand.tmp 6) 1), (some (59, true))⟩,
  ⟨(some 63), (Op.load 3 (Operand.tmp 62)), (some (59, true))⟩,
  ⟨(some 64), (Op.binOp BinOp.eql 3 (Operand.tmp 61) (Operand.tmp 63) 3), (some (59, true))⟩,
  ⟨(some 65), (Op.pick (Operand.tmp 59) (Operand.tmp 64) (Operand.const (Value.bool false))), none⟩]
attribute [go_sem] r12_11
def k12_10 : PC := (.post (.reg r12_11) ⟨[0, 1, 6, 17, 18, 19, 48, 49, 50, 65], [.old 0], []⟩)
def r12_9 : List PO := [⟨(some 51), (Op.binOp BinOp.lss 3 (Operand.tmp 50) (Operand.tmp 49) 3), none⟩]
attribute [go_sem] r12_9
def r12_10 : List PO := [⟨(some 52), (Op.indexAddr 25 (Operand.tmp 48) (Operand.tmp 50)), none⟩,
  ⟨(some 53), (Op.load 63 (Operand.tmp 52)), none⟩,
  ⟨(some 8), (Op.alloc 63), none⟩,
  ⟨none, (Op.store 63 (Operand.tmp 8) (Operand.tmp 53)), none⟩]
attribute [go_sem] r12_10
def r12_12 : List PO := [⟨(some 4), (Op.assign (Operand.const (Value.bool false))), none⟩]
attribute [go_sem] r12_12
def r12_13 : List PO := [⟨(some 66), (Op.binOp BinOp.add 3 (Operand.tmp 50) (Operand.const (Value.int IntKind.i64 1)) 3), none⟩,
  ⟨(some 50), (Op.move (Operand.tmp 66)), none⟩]
attribute [go_sem] r12_13
def k12_8b : PC := (.seq (.reg r12_9) (.seq (.cond (Operand.tmp 51) .skip (.pre ⟨[0, 1, 17, 18, 19], [], []⟩ (.exit 2))) (.seq (.block 3 (.seq (.reg r12_10) (.seq (.pre ⟨[0, 1, 6, 8, 17, 18, 19, 48, 49, 50], [.old 0, .old 1], []⟩ k12_10) (.cond (Operand.tmp 65) (.seq (.reg r12_12) (.pre ⟨[4], [], []⟩ .ret)) .skip)))) (.post (.reg r12_13) ⟨[0, 1, 6, 17, 18, 19, 48, 49, 50], [.old 0], []⟩))))
def r12_4 : List PO := [⟨(some 20), (Op.binOp BinOp.lss 3 (Operand.tmp 19) (Operand.tmp 18) 3), none⟩]
attribute [go_sem] r12_4
def r12_5 : List PO := [⟨(some 21), (Op.move (Operand.tmp 19)), none⟩,
  ⟨(some 22), (Op.indexAddr 25 (Operand.tmp 17) (Operand.tmp 19)), none⟩,
  ⟨(some 23), (Op.load 63 (Operand.tmp 22)), none⟩,
  ⟨(some 6), (Op.alloc 63), none⟩,
  ⟨(some 5), (Op.assign (Operand.tmp 21)), none⟩,
  ⟨none, (Op.store 63 (Operand.tmp 6) (Operand.tmp 23)), none⟩]
attribute [go_sem] r12_5
def r12_7 : List PO := [⟨(some 4), (Op.assign (Operand.const (Value.bool false))), none⟩]
attribute [go_sem] r12_7
def r12_8 : List PO := [⟨(some 46), (Op.move (Operand.tmp 1)), none⟩,
  ⟨(some 47), (Op.move (Operand.tmp 5)), none⟩,
  ⟨(some 48), (Op.slice 25 (Operand.tmp 46) none (some (Operand.tmp 47)) none), none⟩,
  ⟨(some 49), (Op.call { callee := (Callee.builtin Builtin.len), args := #[(Operand.tmp 48)], argTypes := #[25] }), none⟩,
  ⟨(some 50), (Op.move (Operand.const (Value.int IntKind.i64 0))), none⟩]
attribute [go_sem] r12_8
def r12_14 : List PO := [⟨(some 67), (Op.binOp BinOp.add 3 (Operand.tmp 19) (Operand.const (Value.int IntKind.i64 1)) 3), none⟩,
  ⟨(some 19), (Op.move (Operand.tmp 67)), none⟩]
attribute [go_sem] r12_14
def k12_2b : PC := (.seq (.reg r12_4) (.seq (.cond (Operand.tmp 20) .skip (.pre ⟨[], [], []⟩ (.exit 0))) (.seq (.block 1 (.seq (.reg r12_5) (.seq (.seq (.pre ⟨[0, 1, 5, 6, 17, 18, 19], [.old 0], []⟩ k12_7) (.cond (Operand.tmp 45) (.seq (.reg r12_7) (.pre ⟨[4], [], []⟩ .ret)) .skip)) (.seq (.reg r12_8) (.block 2 (.pre ⟨[0, 1, 6, 17, 18, 19, 48, 49, 50], [.old 0], []⟩ (.loop k12_8b))))))) (.post (.reg r12_14) ⟨[0, 1, 17, 18, 19], [], []⟩))))
def r12_0 : List PO := [⟨(some 4), (Op.assign (Operand.const (Value.bool false))), none⟩]
attribute [go_sem] r12_0
def r12_2 : List PO := [⟨(some 4), (Op.assign (Operand.const (Value.bool false))), none⟩]
attribute [go_sem] r12_2
def r12_3 : List PO := [⟨(some 17), (Op.move (Operand.tmp 1)), none⟩,
  ⟨(some 18), (Op.call { callee := (Callee.builtin Builtin.len), args := #[(Operand.tmp 17)], argTypes := #[25] }), none⟩,
  ⟨(some 19), (Op.move (Operand.const (Value.int IntKind.i64 0))), none⟩]
attribute [go_sem] r12_3
def r12_15 : List PO := [⟨(some 4), (Op.assign (Operand.const (Value.bool true))), none⟩]
attribute [go_sem] r12_15
def c12 : PC := (.seq (.reg r12_0) (.seq (.seq (.pre ⟨[0, 1], [], []⟩ k12_1) (.cond (Operand.tmp 16) (.seq (.reg r12_2) .ret) .skip)) (.seq (.seq (.reg r12_3) (.block 0 (.pre ⟨[0, 1, 17, 18, 19], [], []⟩ (.loop k12_2b)))) (.seq (.reg r12_15) .ret))))
def i12 : FnI := ⟨68, [(ResultVar.tmp 4)], c12, 0, [[0], [3]], [[0]], false, false, 0⟩
-- loop.example/g00344/spec.l11Kind
def r45_4 : List PO := [⟨(some 15), (Op.fieldAddr 63 (Operand.tmp 8) 0), none⟩,
  ⟨(some 16), (Op.load 3 (Operand.tmp 15)), none⟩,
  ⟨(some 17), (Op.move (Operand.tmp 1)), none⟩,
  ⟨(some 18), (Op.binOp BinOp.eql 3 (Operand.tmp 16) (Operand.tmp 17) 3), none⟩,
  ⟨(some 19), (Op.move (Operand.tmp 18)), none⟩,
  ⟨(some 20), (Op.fieldAddr 63 (Operand.tmp 8) 1), (some (19, true))⟩,
  ⟨(some 21), (Op.load 3 (Operand.tmp 20)), (some (19, true))⟩,
  ⟨(some 22), (Op.move (Operand.tmp 2)), (some (19, true))⟩,
  ⟨(some 23), (Op.binOp BinOp.eql 3 (Operand.tmp 21) (Operand.tmp 22) 3), (some (19, true))⟩,
  ⟨(some 24), (Op.pick (Operand.tmp 19) (Operand.tmp 23) (Operand.const (Value.bool false))), none⟩]
attribute [go_sem] r45_4
def k45_4 : PC := (.post (.reg r45_4) ⟨[1, 2, 8, 9, 10, 11, 24], [.old 0], []⟩)
def r45_6 : List PO := [⟨(some 27), (Op.fieldAddr 63 (Operand.tmp 8) 0), none⟩,
  ⟨(some 28), (Op.load 3 (Operand.tmp 27)), none⟩,
  ⟨(some 29), (Op.move (Operand.tmp 2)), none⟩,
  ⟨(some 30), (Op.binOp BinOp.eql 3 (Operand.tmp 28) (Operand.tmp 29) 3), none⟩,
  ⟨(some 31), (Op.move (Operand.tmp 30)), none⟩,
  ⟨(some 32), (Op.fieldAddr 63 (Operand.tmp 8) 1), (some (31, true))⟩,
  ⟨(some 33), (Op.load 3 (Operand.tmp 32)), (some (31, true))⟩,
  ⟨(some 34), (Op.move (Operand.tmp 1)), (some (31, true))⟩,
  ⟨(some 35), (Op.binOp BinOp.eql 3 (Operand.tmp 33) (Operand.tmp 34) 3), (some (31, true))⟩,
  ⟨(some 36), (Op.pick (Operand.tmp 31) (Operand.tmp 35) (Operand.const (Value.bool false))), none⟩]
attribute [go_sem] r45_6
def k45_5 : PC := (.post (.reg r45_6) ⟨[1, 2, 8, 9, 10, 11, 36], [.old 0], []⟩)
def r45_2 : List PO := [⟨(some 12), (Op.binOp BinOp.lss 3 (Operand.tmp 11) (Operand.tmp 10) 3), none⟩]
attribute [go_sem] r45_2
def r45_3 : List PO := [⟨(some 13), (Op.indexAddr 25 (Operand.tmp 9) (Operand.tmp 11)), none⟩,
  ⟨(some 14), (Op.load 63 (Operand.tmp 13)), none⟩,
  ⟨(some 8), (Op.alloc 63), none⟩,
  ⟨none, (Op.store 63 (Operand.tmp 8) (Operand.tmp 14)), none⟩]
attribute [go_sem] r45_3
def r45_5 : List PO := [⟨(some 25), (Op.fieldAddr 63 (Operand.tmp 8) 2), none⟩,
  ⟨(some 26), (Op.load 3 (Operand.tmp 25)), none⟩,
  ⟨(some 6), (Op.assign (Operand.tmp 26)), none⟩]
attribute [go_sem] r45_5
def r45_7 : List PO := [⟨(some 37), (Op.fieldAddr 63 (Operand.tmp 8) 2), none⟩,
  ⟨(some 38), (Op.load 3 (Operand.tmp 37)), none⟩,
  ⟨(some 39), (Op.binOp BinOp.sub 3 (Operand.const (Value.int IntKind.i64 4)) (Operand.tmp 38) 3), none⟩,
  ⟨(some 6), (Op.assign (Operand.tmp 39)), none⟩]
attribute [go_sem] r45_7
def r45_8 : List PO := [⟨(some 40), (Op.binOp BinOp.add 3 (Operand.tmp 11) (Operand.const (Value.int IntKind.i64 1)) 3), none⟩,
  ⟨(some 11), (Op.move (Operand.tmp 40)), none⟩]
attribute [go_sem] r45_8
def k45_1b : PC := (.seq (.reg r45_2) (.seq (.cond (Operand.tmp 12) .skip (.pre ⟨[], [], []⟩ (.exit 0))) (.seq (.block 1 (.seq (.reg r45_3) (.seq (.seq (.pre ⟨[1, 2, 8, 9, 10, 11], [.old 0], []⟩ k45_4) (.cond (Operand.tmp 24) (.seq (.reg r45_5) (.pre ⟨[6], [], []⟩ .ret)) .skip)) (.seq (.pre ⟨[1, 2, 8, 9, 10, 11], [.old 0], []⟩ k45_5) (.cond (Operand.tmp 36) (.seq (.reg r45_7) (.pre ⟨[6], [], []⟩ .ret)) .skip))))) (.post (.reg r45_8) ⟨[1, 2, 9, 10, 11], [], []⟩))))
def r45_0 : List PO := [⟨(some 6), (Op.assign (Operand.const (Value.int IntKind.i64 0))), none⟩]
attribute [go_sem] r45_0
def r45_1 : List PO := [⟨(some 9), (Op.move (Operand.tmp 0)), none⟩,
  ⟨(some 10), (Op.call { callee := (Callee.builtin Builtin.len), args := #[(Operand.tmp 9)], argTypes := #[25] }), none⟩,
  ⟨(some 11), (Op.move (Operand.const (Value.int IntKind.i64 0))), none⟩]
attribute [go_sem] r45_1
def r45_9 : List PO := [⟨(some 6), (Op.assign (Operand.const (Value.int IntKind.i64 0))), none⟩]
attribute [go_sem] r45_9
def c45 : PC := (.seq (.reg r45_0) (.seq (.seq (.reg r45_1) (.block 0 (.pre ⟨[1, 2, 9, 10, 11], [], []⟩ (.loop k45_1b)))) (.seq (.reg r45_9) .ret)))
def i45 : FnI := ⟨41, [(ResultVar.tmp 6)], c45, 0, [[3], [0], [0]], [[0]], false, false, 0⟩
-- loop.example/g00344/spec.l1Has
def r47_2 : List PO := [⟨(some 10), (Op.binOp BinOp.lss 3 (Operand.tmp 9) (Operand.tmp 8) 3), none⟩]
attribute [go_sem] r47_2
def r47_3 : List PO := [⟨(some 11), (Op.indexAddr 36 (Operand.tmp 7) (Operand.tmp 9)), none⟩,
  ⟨(some 12), (Op.load 3 (Operand.tmp 11)), none⟩,
  ⟨(some 6), (Op.assign (Operand.tmp 12)), none⟩]
attribute [go_sem] r47_3
def r47_4 : List PO := [⟨(some 13), (Op.move (Operand.tmp 6)), none⟩,
  ⟨(some 14), (Op.move (Operand.tmp 1)), none⟩,
  ⟨(some 15), (Op.binOp BinOp.eql 3 (Operand.tmp 13) (Operand.tmp 14) 3), none⟩]
attribute [go_sem] r47_4
def r47_5 : List PO := [⟨(some 4), (Op.assign (Operand.const (Value.bool true))), none⟩]
attribute [go_sem] r47_5
def r47_6 : List PO := [⟨(some 16), (Op.binOp BinOp.add 3 (Operand.tmp 9) (Operand.const (Value.int IntKind.i64 1)) 3), none⟩,
  ⟨(some 9), (Op.move (Operand.tmp 16)), none⟩]
attribute [go_sem] r47_6
def k47_1b : PC := (.seq (.reg r47_2) (.seq (.cond (Operand.tmp 10) .skip (.pre ⟨[], [], []⟩ (.exit 0))) (.seq (.block 1 (.seq (.reg r47_3) (.seq (.reg r47_4) (.cond (Operand.tmp 15) (.seq (.reg r47_5) (.pre ⟨[4], [], []⟩ .ret)) .skip)))) (.post (.reg r47_6) ⟨[1, 7, 8, 9], [], []⟩))))
def r47_0 : List PO := [⟨(some 4), (Op.assign (Operand.const (Value.bool false))), none⟩]
attribute [go_sem] r47_0
def r47_1 : List PO := [⟨(some 7), (Op.move (Operand.tmp 0)), none⟩,
  ⟨(some 8), (Op.call { callee := (Callee.builtin Builtin.len), args := #[(Operand.tmp 7)], argTypes := #[36] }), none⟩,
  ⟨(some 9), (Op.move (Operand.const (Value.int IntKind.i64 0))), none⟩]
attribute [go_sem] r47_1
def r47_7 : List PO := [⟨(some 4), (Op.assign (Operand.const (Value.bool false))), none⟩]
attribute [go_sem] r47_7
def c47 : PC := (.seq (.reg r47_0) (.seq (.seq (.reg r47_1) (.block 0 (.pre ⟨[1, 7, 8, 9], [], []⟩ (.loop k47_1b)))) (.seq (.reg r47_7) .ret)))
def i47 : FnI := ⟨17, [(ResultVar.tmp 4)], c47, 0, [[1], [0]], [[0]], false, false, 0⟩
-- loop.example/g00344/spec.NoRing
def r20_17 : List PO := [⟨(some 47), (Op.move (Operand.tmp 7)), none⟩,
  ⟨(some 48), (Op.move (Operand.tmp 9)), none⟩,
  ⟨(some 49), (Op.buildSlice 36 1 #[(0, (Operand.tmp 48))]), none⟩,
  ⟨(some 50), (Op.call { callee := (Callee.builtin Builtin.append), args := #[(Operand.tmp 47), (Operand.tmp 49)], argTypes := #[36, 36] }), none⟩,
  ⟨(some 7), (Op.assign (Operand.tmp 50)), none⟩]
attribute [go_sem] r20_17
def k20_23 : PC := (.cond (Operand.tmp 46) (.post (.reg r20_17) ⟨[0, 1, 6, 7, 8, 9], [.old 2], []⟩) (.post .skip ⟨[0, 1, 6, 7, 8, 9], [.old 0], []⟩))
def r20_13 : List PO := [⟨(some 32), (Op.move (Operand.tmp 1)), none⟩,
  ⟨(some 33), (Op.move (Operand.tmp 7)), none⟩,
  ⟨(some 34), (Op.move (Operand.tmp 8)), none⟩,
  ⟨(some 35), (Op.indexAddr 36 (Operand.tmp 33) (Operand.tmp 34)), none⟩,
  ⟨(some 36), (Op.load 3 (Operand.tmp 35)), none⟩,
  ⟨(some 37), (Op.move (Operand.tmp 9)), none⟩,
  ⟨(some 38), (Op.call { callee := (Callee.value (Operand.func 45)), args := #[(Operand.tmp 32), (Operand.tmp 36), (Operand.tmp 37)], argTypes := #[25, 3, 3] }), none⟩,
  ⟨(some 39), (Op.binOp BinOp.neq 3 (Operand.tmp 38) (Operand.const (Value.int IntKind.i64 1)) 3), none⟩]
attribute [go_sem] r20_13
def r20_14 : List PO := [⟨(some 40), (Op.move (Operand.tmp 9)), none⟩,
  ⟨(some 41), (Op.move (Operand.tmp 6)), none⟩,
  ⟨(some 42), (Op.binOp BinOp.eql 3 (Operand.tmp 40) (Operand.tmp 41) 3), none⟩]
attribute [go_sem] r20_14
def r20_15 : List PO := [⟨(some 4), (Op.assign (Operand.const (Value.bool false))), none⟩,
  ⟨(some 5), (Op.assign (Operand.const (Value.bool true))), none⟩]
attribute [go_sem] r20_15
def r20_16 : List PO := [⟨(some 43), (Op.move (Operand.tmp 7)), none⟩,
  ⟨(some 44), (Op.move (Operand.tmp 9)), none⟩,
  ⟨(some 45), (Op.call { callee := (Callee.value (Operand.func 47)), args := #[(Operand.tmp 43), (Operand.tmp 44)], argTypes := #[36, 3] }), none⟩,
  ⟨(some 46), (Op.unOp UnOp.not 4 (Operand.tmp 45)), none⟩]
attribute [go_sem] r20_16
def k20_22 : PC := (.block 5 (.seq (.seq (.reg r20_13) (.cond (Operand.tmp 39) (.pre ⟨[0, 1, 6, 7, 8, 9], [.old 0], []⟩ (.exit 5)) .skip)) (.seq (.seq (.reg r20_14) (.cond (Operand.tmp 42) (.seq (.reg r20_15) (.pre ⟨[4, 5], [], []⟩ .ret)) .skip)) (.seq (.reg r20_16) (.post (.pre ⟨[0, 1, 6, 7, 8, 9, 46], [.old 0], []⟩ k20_23) ⟨[0, 1, 6, 7, 8, 9], [.old 0], []⟩)))))
def r20_11 : List PO := [⟨(some 27), (Op.move (Operand.tmp 9)), none⟩,
  ⟨(some 28), (Op.move (Operand.tmp 0)), none⟩,
  ⟨(some 29), (Op.binOp BinOp.leq 3 (Operand.tmp 27) (Operand.tmp 28) 3), none⟩]
attribute [go_sem] r20_11
def r20_12 : List PO := [⟨(some 30), (Op.move (Operand.tmp 9)), none⟩,
  ⟨(some 31), (Op.binOp BinOp.add 3 (Operand.tmp 30) (Operand.const (Value.int IntKind.i64 1)) 3), none⟩,
  ⟨(some 9), (Op.assign (Operand.tmp 31)), none⟩]
attribute [go_sem] r20_12
def k20_19b : PC := (.seq (.seq (.reg r20_11) (.cond (Operand.tmp 29) .skip (.pre ⟨[0, 1, 6, 7, 8], [.old 0], []⟩ (.exit 4)))) (.seq (.pre ⟨[0, 1, 6, 7, 8, 9], [.old 0], []⟩ k20_22) (.post (.reg r20_12) ⟨[0, 1, 6, 7, 8, 9], [.old 0], []⟩)))
def r20_8 : List PO := [⟨(some 21), (Op.move (Operand.tmp 8)), none⟩,
  ⟨(some 22), (Op.move (Operand.tmp 7)), none⟩,
  ⟨(some 23), (Op.call { callee := (Callee.builtin Builtin.len), args := #[(Operand.tmp 22)], argTypes := #[36] }), none⟩,
  ⟨(some 24), (Op.binOp BinOp.lss 3 (Operand.tmp 21) (Operand.tmp 23) 3), none⟩]
attribute [go_sem] r20_8
def r20_10 : List PO := [⟨(some 9), (Op.assign (Operand.const (Value.int IntKind.i64 0))), none⟩]
attribute [go_sem] r20_10
def r20_9 : List PO := [⟨(some 25), (Op.move (Operand.tmp 8)), none⟩,
  ⟨(some 26), (Op.binOp BinOp.add 3 (Operand.tmp 25) (Operand.const (Value.int IntKind.i64 1)) 3), none⟩,
  ⟨(some 8), (Op.assign (Operand.tmp 26)), none⟩]
attribute [go_sem] r20_9
def k20_13b : PC := (.seq (.seq (.reg r20_8) (.cond (Operand.tmp 24) .skip (.pre ⟨[0, 1, 6], [], []⟩ (.exit 2)))) (.seq (.block 3 (.seq (.reg r20_10) (.block 4 (.pre ⟨[0, 1, 6, 7, 8, 9], [.old 0], []⟩ (.loop k20_19b))))) (.post (.reg r20_9) ⟨[0, 1, 6, 7, 8], [.old 0], []⟩)))
def r20_4 : List PO := [⟨(some 14), (Op.move (Operand.tmp 6)), none⟩,
  ⟨(some 15), (Op.move (Operand.tmp 0)), none⟩,
  ⟨(some 16), (Op.binOp BinOp.leq 3 (Operand.tmp 14) (Operand.tmp 15) 3), none⟩]
attribute [go_sem] r20_4
def r20_6 : List PO := [⟨(some 19), (Op.move (Operand.tmp 6)), none⟩,
  ⟨(some 20), (Op.buildSlice 36 1 #[(0, (Operand.tmp 19))]), none⟩,
  ⟨(some 7), (Op.assign (Operand.tmp 20)), none⟩]
attribute [go_sem] r20_6
def r20_7 : List PO := [⟨(some 8), (Op.assign (Operand.const (Value.int IntKind.i64 0))), none⟩]
attribute [go_sem] r20_7
def r20_5 : List PO := [⟨(some 17), (Op.move (Operand.tmp 6)), none⟩,
  ⟨(some 18), (Op.binOp BinOp.add 3 (Operand.tmp 17) (Operand.const (Value.int IntKind.i64 1)) 3), none⟩,
  ⟨(some 6), (Op.assign (Operand.tmp 18)), none⟩]
attribute [go_sem] r20_5
def k20_1b : PC := (.seq (.seq (.reg r20_4) (.cond (Operand.tmp 16) .skip (.pre ⟨[], [], []⟩ (.exit 0)))) (.seq (.block 1 (.seq (.reg r20_6) (.seq (.reg r20_7) (.block 2 (.pre ⟨[0, 1, 6, 7, 8], [.old 0], []⟩ (.loop k20_13b)))))) (.post (.reg r20_5) ⟨[0, 1, 6], [], []⟩)))
def r20_0 : List PO := [⟨(some 4), (Op.assign (Operand.const (Value.bool false))), none⟩,
  ⟨(some 5), (Op.assign (Operand.const (Value.bool false))), none⟩]
attribute [go_sem] r20_0
def r20_1 : List PO := [⟨(some 10), (Op.move (Operand.tmp 0)), none⟩,
  ⟨(some 11), (Op.move (Operand.tmp 1)), none⟩,
  ⟨(some 12), (Op.call { callee := (Callee.value (Operand.func 12)), args := #[(Operand.tmp 10), (Operand.tmp 11)], argTypes := #[3, 25] }), none⟩,
  ⟨(some 13), (Op.unOp UnOp.not 4 (Operand.tmp 12)), none⟩]
attribute [go_sem] r20_1
def r20_2 : List PO := [⟨(some 4), (Op.assign (Operand.const (Value.bool false))), none⟩,
  ⟨(some 5), (Op.assign (Operand.const (Value.bool false))), none⟩]
attribute [go_sem] r20_2
def r20_3 : List PO := [⟨(some 6), (Op.assign (Operand.const (Value.int IntKind.i64 0))), none⟩]
attribute [go_sem] r20_3
def r20_18 : List PO := [⟨(some 4), (Op.assign (Operand.const (Value.bool true))), none⟩,
  ⟨(some 5), (Op.assign (Operand.const (Value.bool true))), none⟩]
attribute [go_sem] r20_18
def c20 : PC := (.seq (.reg r20_0) (.seq (.seq (.reg r20_1) (.cond (Operand.tmp 13) (.seq (.reg r20_2) .ret) .skip)) (.seq (.seq (.reg r20_3) (.block 0 (.pre ⟨[0, 1, 6], [], []⟩ (.loop k20_1b)))) (.seq (.reg r20_18) .ret))))
def i20 : FnI := ⟨51, [(ResultVar.tmp 4), (ResultVar.tmp 5)], c20, 0, [[0], [3]], [[0], [0]], false, false, 0⟩
-- loop.example/g00344/impl.within
def r41_1 : List PO := [⟨(some 7), (Op.move (Operand.tmp 0)), none⟩,
  ⟨(some 8), (Op.move (Operand.tmp 1)), none⟩,
  ⟨(some 9), (Op.binOp BinOp.geq 3 (Operand.tmp 7) (Operand.tmp 8) 3), none⟩,
  ⟨(some 10), (Op.move (Operand.tmp 9)), none⟩,
  ⟨(some 11), (Op.move (Operand.tmp 0)), (some (10, true))⟩,
  ⟨(some 12), (Op.move (Operand.tmp 2)), (some (10, true))⟩,
  ⟨(some 13), (Op.binOp BinOp.leq 3 (Operand.tmp 11) (Operand.tmp 12) 3), (some (10, true))⟩,
  ⟨(some 14), (Op.pick (Operand.tmp 10) (Operand.tmp 13) (Operand.const (Value.bool false))), none⟩,
  ⟨(some 6), (Op.assign (Operand.tmp 14)), none⟩]
attribute [go_sem] r41_1
def k41_1 : PC := (.post (.reg r41_1) ⟨[6], [], []⟩)
def r41_0 : List PO := [⟨(some 6), (Op.assign (Operand.const (Value.bool false))), none⟩]
attribute [go_sem] r41_0
def c41 : PC := (.seq (.reg r41_0) (.seq (.pre ⟨[0, 1, 2], [], []⟩ k41_1) .ret))
def i41 : FnI := ⟨15, [(ResultVar.tmp 6)], c41, 0, [[0], [0], [0]], [[0]], false, false, 0⟩
-- slices.IndexFunc[[]loop.example/g00344/impl.Rel,loop.example/g00344/impl.Rel]
def r70_2 : List PO := [⟨(some 9), (Op.binOp BinOp.lss 3 (Operand.tmp 8) (Operand.tmp 7) 3), none⟩]
attribute [go_sem] r70_2
def r70_3 : List PO := [⟨(some 10), (Op.move (Operand.tmp 8)), none⟩,
  ⟨(some 5), (Op.assign (Operand.tmp 10)), none⟩]
attribute [go_sem] r70_3
def r70_4 : List PO := [⟨(some 11), (Op.move (Operand.tmp 1)), none⟩,
  ⟨(some 12), (Op.move (Operand.tmp 0)), none⟩,
  ⟨(some 13), (Op.move (Operand.tmp 5)), none⟩,
  ⟨(some 14), (Op.indexAddr 25 (Operand.tmp 12) (Operand.tmp 13)), none⟩,
  ⟨(some 15), (Op.load 63 (Operand.tmp 14)), none⟩,
  ⟨(some 16), (Op.call { callee := (Callee.value (Operand.tmp 11)), args := #[(Operand.tmp 15)], argTypes := #[63] }), none⟩]
attribute [go_sem] r70_4
def r70_5 : List PO := [⟨(some 17), (Op.move (Operand.tmp 5)), none⟩,
  ⟨(some 4), (Op.assign (Operand.tmp 17)), none⟩]
attribute [go_sem] r70_5
def r70_6 : List PO := [⟨(some 18), (Op.binOp BinOp.add 3 (Operand.tmp 8) (Operand.const (Value.int IntKind.i64 1)) 3), none⟩,
  ⟨(some 8), (Op.move (Operand.tmp 18)), none⟩]
attribute [go_sem] r70_6
def k70_1b : PC := (.seq (.reg r70_2) (.seq (.cond (Operand.tmp 9) .skip (.pre ⟨[], [], []⟩ (.exit 0))) (.seq (.block 1 (.seq (.reg r70_3) (.seq (.reg r70_4) (.cond (Operand.tmp 16) (.seq (.reg r70_5) (.pre ⟨[4], [], []⟩ .ret)) .skip)))) (.post (.reg r70_6) ⟨[0, 1, 7, 8], [], []⟩))))
def r70_0 : List PO := [⟨(some 4), (Op.assign (Operand.const (Value.int IntKind.i64 0))), none⟩]
attribute [go_sem] r70_0
def r70_1 : List PO := [⟨(some 6), (Op.move (Operand.tmp 0)), none⟩,
  ⟨(some 7), (Op.call { callee := (Callee.builtin Builtin.len), args := #[(Operand.tmp 6)], argTypes := #[25] }), none⟩,
  ⟨(some 8), (Op.move (Operand.const (Value.int IntKind.i64 0))), none⟩]
attribute [go_sem] r70_1
def r70_7 : List PO := [⟨(some 4), (Op.assign (Operand.const (Value.int IntKind.i64 (-1)))), none⟩]
attribute [go_sem] r70_7
def c70 : PC := (.seq (.reg r70_0) (.seq (.seq (.reg r70_1) (.block 0 (.pre ⟨[0, 1, 7, 8], [], []⟩ (.loop k70_1b)))) (.seq (.reg r70_7) .ret)))
def i70 : FnI := ⟨19, [(ResultVar.tmp 4)], c70, 0, [[3], [0]], [[0]], false, false, 0⟩
-- slices.ContainsFunc[[]loop.example/g00344/impl.Rel,loop.example/g00344/impl.Rel]
def r42_0 : List PO := [⟨(some 4), (Op.assign (Operand.const (Value.bool false))), none⟩]
attribute [go_sem] r42_0
def r42_1 : List PO := [⟨(some 5), (Op.move (Operand.tmp 0)), none⟩,
  ⟨(some 6), (Op.move (Operand.tmp 1)), none⟩,
  ⟨(some 7), (Op.call { callee := (Callee.value (Operand.func 70)), args := #[(Operand.tmp 5), (Operand.tmp 6)], argTypes := #[25, 67] }), none⟩,
  ⟨(some 8), (Op.binOp BinOp.geq 3 (Operand.tmp 7) (Operand.const (Value.int IntKind.i64 0)) 3), none⟩,
  ⟨(some 4), (Op.assign (Operand.tmp 8)), none⟩]
attribute [go_sem] r42_1
def c42 : PC := (.seq (.reg r42_0) (.seq (.reg r42_1) .ret))
def i42 : FnI := ⟨9, [(ResultVar.tmp 4)], c42, 0, [[3], [0]], [[0]], false, false, 0⟩
-- loop.example/g00344/impl.GoodRels$1
def r43_1 : List PO := [⟨(some 4), (Op.fieldAddr 63 (Operand.tmp 1) 0), none⟩,
  ⟨(some 5), (Op.load 3 (Operand.tmp 4)), none⟩,
  ⟨(some 6), (Op.fieldAddr 63 (Operand.tmp 2) 0), none⟩,
  ⟨(some 7), (Op.load 3 (Operand.tmp 6)), none⟩,
  ⟨(some 8), (Op.binOp BinOp.eql 3 (Operand.tmp 5) (Operand.tmp 7) 3), none⟩,
  ⟨(some 9), (Op.move (Operand.tmp 8)), none⟩,
  ⟨(some 10), (Op.fieldAddr 63 (Operand.tmp 1) 1), (some (9, true))⟩,
  ⟨(some 11), (Op.load 3 (Operand.tmp 10)), (some (9, true))⟩,
  ⟨(some 12), (Op.fieldAddr 63 (Operand.tmp 2) 1), (some (9, true))⟩,
  ⟨(some 13), (Op.load 3 (Operand.tmp 12)), (some (9, true))⟩,
  ⟨(some 14), (Op.binOp BinOp.eql 3 (Operand.tmp 11) (Operand.tmp 13) 3), (some (9, true))⟩,
  ⟨(some 15), (Op.pick (Operand.tmp 9) (Operand.tmp 14) (Operand.const (Value.bool false))), none⟩,
  ⟨(some 3), (Op.assign (Operand.tmp 15)), none⟩]
attribute [go_sem] r43_1
def k43_1 : PC := (.post (.reg r43_1) ⟨[3], [], []⟩)
def r43_0 : List PO := [⟨(some 2), (Op.box 63 (Operand.tmp 0)), none⟩,
  ⟨(some 3), (Op.assign (Operand.const (Value.bool false))), none⟩]
attribute [go_sem] r43_0
def c43 : PC := (.seq (.reg r43_0) (.seq (.pre ⟨[1, 2], [.old 0], []⟩ k43_1) .ret))
def i43 : FnI := ⟨16, [(ResultVar.tmp 3)], c43, 0, [[0, 0, 0], [0]], [[0]], false, false, 0⟩
-- loop.example/g00344/impl.GoodRels
def r14_1 : List PO := [⟨(some 7), (Op.move (Operand.tmp 0)), none⟩,
  ⟨(some 8), (Op.call { callee := (Callee.value (Operand.func 41)), args := #[(Operand.tmp 7), (Operand.const (Value.int IntKind.i64 1)), (Operand.const (Value.int IntKind.i64 5))], argTypes := #[3, 3, 3] }), none⟩,
  ⟨(some 9), (Op.unOp UnOp.not 4 (Operand.tmp 8)), none⟩,
  ⟨(some 10), (Op.move (Operand.tmp 9)), none⟩,
  ⟨(some 11), (Op.move (Operand.tmp 1)), (some (10, false))⟩,
  ⟨(some 12), (Op.call { callee := (Callee.builtin Builtin.len), args := #[(Operand.tmp 11)], argTypes := #[25] }), (some (10, false))⟩,
  ⟨(some 13), (Op.binOp BinOp.gtr 3 (Operand.tmp 12) (Operand.const (Value.int IntKind.i64 15)) 3), (some (10, false))⟩,
  ⟨(some 14), (Op.pick (Operand.tmp 10) (Operand.const (Value.bool true)) (Operand.tmp 13)), none⟩]
attribute [go_sem] r14_1
def k14_1 : PC := (.post (.reg r14_1) ⟨[0, 1, 14], [], []⟩)
def r14_6 : List PO := [⟨(some 22), (Op.fieldAddr 63 (Operand.tmp 6) 1), none⟩,
  ⟨(some 23), (Op.load 3 (Operand.tmp 22)), none⟩,
  ⟨(some 24), (Op.move (Operand.tmp 0)), none⟩,
  ⟨(some 25), (Op.call { callee := (Callee.value (Operand.func 41)), args := #[(Operand.tmp 23), (Operand.const (Value.int IntKind.i64 1)), (Operand.tmp 24)], argTypes := #[3, 3, 3] }), none⟩,
  ⟨(some 26), (Op.unOp UnOp.not 4 (Operand.tmp 25)), none⟩,
  ⟨(some 27), (Op.move (Operand.tmp 26)), none⟩,
  ⟨(some 28), (Op.fieldAddr 63 (Operand.tmp 6) 0), (some (27, false))⟩,
  ⟨(some 29), (Op.load 3 (Operand.tmp 28)), (some (27, false))⟩,
  ⟨(some 30), (Op.fieldAddr 63 (Operand.tmp 6) 1), (some (27, false))⟩,
  ⟨(some 31), (Op.load 3 (Operand.tmp 30)), (some (27, false))⟩,
  ⟨(some 32), (Op.binOp BinOp.sub 3 (Operand.tmp 31) (Operand.const (Value.int IntKind.i64 1)) 3), (some (27, false))⟩,
  ⟨(some 33), (Op.call { callee := (Callee.value (Operand.func 41)), args := #[(Operand.tmp 29), (Operand.const (Value.int IntKind.i64 0)), (Operand.tmp 32)], argTypes := #[3, 3, 3] }), (some (27, false))⟩,
  ⟨(some 34), (Op.unOp UnOp.not 4 (Operand.tmp 33)), (some (27, false))⟩,
  ⟨(some 35), (Op.pick (Operand.tmp 27) (Operand.const (Value.bool true)) (Operand.tmp 34)), none⟩,
  ⟨(some 36), (Op.move (Operand.tmp 35)), none⟩,
  ⟨(some 37), (Op.fieldAddr 63 (Operand.tmp 6) 2), (some (36, false))⟩,
  ⟨(some 38), (Op.load 3 (Operand.tmp 37)), (some (36, false))⟩,
  ⟨(some 39), (Op.call { callee := (Callee.value (Operand.func 41)), args := #[(Operand.tmp 38), (Operand.const (Value.int IntKind.i64 1)), (Operand.const (Value.int IntKind.i64 3))], argTypes := #[3, 3, 3] }), (some (36, false))⟩,
  ⟨(some 40), (Op.unOp UnOp.not 4 (Operand.tmp 39)), (some (36, false))⟩,
  ⟨(some 41), (Op.pick (Operand.tmp 36) (Operand.const (Value.bool true)) (Operand.tmp 40)), none⟩,
  ⟨(some 42), (Op.move (Operand.tmp 41)), none⟩,
  ⟨(some 43), (Op.move (Operand.tmp 1)), (some (42, false))⟩,
  ⟨(some 44), (Op.move (Operand.tmp 5)), (some (42, false))⟩,
  ⟨(some 45), (Op.slice 25 (Operand.tmp 43) none (some (Operand.tmp 44)) none), (some (42, false))⟩,
  ⟨(some 46), (Op.makeFunc (Fn.func 43) #[] #[(Operand.tmp 6)]), (some (42, false))⟩,
  ⟨(some 47), (Op.call { callee := (Callee.value (Operand.func 42)), args := #[(Operand.tmp 45), (Operand.tmp 46)], argTypes := #[25, 67] }), (some (42, false))⟩,
  ⟨(some 48), (Op.pick (Operand.tmp 42) (Operand.const (Value.bool true)) (Operand.tmp 47)), none⟩]
attribute [go_sem] r14_6
def k14_4 : PC := (.post (.reg r14_6) ⟨[0, 1, 15, 16, 17, 48], [], []⟩)
def r14_4 : List PO := [⟨(some 18), (Op.binOp BinOp.lss 3 (Operand.tmp 17) (Operand.tmp 16) 3), none⟩]
attribute [go_sem] r14_4
def r14_5 : List PO := [⟨(some 19), (Op.move (Operand.tmp 17)), none⟩,
  ⟨(some 20), (Op.indexAddr 25 (Operand.tmp 15) (Operand.tmp 17)), none⟩,
  ⟨(some 21), (Op.load 63 (Operand.tmp 20)), none⟩,
  ⟨(some 6), (Op.alloc 63), none⟩,
  ⟨(some 5), (Op.assign (Operand.tmp 19)), none⟩,
  ⟨none, (Op.store 63 (Operand.tmp 6) (Operand.tmp 21)), none⟩]
attribute [go_sem] r14_5
def r14_7 : List PO := [⟨(some 4), (Op.assign (Operand.const (Value.bool false))), none⟩]
attribute [go_sem] r14_7
def r14_8 : List PO := [⟨(some 49), (Op.binOp BinOp.add 3 (Operand.tmp 17) (Operand.const (Value.int IntKind.i64 1)) 3), none⟩,
  ⟨(some 17), (Op.move (Operand.tmp 49)), none⟩]
attribute [go_sem] r14_8
def k14_2b : PC := (.seq (.reg r14_4) (.seq (.cond (Operand.tmp 18) .skip (.pre ⟨[], [], []⟩ (.exit 0))) (.seq (.block 1 (.seq (.reg r14_5) (.seq (.pre ⟨[0, 1, 5, 6, 15, 16, 17], [.old 0], []⟩ k14_4) (.cond (Operand.tmp 48) (.seq (.reg r14_7) (.pre ⟨[4], [], []⟩ .ret)) .skip)))) (.post (.reg r14_8) ⟨[0, 1, 15, 16, 17], [], []⟩))))
def r14_0 : List PO := [⟨(some 4), (Op.assign (Operand.const (Value.bool false))), none⟩]
attribute [go_sem] r14_0
def r14_2 : List PO := [⟨(some 4), (Op.assign (Operand.const (Value.bool false))), none⟩]
attribute [go_sem] r14_2
def r14_3 : List PO := [⟨(some 15), (Op.move (Operand.tmp 1)), none⟩,
  ⟨(some 16), (Op.call { callee := (Callee.builtin Builtin.len), args := #[(Operand.tmp 15)], argTypes := #[25] }), none⟩,
  ⟨(some 17), (Op.move (Operand.const (Value.int IntKind.i64 0))), none⟩]
attribute [go_sem] r14_3
def r14_9 : List PO := [⟨(some 4), (Op.assign (Operand.const (Value.bool true))), none⟩]
attribute [go_sem] r14_9
def c14 : PC := (.seq (.reg r14_0) (.seq (.seq (.pre ⟨[0, 1], [], []⟩ k14_1) (.cond (Operand.tmp 14) (.seq (.reg r14_2) .ret) .skip)) (.seq (.seq (.reg r14_3) (.block 0 (.pre ⟨[0, 1, 15, 16, 17], [], []⟩ (.loop k14_2b)))) (.seq (.reg r14_9) .ret))))
def i14 : FnI := ⟨50, [(ResultVar.tmp 4)], c14, 0, [[0], [3]], [[0]], false, false, 0⟩
-- slices.Clone[[]int,int]
def r49_0 : List PO := [⟨(some 2), (Op.assign (Operand.const (Value.slice none 0 0))), none⟩]
attribute [go_sem] r49_0
def r49_1 : List PO := [⟨(some 3), (Op.move (Operand.tmp 0)), none⟩,
  ⟨(some 4), (Op.binOp BinOp.eql 36 (Operand.tmp 3) (Operand.const (Value.slice none 0 0)) 36), none⟩]
def r49_2 : List PO := [⟨(some 2), (Op.assign (Operand.const (Value.slice none 0 0))), none⟩]
attribute [go_sem] r49_2
def r49_3 : List PO := [⟨(some 5), (Op.buildSlice 36 0 #[]), none⟩,
  ⟨(some 6), (Op.move (Operand.tmp 0)), none⟩,
  ⟨(some 7), (Op.call { callee := (Callee.builtin Builtin.append), args := #[(Operand.tmp 5), (Operand.tmp 6)], argTypes := #[36, 36] }), none⟩,
  ⟨(some 2), (Op.assign (Operand.tmp 7)), none⟩]
attribute [go_sem] r49_3
def c49 : PC := (.seq (.reg r49_0) (.amb [⟨(some 3), (Op.move (Operand.tmp 0)), none⟩, ⟨(some 4), (Op.binOp BinOp.eql 36 (Operand.tmp 3) (Operand.const (Value.slice none 0 0)) 36), none⟩] (Operand.tmp 4) (.seq (.seq (.reg r49_2) (.pre ⟨[2], [.nilT 2 0 1], []⟩ .ret)) .bad) (.seq .skip (.seq (.reg r49_3) (.pre ⟨[2], [.old 1], []⟩ .ret)))))
def i49 : FnI := ⟨8, [(ResultVar.tmp 2)], c49, 0, [[1]], [[1]], false, false, 0⟩
-- slices.IndexFunc[[]int,int]
def r71_2 : List PO := [⟨(some 9), (Op.binOp BinOp.lss 3 (Operand.tmp 8) (Operand.tmp 7) 3), none⟩]
attribute [go_sem] r71_2
def r71_3 : List PO := [⟨(some 10), (Op.move (Operand.tmp 8)), none⟩,
  ⟨(some 5), (Op.assign (Operand.tmp 10)), none⟩]
attribute [go_sem] r71_3
def r71_4 : List PO := [⟨(some 11), (Op.move (Operand.tmp 1)), none⟩,
  ⟨(some 12), (Op.move (Operand.tmp 0)), none⟩,
  ⟨(some 13), (Op.move (Operand.tmp 5)), none⟩,
  ⟨(some 14), (Op.indexAddr 36 (Operand.tmp 12) (Operand.tmp 13)), none⟩,
  ⟨(some 15), (Op.load 3 (Operand.tmp 14)), none⟩,
  ⟨(some 16), (Op.call { callee := (Callee.value (Operand.tmp 11)), args := #[(Operand.tmp 15)], argTypes := #[3] }), none⟩]
attribute [go_sem] r71_4
def r71_5 : List PO := [⟨(some 17), (Op.move (Operand.tmp 5)), none⟩,
  ⟨(some 4), (Op.assign (Operand.tmp 17)), none⟩]
attribute [go_sem] r71_5
def r71_6 : List PO := [⟨(some 18), (Op.binOp BinOp.add 3 (Operand.tmp 8) (Operand.const (Value.int IntKind.i64 1)) 3), none⟩,
  ⟨(some 8), (Op.move (Operand.tmp 18)), none⟩]
attribute [go_sem] r71_6
def k71_1b : PC := (.seq (.reg r71_2) (.seq (.cond (Operand.tmp 9) .skip (.pre ⟨[], [], []⟩ (.exit 0))) (.seq (.block 1 (.seq (.reg r71_3) (.seq (.reg r71_4) (.cond (Operand.tmp 16) (.seq (.reg r71_5) (.pre ⟨[4], [], []⟩ .ret)) .skip)))) (.post (.reg r71_6) ⟨[0, 1, 7, 8], [], []⟩))))
def r71_0 : List PO := [⟨(some 4), (Op.assign (Operand.const (Value.int IntKind.i64 0))), none⟩]
attribute [go_sem] r71_0
def r71_1 : List PO := [⟨(some 6), (Op.move (Operand.tmp 0)), none⟩,
  ⟨(some 7), (Op.call { callee := (Callee.builtin Builtin.len), args := #[(Operand.tmp 6)], argTypes := #[36] }), none⟩,
  ⟨(some 8), (Op.move (Operand.const (Value.int IntKind.i64 0))), none⟩]
attribute [go_sem] r71_1
def r71_7 : List PO := [⟨(some 4), (Op.assign (Operand.const (Value.int IntKind.i64 (-1)))), none⟩]
attribute [go_sem] r71_7
def c71 : PC := (.seq (.reg r71_0) (.seq (.seq (.reg r71_1) (.block 0 (.pre ⟨[0, 1, 7, 8], [], []⟩ (.loop k71_1b)))) (.seq (.reg r71_7) .ret)))
def i71 : FnI := ⟨19, [(ResultVar.tmp 4)], c71, 0, [[1], [0]], [[0]], false, false, 0⟩
-- slices.DeleteFunc[[]int,int]
def r48_9 : List PO := [⟨(some 30), (Op.move (Operand.tmp 0)), none⟩,
  ⟨(some 31), (Op.move (Operand.tmp 5)), none⟩,
  ⟨(some 32), (Op.move (Operand.tmp 7)), none⟩,
  ⟨(some 33), (Op.indexAddr 36 (Operand.tmp 30) (Operand.tmp 31)), none⟩,
  ⟨none, (Op.store 3 (Operand.tmp 33) (Operand.tmp 32)), none⟩]
attribute [go_sem] r48_9
def r48_10 : List PO := [⟨(some 34), (Op.move (Operand.tmp 5)), none⟩,
  ⟨(some 35), (Op.binOp BinOp.add 3 (Operand.tmp 34) (Operand.const (Value.int IntKind.i64 1)) 3), none⟩,
  ⟨(some 5), (Op.assign (Operand.tmp 35)), none⟩]
attribute [go_sem] r48_10
def k48_3 : PC := (.cond (Operand.tmp 29) (.seq (.reg r48_9) (.post (.reg r48_10) ⟨[0, 1, 5, 6], [], []⟩)) (.post .skip ⟨[0, 1, 5, 6], [], []⟩))
def r48_5 : List PO := [⟨(some 16), (Op.move (Operand.tmp 6)), none⟩,
  ⟨(some 17), (Op.move (Operand.tmp 0)), none⟩,
  ⟨(some 18), (Op.call { callee := (Callee.builtin Builtin.len), args := #[(Operand.tmp 17)], argTypes := #[36] }), none⟩,
  ⟨(some 19), (Op.binOp BinOp.lss 3 (Operand.tmp 16) (Operand.tmp 18) 3), none⟩]
attribute [go_sem] r48_5
def r48_7 : List PO := [⟨(some 22), (Op.move (Operand.tmp 0)), none⟩,
  ⟨(some 23), (Op.move (Operand.tmp 6)), none⟩,
  ⟨(some 24), (Op.indexAddr 36 (Operand.tmp 22) (Operand.tmp 23)), none⟩,
  ⟨(some 25), (Op.load 3 (Operand.tmp 24)), none⟩,
  ⟨(some 7), (Op.assign (Operand.tmp 25)), none⟩]
attribute [go_sem] r48_7
def r48_8 : List PO := [⟨(some 26), (Op.move (Operand.tmp 1)), none⟩,
  ⟨(some 27), (Op.move (Operand.tmp 7)), none⟩,
  ⟨(some 28), (Op.call { callee := (Callee.value (Operand.tmp 26)), args := #[(Operand.tmp 27)], argTypes := #[3] }), none⟩,
  ⟨(some 29), (Op.unOp UnOp.not 4 (Operand.tmp 28)), none⟩]
attribute [go_sem] r48_8
def r48_6 : List PO := [⟨(some 20), (Op.move (Operand.tmp 6)), none⟩,
  ⟨(some 21), (Op.binOp BinOp.add 3 (Operand.tmp 20) (Operand.const (Value.int IntKind.i64 1)) 3), none⟩,
  ⟨(some 6), (Op.assign (Operand.tmp 21)), none⟩]
attribute [go_sem] r48_6
def k48_1b : PC := (.seq (.seq (.reg r48_5) (.cond (Operand.tmp 19) .skip (.pre ⟨[0, 5], [], []⟩ (.exit 0)))) (.seq (.block 1 (.seq (.reg r48_7) (.seq (.reg r48_8) (.pre ⟨[0, 1, 5, 6, 7, 29], [], []⟩ k48_3)))) (.post (.reg r48_6) ⟨[0, 1, 5, 6], [], []⟩)))
def r48_0 : List PO := [⟨(some 4), (Op.assign (Operand.const (Value.slice none 0 0))), none⟩]
attribute [go_sem] r48_0
def r48_1 : List PO := [⟨(some 8), (Op.move (Operand.tmp 0)), none⟩,
  ⟨(some 9), (Op.move (Operand.tmp 1)), none⟩,
  ⟨(some 10), (Op.call { callee := (Callee.value (Operand.func 71)), args := #[(Operand.tmp 8), (Operand.tmp 9)], argTypes := #[36, 73] }), none⟩,
  ⟨(some 5), (Op.assign (Operand.tmp 10)), none⟩]
attribute [go_sem] r48_1
def r48_2 : List PO := [⟨(some 11), (Op.move (Operand.tmp 5)), none⟩,
  ⟨(some 12), (Op.binOp BinOp.eql 3 (Operand.tmp 11) (Operand.const (Value.int IntKind.i64 (-1))) 3), none⟩]
attribute [go_sem] r48_2
def r48_3 : List PO := [⟨(some 13), (Op.move (Operand.tmp 0)), none⟩,
  ⟨(some 4), (Op.assign (Operand.tmp 13)), none⟩]
attribute [go_sem] r48_3
def r48_4 : List PO := [⟨(some 14), (Op.move (Operand.tmp 5)), none⟩,
  ⟨(some 15), (Op.binOp BinOp.add 3 (Operand.tmp 14) (Operand.const (Value.int IntKind.i64 1)) 3), none⟩,
  ⟨(some 6), (Op.assign (Operand.tmp 15)), none⟩]
attribute [go_sem] r48_4
def r48_11 : List PO := [⟨(some 36), (Op.move (Operand.tmp 0)), none⟩,
  ⟨(some 37), (Op.move (Operand.tmp 5)), none⟩,
  ⟨(some 38), (Op.slice 36 (Operand.tmp 36) (some (Operand.tmp 37)) none none), none⟩,
  ⟨none, (Op.call { callee := (Callee.builtin Builtin.clear), args := #[(Operand.tmp 38)], argTypes := #[36] }), none⟩]
attribute [go_sem] r48_11
def r48_12 : List PO := [⟨(some 39), (Op.move (Operand.tmp 0)), none⟩,
  ⟨(some 40), (Op.move (Operand.tmp 5)), none⟩,
  ⟨(some 41), (Op.slice 36 (Operand.tmp 39) none (some (Operand.tmp 40)) none), none⟩,
  ⟨(some 4), (Op.assign (Operand.tmp 41)), none⟩]
attribute [go_sem] r48_12
def c48 : PC := (.seq (.reg r48_0) (.seq (.reg r48_1) (.seq (.seq (.reg r48_2) (.cond (Operand.tmp 12) (.seq (.reg r48_3) (.pre ⟨[4], [.old 0], [0]⟩ .ret)) .skip)) (.seq (.seq (.reg r48_4) (.block 0 (.pre ⟨[0, 1, 5, 6], [], []⟩ (.loop k48_1b)))) (.seq (.reg r48_11) (.seq (.reg r48_12) (.pre ⟨[4], [.old 0], [0]⟩ .ret)))))))
def i48 : FnI := ⟨42, [(ResultVar.tmp 4)], c48, 3, [[1], [0]], [[1]], false, true, 1⟩
-- slices.ContainsFunc[[]int,int]
def r51_0 : List PO := [⟨(some 4), (Op.assign (Operand.const (Value.bool false))), none⟩]
attribute [go_sem] r51_0
def r51_1 : List PO := [⟨(some 5), (Op.move (Operand.tmp 0)), none⟩,
  ⟨(some 6), (Op.move (Operand.tmp 1)), none⟩,
  ⟨(some 7), (Op.call { callee := (Callee.value (Operand.func 71)), args := #[(Operand.tmp 5), (Operand.tmp 6)], argTypes := #[36, 73] }), none⟩,
  ⟨(some 8), (Op.binOp BinOp.geq 3 (Operand.tmp 7) (Operand.const (Value.int IntKind.i64 0)) 3), none⟩,
  ⟨(some 4), (Op.assign (Operand.tmp 8)), none⟩]
attribute [go_sem] r51_1
def c51 : PC := (.seq (.reg r51_0) (.seq (.reg r51_1) .ret))
def i51 : FnI := ⟨9, [(ResultVar.tmp 4)], c51, 0, [[1], [0]], [[0]], false, false, 0⟩
-- loop.example/g00344/impl.kindTo
def r46_4 : List PO := [⟨(some 15), (Op.fieldAddr 63 (Operand.tmp 8) 0), none⟩,
  ⟨(some 16), (Op.load 3 (Operand.tmp 15)), none⟩,
  ⟨(some 17), (Op.move (Operand.tmp 1)), none⟩,
  ⟨(some 18), (Op.binOp BinOp.eql 3 (Operand.tmp 16) (Operand.tmp 17) 3), none⟩,
  ⟨(some 19), (Op.move (Operand.tmp 18)), none⟩,
  ⟨(some 20), (Op.fieldAddr 63 (Operand.tmp 8) 1), (some (19, true))⟩,
  ⟨(some 21), (Op.load 3 (Operand.tmp 20)), (some (19, true))⟩,
  ⟨(some 22), (Op.move (Operand.tmp 2)), (some (19, true))⟩,
  ⟨(some 23), (Op.binOp BinOp.eql 3 (Operand.tmp 21) (Operand.tmp 22) 3), (some (19, true))⟩,
  ⟨(some 24), (Op.pick (Operand.tmp 19) (Operand.tmp 23) (Operand.const (Value.bool false))), none⟩]
attribute [go_sem] r46_4
def k46_4 : PC := (.post (.reg r46_4) ⟨[1, 2, 8, 9, 10, 11, 24], [.old 0], []⟩)
def r46_6 : List PO := [⟨(some 27), (Op.fieldAddr 63 (Operand.tmp 8) 0), none⟩,
  ⟨(some 28), (Op.load 3 (Operand.tmp 27)), none⟩,
  ⟨(some 29), (Op.move (Operand.tmp 2)), none⟩,
  ⟨(some 30), (Op.binOp BinOp.eql 3 (Operand.tmp 28) (Operand.tmp 29) 3), none⟩,
  ⟨(some 31), (Op.move (Operand.tmp 30)), none⟩,
  ⟨(some 32), (Op.fieldAddr 63 (Operand.tmp 8) 1), (some (31, true))⟩,
  ⟨(some 33), (Op.load 3 (Operand.tmp 32)), (some (31, true))⟩,
  ⟨(some 34), (Op.move (Operand.tmp 1)), (some (31, true))⟩,
  ⟨(some 35), (Op.binOp BinOp.eql 3 (Operand.tmp 33) (Operand.tmp 34) 3), (some (31, true))⟩,
  ⟨(some 36), (Op.pick (Operand.tmp 31) (Operand.tmp 35) (Operand.const (Value.bool false))), none⟩]
attribute [go_sem] r46_6
def k46_5 : PC := (.post (.reg r46_6) ⟨[1, 2, 8, 9, 10, 11, 36], [.old 0], []⟩)
def r46_2 : List PO := [⟨(some 12), (Op.binOp BinOp.lss 3 (Operand.tmp 11) (Operand.tmp 10) 3), none⟩]
attribute [go_sem] r46_2
def r46_3 : List PO := [⟨(some 13), (Op.indexAddr 25 (Operand.tmp 9) (Operand.tmp 11)), none⟩,
  ⟨(some 14), (Op.load 63 (Operand.tmp 13)), none⟩,
  ⟨(some 8), (Op.alloc 63), none⟩,
  ⟨none, (Op.store 63 (Operand.tmp 8) (Operand.tmp 14)), none⟩]
attribute [go_sem] r46_3
def r46_5 : List PO := [⟨(some 25), (Op.fieldAddr 63 (Operand.tmp 8) 2), none⟩,
  ⟨(some 26), (Op.load 3 (Operand.tmp 25)), none⟩,
  ⟨(some 6), (Op.assign (Operand.tmp 26)), none⟩]
attribute [go_sem] r46_5
def r46_7 : List PO := [⟨(some 37), (Op.fieldAddr 63 (Operand.tmp 8) 2), none⟩,
  ⟨(some 38), (Op.load 3 (Operand.tmp 37)), none⟩,
  ⟨(some 39), (Op.binOp BinOp.sub 3 (Operand.const (Value.int IntKind.i64 4)) (Operand.tmp 38) 3), none⟩,
  ⟨(some 6), (Op.assign (Operand.tmp 39)), none⟩]
attribute [go_sem] r46_7
def r46_8 : List PO := [⟨(some 40), (Op.binOp BinOp.add 3 (Operand.tmp 11) (Operand.const (Value.int IntKind.i64 1)) 3), none⟩,
  ⟨(some 11), (Op.move (Operand.tmp 40)), none⟩]
attribute [go_sem] r46_8
def k46_1b : PC := (.seq (.reg r46_2) (.seq (.cond (Operand.tmp 12) .skip (.pre ⟨[], [], []⟩ (.exit 0))) (.seq (.block 1 (.seq (.reg r46_3) (.seq (.seq (.pre ⟨[1, 2, 8, 9, 10, 11], [.old 0], []⟩ k46_4) (.cond (Operand.tmp 24) (.seq (.reg r46_5) (.pre ⟨[6], [], []⟩ .ret)) .skip)) (.seq (.pre ⟨[1, 2, 8, 9, 10, 11], [.old 0], []⟩ k46_5) (.cond (Operand.tmp 36) (.seq (.reg r46_7) (.pre ⟨[6], [], []⟩ .ret)) .skip))))) (.post (.reg r46_8) ⟨[1, 2, 9, 10, 11], [], []⟩))))
def r46_0 : List PO := [⟨(some 6), (Op.assign (Operand.const (Value.int IntKind.i64 0))), none⟩]
attribute [go_sem] r46_0
def r46_1 : List PO := [⟨(some 9), (Op.move (Operand.tmp 0)), none⟩,
  ⟨(some 10), (Op.call { callee := (Callee.builtin Builtin.len), args := #[(Operand.tmp 9)], argTypes := #[25] }), none⟩,
  ⟨(some 11), (Op.move (Operand.const (Value.int IntKind.i64 0))), none⟩]
attribute [go_sem] r46_1
def r46_9 : List PO := [⟨(some 6), (Op.assign (Operand.const (Value.int IntKind.i64 0))), none⟩]
attribute [go_sem] r46_9
def c46 : PC := (.seq (.reg r46_0) (.seq (.seq (.reg r46_1) (.block 0 (.pre ⟨[1, 2, 9, 10, 11], [], []⟩ (.loop k46_1b)))) (.seq (.reg r46_9) .ret)))
def i46 : FnI := ⟨41, [(ResultVar.tmp 6)], c46, 0, [[3], [0], [0]], [[0]], false, false, 0⟩
-- loop.example/g00344/impl.NoRing$1$1
def r52_0 : List PO := [⟨(some 4), (Op.assign (Operand.const (Value.bool false))), none⟩]
attribute [go_sem] r52_0
def r52_1 : List PO := [⟨(some 5), (Op.load 25 (Operand.tmp 1)), none⟩,
  ⟨(some 6), (Op.load 3 (Operand.tmp 2)), none⟩,
  ⟨(some 7), (Op.move (Operand.tmp 0)), none⟩,
  ⟨(some 8), (Op.call { callee := (Callee.value (Operand.func 46)), args := #[(Operand.tmp 5), (Operand.tmp 6), (Operand.tmp 7)], argTypes := #[25, 3, 3] }), none⟩,
  ⟨(some 9), (Op.binOp BinOp.eql 3 (Operand.tmp 8) (Operand.const (Value.int IntKind.i64 1)) 3), none⟩,
  ⟨(some 4), (Op.assign (Operand.tmp 9)), none⟩]
attribute [go_sem] r52_1
def c52 : PC := (.seq (.reg r52_0) (.seq (.reg r52_1) .ret))
def i52 : FnI := ⟨10, [(ResultVar.tmp 4)], c52, 0, [[0], [0], [0]], [[0]], false, false, 0⟩
-- loop.example/g00344/impl.NoRing$1
def r50_0 : List PO := [⟨(some 3), (Op.box 3 (Operand.tmp 0)), none⟩,
  ⟨(some 4), (Op.assign (Operand.const (Value.bool false))), none⟩]
attribute [go_sem] r50_0
def r50_1 : List PO := [⟨(some 5), (Op.load 36 (Operand.tmp 1)), none⟩,
  ⟨(some 6), (Op.makeFunc (Fn.func 52) #[] #[(Operand.tmp 2), (Operand.tmp 3)]), none⟩,
  ⟨(some 7), (Op.call { callee := (Callee.value (Operand.func 51)), args := #[(Operand.tmp 5), (Operand.tmp 6)], argTypes := #[36, 73] }), none⟩,
  ⟨(some 8), (Op.unOp UnOp.not 4 (Operand.tmp 7)), none⟩,
  ⟨(some 4), (Op.assign (Operand.tmp 8)), none⟩]
attribute [go_sem] r50_1
def c50 : PC := (.seq (.reg r50_0) (.seq (.reg r50_1) .ret))
def i50 : FnI := ⟨9, [(ResultVar.tmp 4)], c50, 0, [[0], [0], [0]], [[0]], false, false, 0⟩
-- loop.example/g00344/impl.NoRing
def r21_5 : List PO := [⟨(some 17), (Op.binOp BinOp.lss 3 (Operand.tmp 16) (Operand.tmp 15) 3), none⟩]
attribute [go_sem] r21_5
def r21_6 : List PO := [⟨(some 18), (Op.move (Operand.tmp 16)), none⟩,
  ⟨(some 7), (Op.assign (Operand.tmp 18)), none⟩]
attribute [go_sem] r21_6
def r21_7 : List PO := [⟨(some 19), (Op.load 36 (Operand.tmp 6)), none⟩,
  ⟨(some 20), (Op.move (Operand.tmp 7)), none⟩,
  ⟨(some 21), (Op.buildSlice 36 1 #[(0, (Operand.tmp 20))]), none⟩,
  ⟨(some 22), (Op.call { callee := (Callee.builtin Builtin.append), args := #[(Operand.tmp 19), (Operand.tmp 21)], argTypes := #[36, 36] }), none⟩,
  ⟨none, (Op.store 36 (Operand.tmp 6) (Operand.tmp 22)), none⟩]
attribute [go_sem] r21_7
def r21_8 : List PO := [⟨(some 23), (Op.binOp BinOp.add 3 (Operand.tmp 16) (Operand.const (Value.int IntKind.i64 1)) 3), none⟩,
  ⟨(some 16), (Op.move (Operand.tmp 23)), none⟩]
attribute [go_sem] r21_8
def k21_1b : PC := (.seq (.reg r21_5) (.seq (.cond (Operand.tmp 17) .skip (.pre ⟨[3, 6], [.old 0, .old 1, .old 2], []⟩ (.exit 0))) (.seq (.block 1 (.seq (.reg r21_6) (.reg r21_7))) (.post (.reg r21_8) ⟨[3, 6, 15, 16], [.old 0, .old 1, .old 4], []⟩))))
def r21_9 : List PO := [⟨(some 24), (Op.load 36 (Operand.tmp 6)), none⟩,
  ⟨(some 25), (Op.call { callee := (Callee.value (Operand.func 49)), args := #[(Operand.tmp 24)], argTypes := #[36] }), none⟩,
  ⟨(some 26), (Op.makeFunc (Fn.func 50) #[] #[(Operand.tmp 6), (Operand.tmp 3)]), none⟩,
  ⟨(some 27), (Op.call { callee := (Callee.value (Operand.func 48)), args := #[(Operand.tmp 25), (Operand.tmp 26)], argTypes := #[36, 73] }), none⟩,
  ⟨(some 8), (Op.assign (Operand.tmp 27)), none⟩]
attribute [go_sem] r21_9
def r21_10 : List PO := [⟨(some 28), (Op.move (Operand.tmp 8)), none⟩,
  ⟨(some 29), (Op.call { callee := (Callee.builtin Builtin.len), args := #[(Operand.tmp 28)], argTypes := #[36] }), none⟩,
  ⟨(some 30), (Op.load 36 (Operand.tmp 6)), none⟩,
  ⟨(some 31), (Op.call { callee := (Callee.builtin Builtin.len), args := #[(Operand.tmp 30)], argTypes := #[36] }), none⟩,
  ⟨(some 32), (Op.binOp BinOp.eql 3 (Operand.tmp 29) (Operand.tmp 31) 3), none⟩]
attribute [go_sem] r21_10
def r21_11 : List PO := [⟨(some 33), (Op.load 36 (Operand.tmp 6)), none⟩,
  ⟨(some 34), (Op.call { callee := (Callee.builtin Builtin.len), args := #[(Operand.tmp 33)], argTypes := #[36] }), none⟩,
  ⟨(some 35), (Op.binOp BinOp.eql 3 (Operand.tmp 34) (Operand.const (Value.int IntKind.i64 0)) 3), none⟩,
  ⟨(some 4), (Op.assign (Operand.tmp 35)), none⟩,
  ⟨(some 5), (Op.assign (Operand.const (Value.bool true))), none⟩]
attribute [go_sem] r21_11
def r21_12 : List PO := [⟨(some 36), (Op.move (Operand.tmp 8)), none⟩,
  ⟨none, (Op.store 36 (Operand.tmp 6) (Operand.tmp 36)), none⟩]
attribute [go_sem] r21_12
def k21_2b : PC := (.block 3 (.seq (.reg r21_9) (.seq (.seq (.reg r21_10) (.cond (Operand.tmp 32) (.seq (.reg r21_11) (.pre ⟨[4, 5], [], []⟩ .ret)) .skip)) (.post (.reg r21_12) ⟨[3, 6], [.old 0, .old 1, .old 4], []⟩))))
def r21_0 : List PO := [⟨(some 3), (Op.box 25 (Operand.tmp 1)), none⟩,
  ⟨(some 4), (Op.assign (Operand.const (Value.bool false))), none⟩,
  ⟨(some 5), (Op.assign (Operand.const (Value.bool false))), none⟩]
attribute [go_sem] r21_0
def r21_1 : List PO := [⟨(some 9), (Op.move (Operand.tmp 0)), none⟩,
  ⟨(some 10), (Op.load 25 (Operand.tmp 3)), none⟩,
  ⟨(some 11), (Op.call { callee := (Callee.value (Operand.func 14)), args := #[(Operand.tmp 9), (Operand.tmp 10)], argTypes := #[3, 25] }), none⟩,
  ⟨(some 12), (Op.unOp UnOp.not 4 (Operand.tmp 11)), none⟩]
attribute [go_sem] r21_1
def r21_2 : List PO := [⟨(some 4), (Op.assign (Operand.const (Value.bool false))), none⟩,
  ⟨(some 5), (Op.assign (Operand.const (Value.bool false))), none⟩]
attribute [go_sem] r21_2
def r21_3 : List PO := [⟨(some 13), (Op.buildSlice 36 0 #[]), none⟩,
  ⟨(some 6), (Op.alloc 36), none⟩,
  ⟨none, (Op.store 36 (Operand.tmp 6) (Operand.tmp 13)), none⟩]
attribute [go_sem] r21_3
def r21_4 : List PO := [⟨(some 14), (Op.move (Operand.tmp 0)), none⟩,
  ⟨(some 15), (Op.binOp BinOp.add 3 (Operand.tmp 14) (Operand.const (Value.int IntKind.i64 1)) 3), none⟩,
  ⟨(some 16), (Op.move (Operand.const (Value.int IntKind.i64 0))), none⟩]
attribute [go_sem] r21_4
def c21 : PC := (.seq (.reg r21_0) (.seq (.seq (.reg r21_1) (.cond (Operand.tmp 12) (.seq (.reg r21_2) .ret) .skip)) (.seq (.reg r21_3) (.seq (.seq (.reg r21_4) (.block 0 (.pre ⟨[3, 6, 15, 16], [.old 0, .old 2, .old 1], []⟩ (.loop k21_1b)))) (.block 2 (.pre ⟨[3, 6], [.old 0, .old 1, .old 2], []⟩ (.loop k21_2b)))))))
def i21 : FnI := ⟨37, [(ResultVar.tmp 4), (ResultVar.tmp 5)], c21, 0, [[0], [3]], [[0], [0]], false, false, 0⟩
-- loop.example/g00344/laws.eqRel
def r44_0 : List PO := [⟨(some 2), (Op.box 63 (Operand.tmp 0)), none⟩,
  ⟨(some 3), (Op.box 63 (Operand.tmp 1)), none⟩,
  ⟨(some 4), (Op.assign (Operand.const (Value.bool false))), none⟩]
attribute [go_sem] r44_0
def r44_1 : List PO := [⟨(some 5), (Op.fieldAddr 63 (Operand.tmp 2) 0), none⟩,
  ⟨(some 6), (Op.load 3 (Operand.tmp 5)), none⟩,
  ⟨(some 7), (Op.fieldAddr 63 (Operand.tmp 3) 0), none⟩,
  ⟨(some 8), (Op.load 3 (Operand.tmp 7)), none⟩,
  ⟨(some 9), (Op.binOp BinOp.neq 3 (Operand.tmp 6) (Operand.tmp 8) 3), none⟩]
attribute [go_sem] r44_1
def r44_2 : List PO := [⟨(some 4), (Op.assign (Operand.const (Value.bool false))), none⟩]
attribute [go_sem] r44_2
def r44_3 : List PO := [⟨(some 10), (Op.fieldAddr 63 (Operand.tmp 2) 1), none⟩,
  ⟨(some 11), (Op.load 3 (Operand.tmp 10)), none⟩,
  ⟨(some 12), (Op.fieldAddr 63 (Operand.tmp 3) 1), none⟩,
  ⟨(some 13), (Op.load 3 (Operand.tmp 12)), none⟩,
  ⟨(some 14), (Op.binOp BinOp.neq 3 (Operand.tmp 11) (Operand.tmp 13) 3), none⟩]
attribute [go_sem] r44_3
def r44_4 : List PO := [⟨(some 4), (Op.assign (Operand.const (Value.bool false))), none⟩]
attribute [go_sem] r44_4
def r44_5 : List PO := [⟨(some 15), (Op.fieldAddr 63 (Operand.tmp 2) 2), none⟩,
  ⟨(some 16), (Op.load 3 (Operand.tmp 15)), none⟩,
  ⟨(some 17), (Op.fieldAddr 63 (Operand.tmp 3) 2), none⟩,
  ⟨(some 18), (Op.load 3 (Operand.tmp 17)), none⟩,
  ⟨(some 19), (Op.binOp BinOp.neq 3 (Operand.tmp 16) (Operand.tmp 18) 3), none⟩]
attribute [go_sem] r44_5
def r44_6 : List PO := [⟨(some 4), (Op.assign (Operand.const (Value.bool false))), none⟩]
attribute [go_sem] r44_6
def r44_7 : List PO := [⟨(some 4), (Op.assign (Operand.const (Value.bool true))), none⟩]
attribute [go_sem] r44_7
def c44 : PC := (.seq (.reg r44_0) (.seq (.seq (.reg r44_1) (.cond (Operand.tmp 9) (.seq (.reg r44_2) .ret) .skip)) (.seq (.seq (.reg r44_3) (.cond (Operand.tmp 14) (.seq (.reg r44_4) .ret) .skip)) (.seq (.seq (.reg r44_5) (.cond (Operand.tmp 19) (.seq (.reg r44_6) .ret) .skip)) (.seq (.reg r44_7) .ret)))))
def i44 : FnI := ⟨20, [(ResultVar.tmp 4)], c44, 0, [[0, 0, 0], [0, 0, 0]], [[0]], false, false, 0⟩
-- loop.example/g00344/laws.eqRelS
def r15_4 : List PO := [⟨(some 11), (Op.move (Operand.tmp 5)), none⟩,
  ⟨(some 12), (Op.move (Operand.tmp 0)), none⟩,
  ⟨(some 13), (Op.call { callee := (Callee.builtin Builtin.len), args := #[(Operand.tmp 12)], argTypes := #[25] }), none⟩,
  ⟨(some 14), (Op.binOp BinOp.lss 3 (Operand.tmp 11) (Operand.tmp 13) 3), none⟩]
attribute [go_sem] r15_4
def r15_6 : List PO := [⟨(some 17), (Op.move (Operand.tmp 0)), none⟩,
  ⟨(some 18), (Op.move (Operand.tmp 5)), none⟩,
  ⟨(some 19), (Op.indexAddr 25 (Operand.tmp 17) (Operand.tmp 18)), none⟩,
  ⟨(some 20), (Op.load 63 (Operand.tmp 19)), none⟩,
  ⟨(some 21), (Op.move (Operand.tmp 1)), none⟩,
  ⟨(some 22), (Op.move (Operand.tmp 5)), none⟩,
  ⟨(some 23), (Op.indexAddr 25 (Operand.tmp 21) (Operand.tmp 22)), none⟩,
  ⟨(some 24), (Op.load 63 (Operand.tmp 23)), none⟩,
  ⟨(some 25), (Op.call { callee := (Callee.value (Operand.func 44)), args := #[(Operand.tmp 20), (Operand.tmp 24)], argTypes := #[63, 63] }), none⟩,
  ⟨(some 26), (Op.unOp UnOp.not 4 (Operand.tmp 25)), none⟩]
attribute [go_sem] r15_6
def r15_7 : List PO := [⟨(some 4), (Op.assign (Operand.const (Value.bool false))), none⟩]
attribute [go_sem] r15_7
def r15_5 : List PO := [⟨(some 15), (Op.move (Operand.tmp 5)), none⟩,
  ⟨(some 16), (Op.binOp BinOp.add 3 (Operand.tmp 15) (Operand.const (Value.int IntKind.i64 1)) 3), none⟩,
  ⟨(some 5), (Op.assign (Operand.tmp 16)), none⟩]
attribute [go_sem] r15_5
def k15_1b : PC := (.seq (.seq (.reg r15_4) (.cond (Operand.tmp 14) .skip (.pre ⟨[], [], []⟩ (.exit 0)))) (.seq (.block 1 (.seq (.fz r15_6) (.cond (Operand.tmp 26) (.seq (.reg r15_7) (.pre ⟨[4], [], []⟩ .ret)) .skip))) (.post (.reg r15_5) ⟨[0, 1, 5], [], []⟩)))
def r15_0 : List PO := [⟨(some 4), (Op.assign (Operand.const (Value.bool false))), none⟩]
attribute [go_sem] r15_0
def r15_1 : List PO := [⟨(some 6), (Op.move (Operand.tmp 0)), none⟩,
  ⟨(some 7), (Op.call { callee := (Callee.builtin Builtin.len), args := #[(Operand.tmp 6)], argTypes := #[25] }), none⟩,
  ⟨(some 8), (Op.move (Operand.tmp 1)), none⟩,
  ⟨(some 9), (Op.call { callee := (Callee.builtin Builtin.len), args := #[(Operand.tmp 8)], argTypes := #[25] }), none⟩,
  ⟨(some 10), (Op.binOp BinOp.neq 3 (Operand.tmp 7) (Operand.tmp 9) 3), none⟩]
attribute [go_sem] r15_1
def r15_2 : List PO := [⟨(some 4), (Op.assign (Operand.const (Value.bool false))), none⟩]
attribute [go_sem] r15_2
def r15_3 : List PO := [⟨(some 5), (Op.assign (Operand.const (Value.int IntKind.i64 0))), none⟩]
attribute [go_sem] r15_3
def r15_8 : List PO := [⟨(some 4), (Op.assign (Operand.const (Value.bool true))), none⟩]
attribute [go_sem] r15_8
def c15 : PC := (.seq (.reg r15_0) (.seq (.seq (.reg r15_1) (.cond (Operand.tmp 10) (.seq (.reg r15_2) .ret) .skip)) (.seq (.seq (.reg r15_3) (.block 0 (.pre ⟨[0, 1, 5], [], []⟩ (.loop k15_1b)))) (.seq (.reg r15_8) .ret))))
def i15 : FnI := ⟨27, [(ResultVar.tmp 4)], c15, 0, [[3], [3]], [[0]], false, false, 0⟩
-- loop.example/g00344/laws.FnExactNoRing
def r6_8 : List PO := [⟨(some 31), (Op.move (Operand.tmp 9)), none⟩,
  ⟨(some 32), (Op.move (Operand.tmp 6)), none⟩,
  ⟨(some 33), (Op.binOp BinOp.neq 4 (Operand.tmp 31) (Operand.tmp 32) 4), none⟩,
  ⟨(some 34), (Op.move (Operand.tmp 33)), none⟩,
  ⟨(some 35), (Op.move (Operand.tmp 10)), (some (34, false))⟩,
  ⟨(some 36), (Op.move (Operand.tmp 7)), (some (34, false))⟩,
  ⟨(some 37), (Op.binOp BinOp.neq 4 (Operand.tmp 35) (Operand.tmp 36) 4), (some (34, false))⟩,
  ⟨(some 38), (Op.pick (Operand.tmp 34) (Operand.const (Value.bool true)) (Operand.tmp 37)), none⟩]
attribute [go_sem] r6_8
def k6_1 : PC := (.post (.reg r6_8) ⟨[1, 8, 38], [.old 0], []⟩)
def r6_0 : List PO := [⟨(some 4), (Op.assign (Operand.const (Value.bool false))), none⟩]
attribute [go_sem] r6_0
def r6_1 : List PO := [⟨(some 5), (Op.assign (Operand.const (Value.int IntKind.i64 1048576))), none⟩]
attribute [go_sem] r6_1
def r6_2 : List PO := [⟨(some 11), (Op.move (Operand.tmp 1)), none⟩,
  ⟨(some 12), (Op.move (Operand.tmp 5)), none⟩,
  ⟨(some 13), (Op.call { callee := (Callee.value (Operand.func 11)), args := #[(Operand.tmp 11), (Operand.tmp 12)], argTypes := #[22, 3] }), none⟩,
  ⟨(some 5), (Op.assign (Operand.tmp 13)), none⟩]
attribute [go_sem] r6_2
def r6_3 : List PO := [⟨(some 14), (Op.move (Operand.tmp 5)), none⟩,
  ⟨(some 15), (Op.binOp BinOp.lss 3 (Operand.tmp 14) (Operand.const (Value.int IntKind.i64 0)) 3), none⟩]
attribute [go_sem] r6_3
def r6_4 : List PO := [⟨(some 4), (Op.assign (Operand.const (Value.bool true))), none⟩]
attribute [go_sem] r6_4
def r6_5 : List PO := [⟨(some 17), (Op.move (Operand.tmp 0)), none⟩,
  ⟨(some 18), (Op.move (Operand.tmp 1)), none⟩,
  ⟨(some 19), (Op.call { callee := (Callee.value (Operand.func 13)), args := #[(Operand.tmp 18)], argTypes := #[22] }), none⟩,
  ⟨(some 20), (Op.call { callee := (Callee.value (Operand.func 20)), args := #[(Operand.tmp 17), (Operand.tmp 19)], argTypes := #[3, 25] }), none⟩,
  ⟨(some 16), (Op.move (Operand.tmp 20)), none⟩,
  ⟨(some 21), (Op.extract (Operand.tmp 16) 0), none⟩,
  ⟨(some 22), (Op.extract (Operand.tmp 16) 1), none⟩,
  ⟨(some 6), (Op.assign (Operand.tmp 21)), none⟩,
  ⟨(some 7), (Op.assign (Operand.tmp 22)), none⟩]
attribute [go_sem] r6_5
def r6_6 : List PO := [⟨(some 23), (Op.move (Operand.tmp 1)), none⟩,
  ⟨(some 24), (Op.call { callee := (Callee.value (Operand.func 13)), args := #[(Operand.tmp 23)], argTypes := #[22] }), none⟩,
  ⟨(some 8), (Op.assign (Operand.tmp 24)), none⟩]
attribute [go_sem] r6_6
def r6_7 : List PO := [⟨(some 26), (Op.move (Operand.tmp 0)), none⟩,
  ⟨(some 27), (Op.move (Operand.tmp 8)), none⟩,
  ⟨(some 28), (Op.call { callee := (Callee.value (Operand.func 21)), args := #[(Operand.tmp 26), (Operand.tmp 27)], argTypes := #[3, 25] }), none⟩,
  ⟨(some 25), (Op.move (Operand.tmp 28)), none⟩,
  ⟨(some 29), (Op.extract (Operand.tmp 25) 0), none⟩,
  ⟨(some 30), (Op.extract (Operand.tmp 25) 1), none⟩,
  ⟨(some 9), (Op.assign (Operand.tmp 29)), none⟩,
  ⟨(some 10), (Op.assign (Operand.tmp 30)), none⟩]
attribute [go_sem] r6_7
def r6_9 : List PO := [⟨(some 4), (Op.assign (Operand.const (Value.bool false))), none⟩]
attribute [go_sem] r6_9
def r6_10 : List PO := [⟨(some 39), (Op.move (Operand.tmp 8)), none⟩,
  ⟨(some 40), (Op.move (Operand.tmp 1)), none⟩,
  ⟨(some 41), (Op.call { callee := (Callee.value (Operand.func 13)), args := #[(Operand.tmp 40)], argTypes := #[22] }), none⟩,
  ⟨(some 42), (Op.call { callee := (Callee.value (Operand.func 15)), args := #[(Operand.tmp 39), (Operand.tmp 41)], argTypes := #[25, 25] }), none⟩,
  ⟨(some 43), (Op.unOp UnOp.not 4 (Operand.tmp 42)), none⟩]
attribute [go_sem] r6_10
def r6_11 : List PO := [⟨(some 4), (Op.assign (Operand.const (Value.bool false))), none⟩]
attribute [go_sem] r6_11
def r6_12 : List PO := [⟨(some 4), (Op.assign (Operand.const (Value.bool true))), none⟩]
attribute [go_sem] r6_12
def c6 : PC := (.seq (.reg r6_0) (.seq (.reg r6_1) (.seq (.reg r6_2) (.seq (.seq (.reg r6_3) (.cond (Operand.tmp 15) (.seq (.reg r6_4) .ret) .skip)) (.seq (.reg r6_5) (.seq (.reg r6_6) (.seq (.reg r6_7) (.seq (.seq (.pre ⟨[1, 6, 7, 8, 9, 10], [.old 1], []⟩ k6_1) (.cond (Operand.tmp 38) (.seq (.reg r6_9) .ret) .skip)) (.seq (.seq (.reg r6_10) (.cond (Operand.tmp 43) (.seq (.reg r6_11) .ret) .skip)) (.seq (.reg r6_12) .ret))))))))))
def i6 : FnI := ⟨44, [(ResultVar.tmp 4)], c6, 0, [[0], [3]], [[0]], false, false, 0⟩
def tys : List (Nat × TyI) := [(3, ⟨1, 8, false, [.int .i64 0], [0], 0, [], .int .i64, false⟩),
  (4, ⟨1, 1, false, [.bool false], [0], 0, [], .bool, false⟩),
  (22, ⟨1, 24, false, [.nil], [3], 65, [], .other, false⟩),
  (25, ⟨1, 24, false, [.nil], [3], 63, [], .other, false⟩),
  (36, ⟨1, 24, false, [.nil], [1], 3, [], .other, false⟩),
  (63, ⟨3, 24, true, [.int .i64 0, .int .i64 0, .int .i64 0], [0, 0, 0], 0, [(0, 1, false), (1, 1, false), (2, 1, false)], .other, true⟩),
  (65, ⟨3, 24, true, [.int .i64 0, .int .i64 0, .int .i64 0], [0, 0, 0], 0, [(0, 1, false), (1, 1, false), (2, 1, false)], .other, true⟩)]
def fns : List (Nat × FnI) := [(6, i6), (11, i11), (12, i12), (13, i13), (14, i14), (15, i15), (20, i20), (21, i21), (39, i39), (40, i40), (41, i41), (42, i42), (43, i43), (44, i44), (45, i45), (46, i46), (47, i47), (48, i48), (49, i49), (50, i50), (51, i51), (52, i52), (70, i70), (71, i71)]
def T : Tab := mkTab tys fns
theorem ty3 : T.ty 3 = some ⟨1, 8, false, [.int .i64 0], [0], 0, [], .int .i64, false⟩ := rfl
theorem base3 : T.baseOf 3 = Bs.int .i64 := rfl
theorem ty4 : T.ty 4 = some ⟨1, 1, false, [.bool false], [0], 0, [], .bool, false⟩ := rfl
theorem base4 : T.baseOf 4 = Bs.bool := rfl
theorem ty22 : T.ty 22 = some ⟨1, 24, false, [.nil], [3], 65, [], .other, false⟩ := rfl
theorem base22 : T.baseOf 22 = Bs.other := rfl
theorem elem22 : T.elemOf 22 = some ⟨3, 24, true, [.int .i64 0, .int .i64 0, .int .i64 0], [0, 0, 0], 0, [(0, 1, false), (1, 1, false), (2, 1, false)], .other, true⟩ := rfl
theorem ty25 : T.ty 25 = some ⟨1, 24, false, [.nil], [3], 63, [], .other, false⟩ := rfl
theorem base25 : T.baseOf 25 = Bs.other := rfl
theorem elem25 : T.elemOf 25 = some ⟨3, 24, true, [.int .i64 0, .int .i64 0, .int .i64 0], [0, 0, 0], 0, [(0, 1, false), (1, 1, false), (2, 1, false)], .other, true⟩ := rfl
theorem ty36 : T.ty 36 = some ⟨1, 24, false, [.nil], [1], 3, [], .other, false⟩ := rfl
theorem base36 : T.baseOf 36 = Bs.other := rfl
theorem elem36 : T.elemOf 36 = some ⟨1, 8, false, [.int .i64 0], [0], 0, [], .int .i64, false⟩ := rfl
theorem ty63 : T.ty 63 = some ⟨3, 24, true, [.int .i64 0, .int .i64 0, .int .i64 0], [0, 0, 0], 0, [(0, 1, false), (1, 1, false), (2, 1, false)], .other, true⟩ := rfl
theorem base63 : T.baseOf 63 = Bs.other := rfl
theorem ty65 : T.ty 65 = some ⟨3, 24, true, [.int .i64 0, .int .i64 0, .int .i64 0], [0, 0, 0], 0, [(0, 1, false), (1, 1, false), (2, 1, false)], .other, true⟩ := rfl
theorem base65 : T.baseOf 65 = Bs.other := rfl
attribute [go_sem] ty3 base3 ty4 base4 ty22 base22 elem22 ty25 base25 elem25 ty36 base36 elem36 ty63 base63 ty65 base65
theorem ok6 : FnOk Try.prog (6, i6) := ⟨Try.f6, _, Try.func6, rfl, by kernel_rfl, rfl, rfl, by kernel_rfl⟩
theorem ok11 : FnOk Try.prog (11, i11) := ⟨Try.f11, _, Try.func11, rfl, by kernel_rfl, rfl, rfl, by kernel_rfl⟩
theorem ok12 : FnOk Try.prog (12, i12) := ⟨Try.f12, _, Try.func12, rfl, by kernel_rfl, rfl, rfl, by kernel_rfl⟩
theorem ok13 : FnOk Try.prog (13, i13) := ⟨Try.f13, _, Try.func13, rfl, by kernel_rfl, rfl, rfl, by kernel_rfl⟩
theorem ok14 : FnOk Try.prog (14, i14) := ⟨Try.f14, _, Try.func14, rfl, by kernel_rfl, rfl, rfl, by kernel_rfl⟩
theorem ok15 : FnOk Try.prog (15, i15) := ⟨Try.f15, _, Try.func15, rfl, by kernel_rfl, rfl, rfl, by kernel_rfl⟩
theorem ok20 : FnOk Try.prog (20, i20) := ⟨Try.f20, _, Try.func20, rfl, by kernel_rfl, rfl, rfl, by kernel_rfl⟩
theorem ok21 : FnOk Try.prog (21, i21) := ⟨Try.f21, _, Try.func21, rfl, by kernel_rfl, rfl, rfl, by kernel_rfl⟩
theorem ok39 : FnOk Try.prog (39, i39) := ⟨Try.f39, _, Try.func39, rfl, by kernel_rfl, rfl, rfl, by kernel_rfl⟩
theorem ok40 : FnOk Try.prog (40, i40) := ⟨Try.f40, _, Try.func40, rfl, by kernel_rfl, rfl, rfl, by kernel_rfl⟩
theorem ok41 : FnOk Try.prog (41, i41) := ⟨Try.f41, _, Try.func41, rfl, by kernel_rfl, rfl, rfl, by kernel_rfl⟩
theorem ok42 : FnOk Try.prog (42, i42) := ⟨Try.f42, _, Try.func42, rfl, by kernel_rfl, rfl, rfl, by kernel_rfl⟩
theorem ok43 : FnOk Try.prog (43, i43) := ⟨Try.f43, _, Try.func43, rfl, by kernel_rfl, rfl, rfl, by kernel_rfl⟩
theorem ok44 : FnOk Try.prog (44, i44) := ⟨Try.f44, _, Try.func44, rfl, by kernel_rfl, rfl, rfl, by kernel_rfl⟩
theorem ok45 : FnOk Try.prog (45, i45) := ⟨Try.f45, _, Try.func45, rfl, by kernel_rfl, rfl, rfl, by kernel_rfl⟩
theorem ok46 : FnOk Try.prog (46, i46) := ⟨Try.f46, _, Try.func46, rfl, by kernel_rfl, rfl, rfl, by kernel_rfl⟩
theorem ok47 : FnOk Try.prog (47, i47) := ⟨Try.f47, _, Try.func47, rfl, by kernel_rfl, rfl, rfl, by kernel_rfl⟩
theorem ok48 : FnOk Try.prog (48, i48) := ⟨Try.f48, _, Try.func48, rfl, by kernel_rfl, rfl, rfl, by kernel_rfl⟩
theorem ok49 : FnOk Try.prog (49, i49) := ⟨Try.f49, _, Try.func49, rfl, by kernel_rfl, rfl, rfl, by kernel_rfl⟩
theorem ok50 : FnOk Try.prog (50, i50) := ⟨Try.f50, _, Try.func50, rfl, by kernel_rfl, rfl, rfl, by kernel_rfl⟩
theorem ok51 : FnOk Try.prog (51, i51) := ⟨Try.f51, _, Try.func51, rfl, by kernel_rfl, rfl, rfl, by kernel_rfl⟩
theorem ok52 : FnOk Try.prog (52, i52) := ⟨Try.f52, _, Try.func52, rfl, by kernel_rfl, rfl, rfl, by kernel_rfl⟩
theorem ok70 : FnOk Try.prog (70, i70) := ⟨Try.f70, _, Try.func70, rfl, by kernel_rfl, rfl, rfl, by kernel_rfl⟩
theorem ok71 : FnOk Try.prog (71, i71) := ⟨Try.f71, _, Try.func71, rfl, by kernel_rfl, rfl, rfl, by kernel_rfl⟩
theorem tab : TabOk Try.prog T := tabOk_of (by kernel_rfl) (.cons ok6 (.cons ok11 (.cons ok12 (.cons ok13 (.cons ok14 (.cons ok15 (.cons ok20 (.cons ok21 (.cons ok39 (.cons ok40 (.cons ok41 (.cons ok42 (.cons ok43 (.cons ok44 (.cons ok45 (.cons ok46 (.cons ok47 (.cons ok48 (.cons ok49 (.cons ok50 (.cons ok51 (.cons ok52 (.cons ok70 (.cons ok71 (.nil)))))))))))))))))))))))))
theorem fn6 : T.fn 6 = some i6 := rfl
theorem fn11 : T.fn 11 = some i11 := rfl
theorem fn12 : T.fn 12 = some i12 := rfl
theorem fn13 : T.fn 13 = some i13 := rfl
theorem fn14 : T.fn 14 = some i14 := rfl
theorem fn15 : T.fn 15 = some i15 := rfl
theorem fn20 : T.fn 20 = some i20 := rfl
theorem fn21 : T.fn 21 = some i21 := rfl
theorem fn39 : T.fn 39 = some i39 := rfl
theorem fn40 : T.fn 40 = some i40 := rfl
theorem fn41 : T.fn 41 = some i41 := rfl
theorem fn42 : T.fn 42 = some i42 := rfl
theorem fn43 : T.fn 43 = some i43 := rfl
theorem fn44 : T.fn 44 = some i44 := rfl
theorem fn45 : T.fn 45 = some i45 := rfl
theorem fn46 : T.fn 46 = some i46 := rfl
theorem fn47 : T.fn 47 = some i47 := rfl
theorem fn48 : T.fn 48 = some i48 := rfl
theorem fn49 : T.fn 49 = some i49 := rfl
theorem fn50 : T.fn 50 = some i50 := rfl
theorem fn51 : T.fn 51 = some i51 := rfl
theorem fn52 : T.fn 52 = some i52 := rfl
theorem fn70 : T.fn 70 = some i70 := rfl
theorem fn71 : T.fn 71 = some i71 := rfl
end Go.Pi.Ytichbkallidkcaa.NoRing
