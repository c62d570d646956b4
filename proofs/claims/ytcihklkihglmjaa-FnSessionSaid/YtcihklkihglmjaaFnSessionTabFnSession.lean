/- What functions of the program answer, and that the law answers true at every input; no condition -/
import Derived.Test.YtcihklkihglmjaaProg
import Derived.Test.YtcihklkihglmjaaPiD
import Derived.Test.YtcihklkihglmjaaPiC
set_option linter.all false
/- The program's tables for Pi: types and functions, as they stand in the loaded program, with hints. -/
namespace Go.Pi.Ytcihklkihglmjaa.FnSession
open Go Go.Proofs Go.Pi
set_option maxRecDepth 100000

-- (*loop.example/g00344/spec.l1Cur).next
def r65_3 : List PO := [⟨(some 14), (Op.move (Operand.tmp 0)), none⟩,
  ⟨(some 15), (Op.nilCheck (Operand.tmp 14)), none⟩,
  ⟨(some 16), (Op.fieldAddr 88 (Operand.tmp 15) 0), none⟩,
  ⟨(some 17), (Op.load 56 (Operand.tmp 16)), none⟩,
  ⟨(some 18), (Op.move (Operand.tmp 0)), none⟩,
  ⟨(some 19), (Op.nilCheck (Operand.tmp 18)), none⟩,
  ⟨(some 20), (Op.fieldAddr 88 (Operand.tmp 19) 1), none⟩,
  ⟨(some 21), (Op.load 3 (Operand.tmp 20)), none⟩,
  ⟨(some 22), (Op.indexAddr 56 (Operand.tmp 17) (Operand.tmp 21)), none⟩,
  ⟨(some 23), (Op.load 5 (Operand.tmp 22)), none⟩,
  ⟨(some 24), (Op.convert 5 3 (Operand.tmp 23)), none⟩,
  ⟨(some 3), (Op.assign (Operand.tmp 24)), none⟩]
attribute [go_sem] r65_3
def k65_1 : PC := (.cond (Operand.tmp 13) (.post (.fz r65_3) ⟨[0, 3], [], []⟩) (.post .skip ⟨[0, 3], [], []⟩))
def r65_0 : List PO := [⟨(some 2), (Op.assign (Operand.const (Value.int IntKind.i64 0))), none⟩]
attribute [go_sem] r65_0
def r65_1 : List PO := [⟨(some 3), (Op.assign (Operand.const (Value.int IntKind.i64 0))), none⟩]
attribute [go_sem] r65_1
def r65_2 : List PO := [⟨(some 4), (Op.move (Operand.tmp 0)), none⟩,
  ⟨(some 5), (Op.nilCheck (Operand.tmp 4)), none⟩,
  ⟨(some 6), (Op.fieldAddr 88 (Operand.tmp 5) 1), none⟩,
  ⟨(some 7), (Op.load 3 (Operand.tmp 6)), none⟩,
  ⟨(some 8), (Op.move (Operand.tmp 0)), none⟩,
  ⟨(some 9), (Op.nilCheck (Operand.tmp 8)), none⟩,
  ⟨(some 10), (Op.fieldAddr 88 (Operand.tmp 9) 0), none⟩,
  ⟨(some 11), (Op.load 56 (Operand.tmp 10)), none⟩,
  ⟨(some 12), (Op.call { callee := (Callee.builtin Builtin.len), args := #[(Operand.tmp 11)], argTypes := #[56] }), none⟩,
  ⟨(some 13), (Op.binOp BinOp.lss 3 (Operand.tmp 7) (Operand.tmp 12) 3), none⟩]
attribute [go_sem] r65_2
def r65_4 : List PO := [⟨(some 25), (Op.move (Operand.tmp 0)), none⟩,
  ⟨(some 26), (Op.nilCheck (Operand.tmp 25)), none⟩,
  ⟨(some 27), (Op.fieldAddr 88 (Operand.tmp 26) 1), none⟩,
  ⟨(some 28), (Op.load 3 (Operand.tmp 27)), none⟩,
  ⟨(some 29), (Op.binOp BinOp.add 3 (Operand.tmp 28) (Operand.const (Value.int IntKind.i64 1)) 3), none⟩,
  ⟨(some 30), (Op.nilCheck (Operand.tmp 25)), none⟩,
  ⟨(some 31), (Op.fieldAddr 88 (Operand.tmp 30) 1), none⟩,
  ⟨none, (Op.store 3 (Operand.tmp 31) (Operand.tmp 29)), none⟩]
attribute [go_sem] r65_4
def r65_5 : List PO := [⟨(some 32), (Op.move (Operand.tmp 0)), none⟩,
  ⟨(some 33), (Op.move (Operand.tmp 0)), none⟩,
  ⟨(some 34), (Op.nilCheck (Operand.tmp 33)), none⟩,
  ⟨(some 35), (Op.fieldAddr 88 (Operand.tmp 34) 2), none⟩,
  ⟨(some 36), (Op.load 86 (Operand.tmp 35)), none⟩,
  ⟨(some 37), (Op.binOp BinOp.mul 86 (Operand.tmp 36) (Operand.const (Value.int IntKind.u64 6364136223846793005)) 86), none⟩,
  ⟨(some 38), (Op.move (Operand.tmp 3)), none⟩,
  ⟨(some 39), (Op.convert 3 86 (Operand.tmp 38)), none⟩,
  ⟨(some 40), (Op.binOp BinOp.add 86 (Operand.tmp 37) (Operand.tmp 39) 86), none⟩,
  ⟨(some 41), (Op.binOp BinOp.add 86 (Operand.tmp 40) (Operand.const (Value.int IntKind.u64 1442695040888963407)) 86), none⟩,
  ⟨(some 42), (Op.nilCheck (Operand.tmp 32)), none⟩,
  ⟨(some 43), (Op.fieldAddr 88 (Operand.tmp 42) 2), none⟩,
  ⟨none, (Op.store 86 (Operand.tmp 43) (Operand.tmp 41)), none⟩]
attribute [go_sem] r65_5
def r65_6 : List PO := [⟨(some 44), (Op.move (Operand.tmp 0)), none⟩,
  ⟨(some 45), (Op.nilCheck (Operand.tmp 44)), none⟩,
  ⟨(some 46), (Op.fieldAddr 88 (Operand.tmp 45) 1), none⟩,
  ⟨(some 47), (Op.load 3 (Operand.tmp 46)), none⟩,
  ⟨(some 48), (Op.move (Operand.tmp 0)), none⟩,
  ⟨(some 49), (Op.nilCheck (Operand.tmp 48)), none⟩,
  ⟨(some 50), (Op.fieldAddr 88 (Operand.tmp 49) 0), none⟩,
  ⟨(some 51), (Op.load 56 (Operand.tmp 50)), none⟩,
  ⟨(some 52), (Op.call { callee := (Callee.builtin Builtin.len), args := #[(Operand.tmp 51)], argTypes := #[56] }), none⟩,
  ⟨(some 53), (Op.binOp BinOp.leq 3 (Operand.tmp 47) (Operand.tmp 52) 3), none⟩]
attribute [go_sem] r65_6
def r65_7 : List PO := [⟨(some 54), (Op.move (Operand.tmp 3)), none⟩,
  ⟨(some 2), (Op.assign (Operand.tmp 54)), none⟩]
attribute [go_sem] r65_7
def r65_8 : List PO := [⟨(some 55), (Op.move (Operand.tmp 0)), none⟩,
  ⟨(some 56), (Op.nilCheck (Operand.tmp 55)), none⟩,
  ⟨(some 57), (Op.fieldAddr 88 (Operand.tmp 56) 2), none⟩,
  ⟨(some 58), (Op.load 86 (Operand.tmp 57)), none⟩,
  ⟨(some 59), (Op.binOp BinOp.shr 86 (Operand.tmp 58) (Operand.const (Value.int IntKind.u64 40)) 99), none⟩,
  ⟨(some 60), (Op.binOp BinOp.and 86 (Operand.tmp 59) (Operand.const (Value.int IntKind.u64 255)) 86), none⟩,
  ⟨(some 61), (Op.convert 86 3 (Operand.tmp 60)), none⟩,
  ⟨(some 2), (Op.assign (Operand.tmp 61)), none⟩]
attribute [go_sem] r65_8
def c65 : PC := (.seq (.reg r65_0) (.seq (.reg r65_1) (.seq (.seq (.fz r65_2) (.pre ⟨[0, 3, 13], [], []⟩ k65_1)) (.seq (.reg r65_4) (.seq (.reg r65_5) (.seq (.seq (.fz r65_6) (.cond (Operand.tmp 53) (.seq (.reg r65_7) (.pre ⟨[2], [], []⟩ .ret)) .skip)) (.seq (.reg r65_8) (.pre ⟨[2], [], []⟩ .ret))))))))
def i65 : FnI := ⟨62, [(ResultVar.tmp 2)], c65, 3, [[0]], [[0]], false, true, 1⟩
-- (*loop.example/g00344/spec.l1Cur).pick
def r55_5 : List PO := [⟨(some 12), (Op.move (Operand.tmp 5)), none⟩,
  ⟨(some 13), (Op.binOp BinOp.mul 3 (Operand.tmp 12) (Operand.const (Value.int IntKind.i64 256)) 3), none⟩,
  ⟨(some 14), (Op.move (Operand.tmp 0)), none⟩,
  ⟨(some 15), (Op.call { callee := (Callee.value (Operand.func 65)), args := #[(Operand.tmp 14)], argTypes := #[85] }), none⟩,
  ⟨(some 16), (Op.binOp BinOp.add 3 (Operand.tmp 13) (Operand.tmp 15) 3), none⟩,
  ⟨(some 5), (Op.assign (Operand.tmp 16)), none⟩]
attribute [go_sem] r55_5
def k55_1 : PC := (.cond (Operand.tmp 11) (.post (.reg r55_5) ⟨[1, 5], [], []⟩) (.post .skip ⟨[1, 5], [], []⟩))
def r55_0 : List PO := [⟨(some 4), (Op.assign (Operand.const (Value.int IntKind.i64 0))), none⟩]
attribute [go_sem] r55_0
def r55_1 : List PO := [⟨(some 6), (Op.move (Operand.tmp 1)), none⟩,
  ⟨(some 7), (Op.binOp BinOp.leq 3 (Operand.tmp 6) (Operand.const (Value.int IntKind.i64 1)) 3), none⟩]
attribute [go_sem] r55_1
def r55_2 : List PO := [⟨(some 4), (Op.assign (Operand.const (Value.int IntKind.i64 0))), none⟩]
attribute [go_sem] r55_2
def r55_3 : List PO := [⟨(some 8), (Op.move (Operand.tmp 0)), none⟩,
  ⟨(some 9), (Op.call { callee := (Callee.value (Operand.func 65)), args := #[(Operand.tmp 8)], argTypes := #[85] }), none⟩,
  ⟨(some 5), (Op.assign (Operand.tmp 9)), none⟩]
attribute [go_sem] r55_3
def r55_4 : List PO := [⟨(some 10), (Op.move (Operand.tmp 1)), none⟩,
  ⟨(some 11), (Op.binOp BinOp.gtr 3 (Operand.tmp 10) (Operand.const (Value.int IntKind.i64 200)) 3), none⟩]
attribute [go_sem] r55_4
def r55_6 : List PO := [⟨(some 17), (Op.move (Operand.tmp 5)), none⟩,
  ⟨(some 18), (Op.move (Operand.tmp 1)), none⟩,
  ⟨(some 19), (Op.binOp BinOp.rem 3 (Operand.tmp 17) (Operand.tmp 18) 3), none⟩,
  ⟨(some 4), (Op.assign (Operand.tmp 19)), none⟩]
attribute [go_sem] r55_6
def c55 : PC := (.seq (.reg r55_0) (.seq (.seq (.reg r55_1) (.cond (Operand.tmp 7) (.seq (.reg r55_2) (.pre ⟨[4], [], []⟩ .ret)) .skip)) (.seq (.reg r55_3) (.seq (.seq (.reg r55_4) (.pre ⟨[0, 1, 5, 11], [], []⟩ k55_1)) (.seq (.reg r55_6) (.pre ⟨[4], [], []⟩ .ret))))))
def i55 : FnI := ⟨20, [(ResultVar.tmp 4)], c55, 3, [[0], [0]], [[0]], false, true, 1⟩
-- (*loop.example/g00344/spec.l1Cur).among
def r57_0 : List PO := [⟨(some 4), (Op.assign (Operand.const (Value.int IntKind.i64 0))), none⟩]
attribute [go_sem] r57_0
def r57_1 : List PO := [⟨(some 5), (Op.move (Operand.tmp 1)), none⟩,
  ⟨(some 6), (Op.move (Operand.tmp 0)), none⟩,
  ⟨(some 7), (Op.move (Operand.tmp 1)), none⟩,
  ⟨(some 8), (Op.call { callee := (Callee.builtin Builtin.len), args := #[(Operand.tmp 7)], argTypes := #[36] }), none⟩,
  ⟨(some 9), (Op.call { callee := (Callee.value (Operand.func 55)), args := #[(Operand.tmp 6), (Operand.tmp 8)], argTypes := #[85, 3] }), none⟩,
  ⟨(some 10), (Op.indexAddr 36 (Operand.tmp 5) (Operand.tmp 9)), none⟩,
  ⟨(some 11), (Op.load 3 (Operand.tmp 10)), none⟩,
  ⟨(some 4), (Op.assign (Operand.tmp 11)), none⟩]
attribute [go_sem] r57_1
def c57 : PC := (.seq (.reg r57_0) (.seq (.reg r57_1) (.pre ⟨[4], [], []⟩ .ret)))
def i57 : FnI := ⟨12, [(ResultVar.tmp 4)], c57, 3, [[0], [1]], [[0]], false, true, 2⟩
-- (*loop.example/g00344/spec.l1Cur).one
def r56_0 : List PO := [⟨(some 4), (Op.assign (Operand.const (Value.bool false))), none⟩]
attribute [go_sem] r56_0
def r56_1 : List PO := [⟨(some 5), (Op.move (Operand.tmp 0)), none⟩,
  ⟨(some 6), (Op.move (Operand.tmp 1)), none⟩,
  ⟨(some 7), (Op.call { callee := (Callee.value (Operand.func 55)), args := #[(Operand.tmp 5), (Operand.tmp 6)], argTypes := #[85, 3] }), none⟩,
  ⟨(some 8), (Op.binOp BinOp.eql 3 (Operand.tmp 7) (Operand.const (Value.int IntKind.i64 0)) 3), none⟩,
  ⟨(some 4), (Op.assign (Operand.tmp 8)), none⟩]
attribute [go_sem] r56_1
def c56 : PC := (.seq (.reg r56_0) (.seq (.reg r56_1) (.pre ⟨[4], [], []⟩ .ret)))
def i56 : FnI := ⟨9, [(ResultVar.tmp 4)], c56, 3, [[0], [0]], [[0]], false, true, 1⟩
-- (*loop.example/g00344/spec.l1Cur).events
def r58_3 : List PO := [⟨(some 9), (Op.move (Operand.tmp 3)), none⟩,
  ⟨(some 10), (Op.build 39 #[(0, (Operand.const (Value.int IntKind.i64 1)))]), none⟩,
  ⟨(some 11), (Op.build 39 #[(0, (Operand.const (Value.int IntKind.i64 3)))]), none⟩,
  ⟨(some 12), (Op.buildSlice 47 2 #[(0, (Operand.tmp 10)), (1, (Operand.tmp 11))]), none⟩,
  ⟨(some 13), (Op.call { callee := (Callee.builtin Builtin.append), args := #[(Operand.tmp 9), (Operand.tmp 12)], argTypes := #[47, 47] }), none⟩,
  ⟨(some 3), (Op.assign (Operand.tmp 13)), none⟩]
attribute [go_sem] r58_3
def k58_1 : PC := (.cond (Operand.tmp 8) (.post (.reg r58_3) ⟨[0, 3], [.old 3], []⟩) (.post .skip ⟨[0, 3], [.old 1], []⟩))
def r58_5 : List PO := [⟨(some 16), (Op.move (Operand.tmp 3)), none⟩,
  ⟨(some 17), (Op.move (Operand.tmp 0)), none⟩,
  ⟨(some 18), (Op.call { callee := (Callee.value (Operand.func 55)), args := #[(Operand.tmp 17), (Operand.const (Value.int IntKind.i64 20))], argTypes := #[85, 3] }), none⟩,
  ⟨(some 19), (Op.binOp BinOp.add 3 (Operand.const (Value.int IntKind.i64 3)) (Operand.tmp 18) 3), none⟩,
  ⟨(some 20), (Op.build 39 #[(0, (Operand.const (Value.int IntKind.i64 5))), (1, (Operand.tmp 19))]), none⟩,
  ⟨(some 21), (Op.build 39 #[(0, (Operand.const (Value.int IntKind.i64 7)))]), none⟩,
  ⟨(some 22), (Op.buildSlice 47 2 #[(0, (Operand.tmp 20)), (1, (Operand.tmp 21))]), none⟩,
  ⟨(some 23), (Op.call { callee := (Callee.builtin Builtin.append), args := #[(Operand.tmp 16), (Operand.tmp 22)], argTypes := #[47, 47] }), none⟩,
  ⟨(some 3), (Op.assign (Operand.tmp 23)), none⟩]
attribute [go_sem] r58_5
def k58_2 : PC := (.cond (Operand.tmp 15) (.post (.reg r58_5) ⟨[0, 3], [.old 3], []⟩) (.post .skip ⟨[0, 3], [.old 1], []⟩))
def r58_8 : List PO := [⟨(some 28), (Op.move (Operand.tmp 0)), none⟩,
  ⟨(some 29), (Op.call { callee := (Callee.value (Operand.func 55)), args := #[(Operand.tmp 28), (Operand.const (Value.int IntKind.i64 3))], argTypes := #[85, 3] }), none⟩,
  ⟨(some 30), (Op.binOp BinOp.add 3 (Operand.const (Value.int IntKind.i64 98)) (Operand.tmp 29) 3), none⟩,
  ⟨(some 4), (Op.assign (Operand.tmp 30)), none⟩]
attribute [go_sem] r58_8
def k58_3 : PC := (.cond (Operand.tmp 27) (.post (.reg r58_8) ⟨[0, 3, 4], [.old 1], []⟩) (.post .skip ⟨[0, 3, 4], [.old 1], []⟩))
def r58_13 : List PO := [⟨(some 41), (Op.move (Operand.tmp 0)), none⟩,
  ⟨(some 42), (Op.call { callee := (Callee.value (Operand.func 55)), args := #[(Operand.tmp 41), (Operand.const (Value.int IntKind.i64 10))], argTypes := #[85, 3] }), none⟩,
  ⟨(some 43), (Op.binOp BinOp.add 3 (Operand.const (Value.int IntKind.i64 1)) (Operand.tmp 42) 3), none⟩,
  ⟨(some 44), (Op.fieldAddr 39 (Operand.tmp 5) 0), none⟩,
  ⟨none, (Op.store 3 (Operand.tmp 44) (Operand.tmp 43)), none⟩]
attribute [go_sem] r58_13
def k58_7 : PC := (.cond (Operand.tmp 40) (.post (.reg r58_13) ⟨[0, 3, 4, 5], [.old 1, .old 2], []⟩) (.post .skip ⟨[0, 3, 4, 5], [.old 1, .old 2], []⟩))
def r58_15 : List PO := [⟨(some 48), (Op.move (Operand.tmp 0)), none⟩,
  ⟨(some 49), (Op.buildSlice 36 7 #[(0, (Operand.const (Value.int IntKind.i64 0))), (1, (Operand.const (Value.int IntKind.i64 2))), (2, (Operand.const (Value.int IntKind.i64 3))), (3, (Operand.const (Value.int IntKind.i64 9))), (4, (Operand.const (Value.int IntKind.i64 90))), (5, (Operand.const (Value.int IntKind.i64 100))), (6, (Operand.const (Value.int IntKind.i64 101)))]), none⟩,
  ⟨(some 50), (Op.call { callee := (Callee.value (Operand.func 57)), args := #[(Operand.tmp 48), (Operand.tmp 49)], argTypes := #[85, 36] }), none⟩,
  ⟨(some 51), (Op.fieldAddr 39 (Operand.tmp 5) 1), none⟩,
  ⟨none, (Op.store 3 (Operand.tmp 51) (Operand.tmp 50)), none⟩]
attribute [go_sem] r58_15
def k58_8 : PC := (.cond (Operand.tmp 47) (.post (.reg r58_15) ⟨[0, 3, 4, 5], [.old 1, .old 2], []⟩) (.post .skip ⟨[0, 3, 4, 5], [.old 1, .old 2], []⟩))
def r58_9 : List PO := [⟨(some 31), (Op.move (Operand.tmp 4)), none⟩,
  ⟨(some 32), (Op.binOp BinOp.gtr 3 (Operand.tmp 31) (Operand.const (Value.int IntKind.i64 0)) 3), none⟩]
attribute [go_sem] r58_9
def r58_11 : List PO := [⟨(some 35), (Op.move (Operand.tmp 0)), none⟩,
  ⟨(some 36), (Op.buildSlice 36 12 #[(0, (Operand.const (Value.int IntKind.i64 1))), (1, (Operand.const (Value.int IntKind.i64 3))), (2, (Operand.const (Value.int IntKind.i64 5))), (3, (Operand.const (Value.int IntKind.i64 7))), (4, (Operand.const (Value.int IntKind.i64 7))), (5, (Operand.const (Value.int IntKind.i64 7))), (6, (Operand.const (Value.int IntKind.i64 8))), (7, (Operand.const (Value.int IntKind.i64 8))), (8, (Operand.const (Value.int IntKind.i64 10))), (9, (Operand.const (Value.int IntKind.i64 10))), (10, (Operand.const (Value.int IntKind.i64 10))), (11, (Operand.const (Value.int IntKind.i64 10)))]), none⟩,
  ⟨(some 37), (Op.call { callee := (Callee.value (Operand.func 57)), args := #[(Operand.tmp 35), (Operand.tmp 36)], argTypes := #[85, 36] }), none⟩,
  ⟨(some 38), (Op.build 39 #[(0, (Operand.tmp 37))]), none⟩,
  ⟨(some 5), (Op.alloc 39), none⟩,
  ⟨none, (Op.store 39 (Operand.tmp 5) (Operand.tmp 38)), none⟩]
attribute [go_sem] r58_11
def r58_12 : List PO := [⟨(some 39), (Op.move (Operand.tmp 0)), none⟩,
  ⟨(some 40), (Op.call { callee := (Callee.value (Operand.func 56)), args := #[(Operand.tmp 39), (Operand.const (Value.int IntKind.i64 12))], argTypes := #[85, 3] }), none⟩]
attribute [go_sem] r58_12
def r58_14 : List PO := [⟨(some 45), (Op.fieldAddr 39 (Operand.tmp 5) 0), none⟩,
  ⟨(some 46), (Op.load 3 (Operand.tmp 45)), none⟩,
  ⟨(some 47), (Op.binOp BinOp.eql 3 (Operand.tmp 46) (Operand.const (Value.int IntKind.i64 5)) 3), none⟩]
attribute [go_sem] r58_14
def r58_16 : List PO := [⟨(some 52), (Op.move (Operand.tmp 3)), none⟩,
  ⟨(some 53), (Op.load 39 (Operand.tmp 5)), none⟩,
  ⟨(some 54), (Op.buildSlice 47 1 #[(0, (Operand.tmp 53))]), none⟩,
  ⟨(some 55), (Op.call { callee := (Callee.builtin Builtin.append), args := #[(Operand.tmp 52), (Operand.tmp 54)], argTypes := #[47, 47] }), none⟩,
  ⟨(some 3), (Op.assign (Operand.tmp 55)), none⟩]
attribute [go_sem] r58_16
def r58_10 : List PO := [⟨(some 33), (Op.move (Operand.tmp 4)), none⟩,
  ⟨(some 34), (Op.binOp BinOp.sub 3 (Operand.tmp 33) (Operand.const (Value.int IntKind.i64 1)) 3), none⟩,
  ⟨(some 4), (Op.assign (Operand.tmp 34)), none⟩]
attribute [go_sem] r58_10
def k58_4b : PC := (.seq (.seq (.reg r58_9) (.cond (Operand.tmp 32) .skip (.pre ⟨[3], [.old 1], []⟩ (.exit 0)))) (.seq (.block 1 (.seq (.reg r58_11) (.seq (.seq (.reg r58_12) (.pre ⟨[0, 3, 4, 5, 40], [.old 1, .old 3], []⟩ k58_7)) (.seq (.seq (.reg r58_14) (.pre ⟨[0, 3, 4, 5, 47], [.old 1, .old 2], []⟩ k58_8)) (.reg r58_16))))) (.post (.reg r58_10) ⟨[0, 3, 4], [.old 4], []⟩)))
def r58_0 : List PO := [⟨(some 2), (Op.assign (Operand.const (Value.slice none 0 0))), none⟩]
attribute [go_sem] r58_0
def r58_1 : List PO := [⟨(some 3), (Op.assign (Operand.const (Value.slice none 0 0))), none⟩]
attribute [go_sem] r58_1
def r58_2 : List PO := [⟨(some 6), (Op.move (Operand.tmp 0)), none⟩,
  ⟨(some 7), (Op.call { callee := (Callee.value (Operand.func 56)), args := #[(Operand.tmp 6), (Operand.const (Value.int IntKind.i64 6))], argTypes := #[85, 3] }), none⟩,
  ⟨(some 8), (Op.unOp UnOp.not 4 (Operand.tmp 7)), none⟩]
attribute [go_sem] r58_2
def r58_4 : List PO := [⟨(some 14), (Op.move (Operand.tmp 0)), none⟩,
  ⟨(some 15), (Op.call { callee := (Callee.value (Operand.func 56)), args := #[(Operand.tmp 14), (Operand.const (Value.int IntKind.i64 2))], argTypes := #[85, 3] }), none⟩]
attribute [go_sem] r58_4
def r58_6 : List PO := [⟨(some 24), (Op.move (Operand.tmp 0)), none⟩,
  ⟨(some 25), (Op.call { callee := (Callee.value (Operand.func 55)), args := #[(Operand.tmp 24), (Operand.const (Value.int IntKind.i64 20))], argTypes := #[85, 3] }), none⟩,
  ⟨(some 4), (Op.assign (Operand.tmp 25)), none⟩]
attribute [go_sem] r58_6
def r58_7 : List PO := [⟨(some 26), (Op.move (Operand.tmp 0)), none⟩,
  ⟨(some 27), (Op.call { callee := (Callee.value (Operand.func 56)), args := #[(Operand.tmp 26), (Operand.const (Value.int IntKind.i64 20))], argTypes := #[85, 3] }), none⟩]
attribute [go_sem] r58_7
def r58_17 : List PO := [⟨(some 56), (Op.move (Operand.tmp 3)), none⟩,
  ⟨(some 2), (Op.assign (Operand.tmp 56)), none⟩]
attribute [go_sem] r58_17
def c58 : PC := (.seq (.reg r58_0) (.seq (.reg r58_1) (.seq (.seq (.reg r58_2) (.pre ⟨[0, 3, 8], [.nilT 3 0 2], []⟩ k58_1)) (.seq (.seq (.reg r58_4) (.pre ⟨[0, 3, 15], [.old 1], []⟩ k58_2)) (.seq (.reg r58_6) (.seq (.seq (.reg r58_7) (.pre ⟨[0, 3, 4, 27], [.old 1], []⟩ k58_3)) (.seq (.block 0 (.pre ⟨[0, 3, 4], [.old 1], []⟩ (.loop k58_4b))) (.seq (.reg r58_17) (.pre ⟨[2], [.old 1], []⟩ .ret)))))))))
def i58 : FnI := ⟨57, [(ResultVar.tmp 2)], c58, 3, [[0]], [[2]], false, true, 1⟩
-- loop.example/g00344/spec.DrawPlayEvents
def r35_0 : List PO := [⟨(some 2), (Op.assign (Operand.const (Value.int IntKind.i64 0))), none⟩,
  ⟨(some 3), (Op.assign (Operand.const (Value.slice none 0 0))), none⟩]
attribute [go_sem] r35_0
def r35_1 : List PO := [⟨(some 5), (Op.move (Operand.tmp 0)), none⟩,
  ⟨(some 6), (Op.build 88 #[(0, (Operand.tmp 5))]), none⟩,
  ⟨(some 7), (Op.box 88 (Operand.tmp 6)), none⟩,
  ⟨(some 4), (Op.assign (Operand.tmp 7)), none⟩]
attribute [go_sem] r35_1
def r35_2 : List PO := [⟨(some 8), (Op.move (Operand.tmp 4)), none⟩,
  ⟨(some 9), (Op.buildSlice 36 5 #[(0, (Operand.const (Value.int IntKind.i64 2))), (1, (Operand.const (Value.int IntKind.i64 3))), (2, (Operand.const (Value.int IntKind.i64 9))), (3, (Operand.const (Value.int IntKind.i64 9))), (4, (Operand.const (Value.int IntKind.i64 90)))]), none⟩,
  ⟨(some 10), (Op.call { callee := (Callee.value (Operand.func 57)), args := #[(Operand.tmp 8), (Operand.tmp 9)], argTypes := #[85, 36] }), none⟩,
  ⟨(some 11), (Op.move (Operand.tmp 4)), none⟩,
  ⟨(some 12), (Op.call { callee := (Callee.value (Operand.func 58)), args := #[(Operand.tmp 11)], argTypes := #[85] }), none⟩,
  ⟨(some 2), (Op.assign (Operand.tmp 10)), none⟩,
  ⟨(some 3), (Op.assign (Operand.tmp 12)), none⟩]
attribute [go_sem] r35_2
def c35 : PC := (.seq (.reg r35_0) (.seq (.reg r35_1) (.seq (.reg r35_2) .ret)))
def i35 : FnI := ⟨13, [(ResultVar.tmp 2), (ResultVar.tmp 3)], c35, 0, [[1]], [[0], [2]], false, false, 0⟩
-- loop.example/g00344/impl.within
def r40_1 : List PO := [⟨(some 7), (Op.move (Operand.tmp 0)), none⟩,
  ⟨(some 8), (Op.move (Operand.tmp 1)), none⟩,
  ⟨(some 9), (Op.binOp BinOp.geq 3 (Operand.tmp 7) (Operand.tmp 8) 3), none⟩,
  ⟨(some 10), (Op.move (Operand.tmp 9)), none⟩,
  ⟨(some 11), (Op.move (Operand.tmp 0)), (some (10, true))⟩,
  ⟨(some 12), (Op.move (Operand.tmp 2)), (some (10, true))⟩,
  ⟨(some 13), (Op.binOp BinOp.leq 3 (Operand.tmp 11) (Operand.tmp 12) 3), (some (10, true))⟩,
  ⟨(some 14), (Op.pick (Operand.tmp 10) (Operand.tmp 13) (Operand.const (Value.bool false))), none⟩,
  ⟨(some 6), (Op.assign (Operand.tmp 14)), none⟩]
attribute [go_sem] r40_1
def k40_1 : PC := (.post (.reg r40_1) ⟨[6], [], []⟩)
def r40_0 : List PO := [⟨(some 6), (Op.assign (Operand.const (Value.bool false))), none⟩]
attribute [go_sem] r40_0
def c40 : PC := (.seq (.reg r40_0) (.seq (.pre ⟨[0, 1, 2], [], []⟩ k40_1) .ret))
def i40 : FnI := ⟨15, [(ResultVar.tmp 6)], c40, 0, [[0], [0], [0]], [[0]], false, false, 0⟩
-- loop.example/g00344/impl.NewSession
def r12_0 : List PO := [⟨(some 2), (Op.alloc 23), none⟩,
  ⟨(some 3), (Op.assign (Operand.const (Value.bool false))), none⟩]
attribute [go_sem] r12_0
def r12_1 : List PO := [⟨(some 4), (Op.move (Operand.tmp 0)), none⟩,
  ⟨(some 5), (Op.call { callee := (Callee.value (Operand.func 40)), args := #[(Operand.tmp 4), (Operand.const (Value.int IntKind.i64 3)), (Operand.const (Value.int IntKind.i64 90))], argTypes := #[3, 3, 3] }), none⟩,
  ⟨(some 6), (Op.unOp UnOp.not 4 (Operand.tmp 5)), none⟩]
attribute [go_sem] r12_1
def r12_2 : List PO := [⟨(some 7), (Op.build 23 #[]), none⟩,
  ⟨none, (Op.store 23 (Operand.tmp 2) (Operand.tmp 7)), none⟩,
  ⟨(some 3), (Op.assign (Operand.const (Value.bool false))), none⟩]
attribute [go_sem] r12_2
def r12_3 : List PO := [⟨(some 8), (Op.move (Operand.tmp 0)), none⟩,
  ⟨(some 9), (Op.build 23 #[(1, (Operand.tmp 8))]), none⟩,
  ⟨none, (Op.store 23 (Operand.tmp 2) (Operand.tmp 9)), none⟩,
  ⟨(some 3), (Op.assign (Operand.const (Value.bool true))), none⟩]
attribute [go_sem] r12_3
def c12 : PC := (.seq (.reg r12_0) (.seq (.seq (.reg r12_1) (.cond (Operand.tmp 6) (.seq (.reg r12_2) .ret) .skip)) (.seq (.reg r12_3) .ret)))
def i12 : FnI := ⟨10, [(ResultVar.cell 2 23), (ResultVar.tmp 3)], c12, 0, [[0]], [[0, 0, 0, 0, 0], [0]], false, false, 0⟩
-- slices.IndexFunc[[]loop.example/g00344/impl.Event,loop.example/g00344/impl.Event]
def r63_2 : List PO := [⟨(some 9), (Op.binOp BinOp.lss 3 (Operand.tmp 8) (Operand.tmp 7) 3), none⟩]
attribute [go_sem] r63_2
def r63_3 : List PO := [⟨(some 10), (Op.move (Operand.tmp 8)), none⟩,
  ⟨(some 5), (Op.assign (Operand.tmp 10)), none⟩]
attribute [go_sem] r63_3
def r63_4 : List PO := [⟨(some 11), (Op.move (Operand.tmp 1)), none⟩,
  ⟨(some 12), (Op.move (Operand.tmp 0)), none⟩,
  ⟨(some 13), (Op.move (Operand.tmp 5)), none⟩,
  ⟨(some 14), (Op.indexAddr 47 (Operand.tmp 12) (Operand.tmp 13)), none⟩,
  ⟨(some 15), (Op.load 39 (Operand.tmp 14)), none⟩,
  ⟨(some 16), (Op.call { callee := (Callee.value (Operand.tmp 11)), args := #[(Operand.tmp 15)], argTypes := #[39] }), none⟩]
attribute [go_sem] r63_4
def r63_5 : List PO := [⟨(some 17), (Op.move (Operand.tmp 5)), none⟩,
  ⟨(some 4), (Op.assign (Operand.tmp 17)), none⟩]
attribute [go_sem] r63_5
def r63_6 : List PO := [⟨(some 18), (Op.binOp BinOp.add 3 (Operand.tmp 8) (Operand.const (Value.int IntKind.i64 1)) 3), none⟩,
  ⟨(some 8), (Op.move (Operand.tmp 18)), none⟩]
attribute [go_sem] r63_6
def k63_1b : PC := (.seq (.reg r63_2) (.seq (.cond (Operand.tmp 9) .skip (.pre ⟨[], [], []⟩ (.exit 0))) (.seq (.block 1 (.seq (.reg r63_3) (.seq (.reg r63_4) (.cond (Operand.tmp 16) (.seq (.reg r63_5) (.pre ⟨[4], [], []⟩ .ret)) .skip)))) (.post (.reg r63_6) ⟨[0, 1, 7, 8], [], []⟩))))
def r63_0 : List PO := [⟨(some 4), (Op.assign (Operand.const (Value.int IntKind.i64 0))), none⟩]
attribute [go_sem] r63_0
def r63_1 : List PO := [⟨(some 6), (Op.move (Operand.tmp 0)), none⟩,
  ⟨(some 7), (Op.call { callee := (Callee.builtin Builtin.len), args := #[(Operand.tmp 6)], argTypes := #[47] }), none⟩,
  ⟨(some 8), (Op.move (Operand.const (Value.int IntKind.i64 0))), none⟩]
attribute [go_sem] r63_1
def r63_7 : List PO := [⟨(some 4), (Op.assign (Operand.const (Value.int IntKind.i64 (-1)))), none⟩]
attribute [go_sem] r63_7
def c63 : PC := (.seq (.reg r63_0) (.seq (.seq (.reg r63_1) (.block 0 (.pre ⟨[0, 1, 7, 8], [], []⟩ (.loop k63_1b)))) (.seq (.reg r63_7) .ret)))
def i63 : FnI := ⟨19, [(ResultVar.tmp 4)], c63, 0, [[2], [0]], [[0]], false, false, 0⟩
-- slices.ContainsFunc[[]loop.example/g00344/impl.Event,loop.example/g00344/impl.Event]
def r45_0 : List PO := [⟨(some 4), (Op.assign (Operand.const (Value.bool false))), none⟩]
attribute [go_sem] r45_0
def r45_1 : List PO := [⟨(some 5), (Op.move (Operand.tmp 0)), none⟩,
  ⟨(some 6), (Op.move (Operand.tmp 1)), none⟩,
  ⟨(some 7), (Op.call { callee := (Callee.value (Operand.func 63)), args := #[(Operand.tmp 5), (Operand.tmp 6)], argTypes := #[47, 67] }), none⟩,
  ⟨(some 8), (Op.binOp BinOp.geq 3 (Operand.tmp 7) (Operand.const (Value.int IntKind.i64 0)) 3), none⟩,
  ⟨(some 4), (Op.assign (Operand.tmp 8)), none⟩]
attribute [go_sem] r45_1
def c45 : PC := (.seq (.reg r45_0) (.seq (.reg r45_1) .ret))
def i45 : FnI := ⟨9, [(ResultVar.tmp 4)], c45, 0, [[2], [0]], [[0]], false, false, 0⟩
-- loop.example/g00344/impl.isEvent
def r43_1 : List PO := [⟨(some 3), (Op.fieldAddr 39 (Operand.tmp 1) 0), none⟩,
  ⟨(some 4), (Op.load 3 (Operand.tmp 3)), none⟩,
  ⟨(some 5), (Op.call { callee := (Callee.value (Operand.func 40)), args := #[(Operand.tmp 4), (Operand.const (Value.int IntKind.i64 1)), (Operand.const (Value.int IntKind.i64 10))], argTypes := #[3, 3, 3] }), none⟩,
  ⟨(some 6), (Op.move (Operand.tmp 5)), none⟩,
  ⟨(some 7), (Op.fieldAddr 39 (Operand.tmp 1) 1), (some (6, true))⟩,
  ⟨(some 8), (Op.load 3 (Operand.tmp 7)), (some (6, true))⟩,
  ⟨(some 9), (Op.binOp BinOp.eql 3 (Operand.tmp 8) (Operand.const (Value.int IntKind.i64 0)) 3), (some (6, true))⟩,
  ⟨(some 10), (Op.move (Operand.tmp 9)), (some (6, true))⟩,
  ⟨(some 11), (Op.fieldAddr 39 (Operand.tmp 1) 0), (some (10, false))⟩,
  ⟨(some 12), (Op.load 3 (Operand.tmp 11)), (some (10, false))⟩,
  ⟨(some 13), (Op.binOp BinOp.eql 3 (Operand.tmp 12) (Operand.const (Value.int IntKind.i64 5)) 3), (some (10, false))⟩,
  ⟨(some 14), (Op.move (Operand.tmp 13)), (some (10, false))⟩,
  ⟨(some 15), (Op.fieldAddr 39 (Operand.tmp 1) 1), (some (14, true))⟩,
  ⟨(some 16), (Op.load 3 (Operand.tmp 15)), (some (14, true))⟩,
  ⟨(some 17), (Op.call { callee := (Callee.value (Operand.func 40)), args := #[(Operand.tmp 16), (Operand.const (Value.int IntKind.i64 0)), (Operand.const (Value.int IntKind.i64 100))], argTypes := #[3, 3, 3] }), (some (14, true))⟩,
  ⟨(some 18), (Op.pick (Operand.tmp 14) (Operand.tmp 17) (Operand.const (Value.bool false))), (some (10, false))⟩,
  ⟨(some 19), (Op.pick (Operand.tmp 10) (Operand.const (Value.bool true)) (Operand.tmp 18)), (some (6, true))⟩,
  ⟨(some 20), (Op.pick (Operand.tmp 6) (Operand.tmp 19) (Operand.const (Value.bool false))), none⟩,
  ⟨(some 2), (Op.assign (Operand.tmp 20)), none⟩]
attribute [go_sem] r43_1
def k43_1 : PC := (.post (.reg r43_1) ⟨[2], [], []⟩)
def r43_0 : List PO := [⟨(some 1), (Op.box 39 (Operand.tmp 0)), none⟩,
  ⟨(some 2), (Op.assign (Operand.const (Value.bool false))), none⟩]
attribute [go_sem] r43_0
def c43 : PC := (.seq (.reg r43_0) (.seq (.pre ⟨[1], [.old 0], []⟩ k43_1) .ret))
def i43 : FnI := ⟨21, [(ResultVar.tmp 2)], c43, 0, [[0, 0]], [[0]], false, false, 0⟩
-- loop.example/g00344/impl.PlayEvents$1
def r46_0 : List PO := [⟨(some 1), (Op.box 39 (Operand.tmp 0)), none⟩,
  ⟨(some 2), (Op.assign (Operand.const (Value.bool false))), none⟩]
attribute [go_sem] r46_0
def r46_1 : List PO := [⟨(some 3), (Op.load 39 (Operand.tmp 1)), none⟩,
  ⟨(some 4), (Op.call { callee := (Callee.value (Operand.func 43)), args := #[(Operand.tmp 3)], argTypes := #[39] }), none⟩,
  ⟨(some 5), (Op.unOp UnOp.not 4 (Operand.tmp 4)), none⟩,
  ⟨(some 2), (Op.assign (Operand.tmp 5)), none⟩]
attribute [go_sem] r46_1
def c46 : PC := (.seq (.reg r46_0) (.seq (.reg r46_1) .ret))
def i46 : FnI := ⟨6, [(ResultVar.tmp 2)], c46, 0, [[0, 0]], [[0]], false, false, 0⟩
-- (loop.example/g00344/impl.Session).to
def r61_0 : List PO := [⟨(some 2), (Op.box 23 (Operand.tmp 0)), none⟩,
  ⟨(some 4), (Op.alloc 23), none⟩]
attribute [go_sem] r61_0
def r61_1 : List PO := [⟨(some 5), (Op.move (Operand.tmp 1)), none⟩,
  ⟨(some 6), (Op.fieldAddr 23 (Operand.tmp 2) 1), none⟩,
  ⟨(some 7), (Op.load 3 (Operand.tmp 6)), none⟩,
  ⟨(some 8), (Op.fieldAddr 23 (Operand.tmp 2) 4), none⟩,
  ⟨(some 9), (Op.load 3 (Operand.tmp 8)), none⟩,
  ⟨(some 10), (Op.build 23 #[(0, (Operand.tmp 5)), (1, (Operand.tmp 7)), (4, (Operand.tmp 9))]), none⟩,
  ⟨none, (Op.store 23 (Operand.tmp 4) (Operand.tmp 10)), none⟩]
attribute [go_sem] r61_1
def c61 : PC := (.seq (.reg r61_0) (.seq (.reg r61_1) .ret))
def i61 : FnI := ⟨11, [(ResultVar.cell 4 23)], c61, 0, [[0, 0, 0, 0, 0], [0]], [[0, 0, 0, 0, 0]], false, false, 0⟩
-- (loop.example/g00344/impl.Session).tick
def r62_0 : List PO := [⟨(some 1), (Op.box 23 (Operand.tmp 0)), none⟩,
  ⟨(some 2), (Op.alloc 23), none⟩,
  ⟨(some 3), (Op.assign (Operand.const (Value.slice none 0 0))), none⟩]
attribute [go_sem] r62_0
def r62_1 : List PO := [⟨(some 4), (Op.fieldAddr 23 (Operand.tmp 1) 2), none⟩,
  ⟨(some 5), (Op.load 3 (Operand.tmp 4)), none⟩,
  ⟨(some 6), (Op.binOp BinOp.sub 3 (Operand.tmp 5) (Operand.const (Value.int IntKind.i64 1)) 3), none⟩,
  ⟨(some 7), (Op.fieldAddr 23 (Operand.tmp 1) 2), none⟩,
  ⟨none, (Op.store 3 (Operand.tmp 7) (Operand.tmp 6)), none⟩]
attribute [go_sem] r62_1
def r62_2 : List PO := [⟨(some 8), (Op.fieldAddr 23 (Operand.tmp 1) 2), none⟩,
  ⟨(some 9), (Op.load 3 (Operand.tmp 8)), none⟩,
  ⟨(some 10), (Op.binOp BinOp.eql 3 (Operand.tmp 9) (Operand.const (Value.int IntKind.i64 0)) 3), none⟩]
attribute [go_sem] r62_2
def r62_3 : List PO := [⟨(some 11), (Op.load 23 (Operand.tmp 1)), none⟩,
  ⟨(some 12), (Op.call { callee := (Callee.value (Operand.func 61)), args := #[(Operand.tmp 11), (Operand.const (Value.int IntKind.i64 0))], argTypes := #[23, 3] }), none⟩,
  ⟨(some 13), (Op.buildSlice 36 1 #[(0, (Operand.const (Value.int IntKind.i64 3)))]), none⟩,
  ⟨none, (Op.store 23 (Operand.tmp 2) (Operand.tmp 12)), none⟩,
  ⟨(some 3), (Op.assign (Operand.tmp 13)), none⟩]
attribute [go_sem] r62_3
def r62_4 : List PO := [⟨(some 14), (Op.fieldAddr 23 (Operand.tmp 1) 0), none⟩,
  ⟨(some 15), (Op.load 3 (Operand.tmp 14)), none⟩,
  ⟨(some 16), (Op.binOp BinOp.eql 3 (Operand.tmp 15) (Operand.const (Value.int IntKind.i64 2)) 3), none⟩]
attribute [go_sem] r62_4
def r62_5 : List PO := [⟨(some 17), (Op.load 23 (Operand.tmp 1)), none⟩,
  ⟨none, (Op.store 23 (Operand.tmp 2) (Operand.tmp 17)), none⟩,
  ⟨(some 3), (Op.assign (Operand.const (Value.slice none 0 0))), none⟩]
attribute [go_sem] r62_5
def r62_6 : List PO := [⟨(some 18), (Op.fieldAddr 23 (Operand.tmp 1) 3), none⟩,
  ⟨(some 19), (Op.load 3 (Operand.tmp 18)), none⟩,
  ⟨(some 20), (Op.binOp BinOp.sub 3 (Operand.tmp 19) (Operand.const (Value.int IntKind.i64 1)) 3), none⟩,
  ⟨(some 21), (Op.fieldAddr 23 (Operand.tmp 1) 3), none⟩,
  ⟨none, (Op.store 3 (Operand.tmp 21) (Operand.tmp 20)), none⟩]
attribute [go_sem] r62_6
def r62_7 : List PO := [⟨(some 22), (Op.fieldAddr 23 (Operand.tmp 1) 3), none⟩,
  ⟨(some 23), (Op.load 3 (Operand.tmp 22)), none⟩,
  ⟨(some 24), (Op.binOp BinOp.eql 3 (Operand.tmp 23) (Operand.const (Value.int IntKind.i64 0)) 3), none⟩]
attribute [go_sem] r62_7
def r62_8 : List PO := [⟨(some 25), (Op.fieldAddr 23 (Operand.tmp 1) 1), none⟩,
  ⟨(some 26), (Op.load 3 (Operand.tmp 25)), none⟩,
  ⟨(some 27), (Op.binOp BinOp.quo 3 (Operand.tmp 26) (Operand.const (Value.int IntKind.i64 3)) 3), none⟩,
  ⟨(some 28), (Op.fieldAddr 23 (Operand.tmp 1) 3), none⟩,
  ⟨none, (Op.store 3 (Operand.tmp 28) (Operand.tmp 27)), none⟩]
attribute [go_sem] r62_8
def r62_9 : List PO := [⟨(some 29), (Op.load 23 (Operand.tmp 1)), none⟩,
  ⟨(some 30), (Op.buildSlice 36 1 #[(0, (Operand.const (Value.int IntKind.i64 4)))]), none⟩,
  ⟨none, (Op.store 23 (Operand.tmp 2) (Operand.tmp 29)), none⟩,
  ⟨(some 3), (Op.assign (Operand.tmp 30)), none⟩]
attribute [go_sem] r62_9
def r62_10 : List PO := [⟨(some 31), (Op.load 23 (Operand.tmp 1)), none⟩,
  ⟨none, (Op.store 23 (Operand.tmp 2) (Operand.tmp 31)), none⟩,
  ⟨(some 3), (Op.assign (Operand.const (Value.slice none 0 0))), none⟩]
attribute [go_sem] r62_10
def c62 : PC := (.seq (.reg r62_0) (.seq (.seq (.reg r62_1) (.seq (.reg r62_2) (.cond (Operand.tmp 10) (.seq (.reg r62_3) .ret) .skip))) (.seq (.seq (.reg r62_4) (.cond (Operand.tmp 16) (.seq (.reg r62_5) .ret) .skip)) (.seq (.seq (.reg r62_6) (.seq (.reg r62_7) (.cond (Operand.tmp 24) (.seq (.reg r62_8) (.seq (.reg r62_9) .ret)) .skip))) (.seq (.reg r62_10) .ret)))))
def i62 : FnI := ⟨32, [(ResultVar.cell 2 23), (ResultVar.tmp 3)], c62, 0, [[0, 0, 0, 0, 0]], [[0, 0, 0, 0, 0], [1]], false, false, 0⟩
-- (loop.example/g00344/impl.Session).step
def r44_2 : List PO := [⟨(some 13), (Op.fieldAddr 39 (Operand.tmp 3) 0), none⟩,
  ⟨(some 14), (Op.load 3 (Operand.tmp 13)), none⟩,
  ⟨(some 15), (Op.binOp BinOp.eql 3 (Operand.tmp 14) (Operand.const (Value.int IntKind.i64 1)) 3), none⟩,
  ⟨(some 16), (Op.move (Operand.tmp 15)), none⟩,
  ⟨(some 17), (Op.fieldAddr 23 (Operand.tmp 2) 0), (some (16, true))⟩,
  ⟨(some 18), (Op.load 3 (Operand.tmp 17)), (some (16, true))⟩,
  ⟨(some 19), (Op.binOp BinOp.eql 3 (Operand.tmp 18) (Operand.const (Value.int IntKind.i64 0)) 3), (some (16, true))⟩,
  ⟨(some 20), (Op.pick (Operand.tmp 16) (Operand.tmp 19) (Operand.const (Value.bool false))), none⟩,
  ⟨(some 12), (Op.assign (Operand.tmp 20)), none⟩]
attribute [go_sem] r44_2
def k44_1 : PC := (.post (.reg r44_2) ⟨[2, 3, 4, 6, 12], [.old 0, .old 1, .old 2], []⟩)
def r44_4 : List PO := [⟨(some 24), (Op.fieldAddr 39 (Operand.tmp 3) 0), none⟩,
  ⟨(some 25), (Op.load 3 (Operand.tmp 24)), none⟩,
  ⟨(some 26), (Op.binOp BinOp.eql 3 (Operand.tmp 25) (Operand.const (Value.int IntKind.i64 2)) 3), none⟩,
  ⟨(some 27), (Op.move (Operand.tmp 26)), none⟩,
  ⟨(some 28), (Op.move (Operand.tmp 6)), (some (27, true))⟩,
  ⟨(some 29), (Op.unOp UnOp.not 4 (Operand.tmp 28)), (some (27, true))⟩,
  ⟨(some 30), (Op.pick (Operand.tmp 27) (Operand.tmp 29) (Operand.const (Value.bool false))), none⟩,
  ⟨(some 23), (Op.assign (Operand.tmp 30)), none⟩]
attribute [go_sem] r44_4
def k44_2 : PC := (.post (.reg r44_4) ⟨[2, 3, 4, 6, 23], [.old 0, .old 1, .old 2], []⟩)
def r44_6 : List PO := [⟨(some 34), (Op.fieldAddr 39 (Operand.tmp 3) 0), none⟩,
  ⟨(some 35), (Op.load 3 (Operand.tmp 34)), none⟩,
  ⟨(some 36), (Op.binOp BinOp.eql 3 (Operand.tmp 35) (Operand.const (Value.int IntKind.i64 3)) 3), none⟩,
  ⟨(some 37), (Op.move (Operand.tmp 36)), none⟩,
  ⟨(some 38), (Op.fieldAddr 23 (Operand.tmp 2) 0), (some (37, true))⟩,
  ⟨(some 39), (Op.load 3 (Operand.tmp 38)), (some (37, true))⟩,
  ⟨(some 40), (Op.binOp BinOp.eql 3 (Operand.tmp 39) (Operand.const (Value.int IntKind.i64 1)) 3), (some (37, true))⟩,
  ⟨(some 41), (Op.pick (Operand.tmp 37) (Operand.tmp 40) (Operand.const (Value.bool false))), none⟩,
  ⟨(some 33), (Op.assign (Operand.tmp 41)), none⟩]
attribute [go_sem] r44_6
def k44_3 : PC := (.post (.reg r44_6) ⟨[2, 3, 4, 6, 33], [.old 0, .old 1, .old 2], []⟩)
def r44_14 : List PO := [⟨(some 58), (Op.fieldAddr 39 (Operand.tmp 3) 0), none⟩,
  ⟨(some 59), (Op.load 3 (Operand.tmp 58)), none⟩,
  ⟨(some 60), (Op.binOp BinOp.eql 3 (Operand.tmp 59) (Operand.const (Value.int IntKind.i64 5)) 3), none⟩,
  ⟨(some 61), (Op.move (Operand.tmp 60)), none⟩,
  ⟨(some 62), (Op.fieldAddr 23 (Operand.tmp 2) 0), (some (61, true))⟩,
  ⟨(some 63), (Op.load 3 (Operand.tmp 62)), (some (61, true))⟩,
  ⟨(some 64), (Op.binOp BinOp.eql 3 (Operand.tmp 63) (Operand.const (Value.int IntKind.i64 2)) 3), (some (61, true))⟩,
  ⟨(some 65), (Op.pick (Operand.tmp 61) (Operand.tmp 64) (Operand.const (Value.bool false))), none⟩,
  ⟨(some 66), (Op.move (Operand.tmp 65)), none⟩,
  ⟨(some 67), (Op.fieldAddr 39 (Operand.tmp 3) 1), (some (66, true))⟩,
  ⟨(some 68), (Op.load 3 (Operand.tmp 67)), (some (66, true))⟩,
  ⟨(some 69), (Op.binOp BinOp.gtr 3 (Operand.tmp 68) (Operand.const (Value.int IntKind.i64 2)) 3), (some (66, true))⟩,
  ⟨(some 70), (Op.pick (Operand.tmp 66) (Operand.tmp 69) (Operand.const (Value.bool false))), none⟩,
  ⟨(some 57), (Op.assign (Operand.tmp 70)), none⟩]
attribute [go_sem] r44_14
def k44_4 : PC := (.post (.reg r44_14) ⟨[2, 3, 4, 57], [.old 0, .old 1, .old 2], []⟩)
def r44_19 : List PO := [⟨(some 89), (Op.fieldAddr 39 (Operand.tmp 3) 0), none⟩,
  ⟨(some 90), (Op.load 3 (Operand.tmp 89)), none⟩,
  ⟨(some 91), (Op.binOp BinOp.eql 3 (Operand.tmp 90) (Operand.const (Value.int IntKind.i64 7)) 3), none⟩,
  ⟨(some 92), (Op.move (Operand.tmp 91)), none⟩,
  ⟨(some 93), (Op.fieldAddr 23 (Operand.tmp 2) 0), (some (92, true))⟩,
  ⟨(some 94), (Op.load 3 (Operand.tmp 93)), (some (92, true))⟩,
  ⟨(some 95), (Op.binOp BinOp.eql 3 (Operand.tmp 94) (Operand.const (Value.int IntKind.i64 3)) 3), (some (92, true))⟩,
  ⟨(some 96), (Op.pick (Operand.tmp 92) (Operand.tmp 95) (Operand.const (Value.bool false))), none⟩,
  ⟨(some 88), (Op.assign (Operand.tmp 96)), none⟩]
attribute [go_sem] r44_19
def k44_5 : PC := (.post (.reg r44_19) ⟨[2, 3, 4, 88], [.old 0, .old 1, .old 2], []⟩)
def r44_22 : List PO := [⟨(some 108), (Op.fieldAddr 39 (Operand.tmp 3) 0), none⟩,
  ⟨(some 109), (Op.load 3 (Operand.tmp 108)), none⟩,
  ⟨(some 110), (Op.binOp BinOp.eql 3 (Operand.tmp 109) (Operand.const (Value.int IntKind.i64 7)) 3), none⟩,
  ⟨(some 111), (Op.move (Operand.tmp 110)), none⟩,
  ⟨(some 112), (Op.fieldAddr 39 (Operand.tmp 3) 0), (some (111, false))⟩,
  ⟨(some 113), (Op.load 3 (Operand.tmp 112)), (some (111, false))⟩,
  ⟨(some 114), (Op.binOp BinOp.eql 3 (Operand.tmp 113) (Operand.const (Value.int IntKind.i64 8)) 3), (some (111, false))⟩,
  ⟨(some 115), (Op.pick (Operand.tmp 111) (Operand.const (Value.bool true)) (Operand.tmp 114)), none⟩,
  ⟨(some 116), (Op.move (Operand.tmp 115)), none⟩,
  ⟨(some 117), (Op.fieldAddr 23 (Operand.tmp 2) 0), (some (116, true))⟩,
  ⟨(some 118), (Op.load 3 (Operand.tmp 117)), (some (116, true))⟩,
  ⟨(some 119), (Op.binOp BinOp.eql 3 (Operand.tmp 118) (Operand.const (Value.int IntKind.i64 4)) 3), (some (116, true))⟩,
  ⟨(some 120), (Op.pick (Operand.tmp 116) (Operand.tmp 119) (Operand.const (Value.bool false))), none⟩,
  ⟨(some 107), (Op.assign (Operand.tmp 120)), none⟩]
attribute [go_sem] r44_22
def k44_6 : PC := (.post (.reg r44_22) ⟨[2, 3, 4, 107], [.old 0, .old 1, .old 2], []⟩)
def r44_0 : List PO := [⟨(some 2), (Op.box 23 (Operand.tmp 0)), none⟩,
  ⟨(some 3), (Op.box 39 (Operand.tmp 1)), none⟩,
  ⟨(some 4), (Op.alloc 23), none⟩,
  ⟨(some 5), (Op.assign (Operand.const (Value.slice none 0 0))), none⟩]
attribute [go_sem] r44_0
def r44_1 : List PO := [⟨(some 9), (Op.fieldAddr 23 (Operand.tmp 2) 0), none⟩,
  ⟨(some 10), (Op.load 3 (Operand.tmp 9)), none⟩,
  ⟨(some 11), (Op.binOp BinOp.geq 3 (Operand.tmp 10) (Operand.const (Value.int IntKind.i64 2)) 3), none⟩,
  ⟨(some 6), (Op.assign (Operand.tmp 11)), none⟩]
attribute [go_sem] r44_1
def r44_3 : List PO := [⟨(some 21), (Op.load 23 (Operand.tmp 2)), none⟩,
  ⟨(some 22), (Op.call { callee := (Callee.value (Operand.func 61)), args := #[(Operand.tmp 21), (Operand.const (Value.int IntKind.i64 1))], argTypes := #[23, 3] }), none⟩,
  ⟨none, (Op.store 23 (Operand.tmp 4) (Operand.tmp 22)), none⟩,
  ⟨(some 5), (Op.assign (Operand.const (Value.slice none 0 0))), none⟩]
attribute [go_sem] r44_3
def r44_5 : List PO := [⟨(some 31), (Op.load 23 (Operand.tmp 2)), none⟩,
  ⟨(some 32), (Op.call { callee := (Callee.value (Operand.func 61)), args := #[(Operand.tmp 31), (Operand.const (Value.int IntKind.i64 0))], argTypes := #[23, 3] }), none⟩,
  ⟨none, (Op.store 23 (Operand.tmp 4) (Operand.tmp 32)), none⟩,
  ⟨(some 5), (Op.assign (Operand.const (Value.slice none 0 0))), none⟩]
attribute [go_sem] r44_5
def r44_7 : List PO := [⟨(some 42), (Op.load 23 (Operand.tmp 2)), none⟩,
  ⟨(some 43), (Op.call { callee := (Callee.value (Operand.func 61)), args := #[(Operand.tmp 42), (Operand.const (Value.int IntKind.i64 2))], argTypes := #[23, 3] }), none⟩,
  ⟨(some 7), (Op.alloc 23), none⟩,
  ⟨none, (Op.store 23 (Operand.tmp 7) (Operand.tmp 43)), none⟩]
attribute [go_sem] r44_7
def r44_8 : List PO := [⟨(some 44), (Op.fieldAddr 23 (Operand.tmp 7) 2), none⟩,
  ⟨none, (Op.store 3 (Operand.tmp 44) (Operand.const (Value.int IntKind.i64 90))), none⟩]
attribute [go_sem] r44_8
def r44_9 : List PO := [⟨(some 45), (Op.load 23 (Operand.tmp 7)), none⟩,
  ⟨(some 46), (Op.buildSlice 36 1 #[(0, (Operand.const (Value.int IntKind.i64 1)))]), none⟩,
  ⟨none, (Op.store 23 (Operand.tmp 4) (Operand.tmp 45)), none⟩,
  ⟨(some 5), (Op.assign (Operand.tmp 46)), none⟩]
attribute [go_sem] r44_9
def r44_10 : List PO := [⟨(some 48), (Op.move (Operand.tmp 6)), none⟩,
  ⟨(some 49), (Op.unOp UnOp.not 4 (Operand.tmp 48)), none⟩,
  ⟨(some 47), (Op.assign (Operand.tmp 49)), none⟩]
attribute [go_sem] r44_10
def r44_11 : List PO := [⟨(some 50), (Op.load 23 (Operand.tmp 2)), none⟩,
  ⟨none, (Op.store 23 (Operand.tmp 4) (Operand.tmp 50)), none⟩,
  ⟨(some 5), (Op.assign (Operand.const (Value.slice none 0 0))), none⟩]
attribute [go_sem] r44_11
def r44_12 : List PO := [⟨(some 52), (Op.fieldAddr 39 (Operand.tmp 3) 0), none⟩,
  ⟨(some 53), (Op.load 3 (Operand.tmp 52)), none⟩,
  ⟨(some 54), (Op.binOp BinOp.eql 3 (Operand.tmp 53) (Operand.const (Value.int IntKind.i64 4)) 3), none⟩,
  ⟨(some 51), (Op.assign (Operand.tmp 54)), none⟩]
attribute [go_sem] r44_12
def r44_13 : List PO := [⟨(some 55), (Op.load 23 (Operand.tmp 2)), none⟩,
  ⟨(some 56), (Op.call { callee := (Callee.value (Operand.func 61)), args := #[(Operand.tmp 55), (Operand.const (Value.int IntKind.i64 1))], argTypes := #[23, 3] }), none⟩,
  ⟨none, (Op.store 23 (Operand.tmp 4) (Operand.tmp 56)), none⟩,
  ⟨(some 5), (Op.assign (Operand.const (Value.slice none 0 0))), none⟩]
attribute [go_sem] r44_13
def r44_15 : List PO := [⟨(some 71), (Op.load 23 (Operand.tmp 2)), none⟩,
  ⟨(some 72), (Op.call { callee := (Callee.value (Operand.func 61)), args := #[(Operand.tmp 71), (Operand.const (Value.int IntKind.i64 3))], argTypes := #[23, 3] }), none⟩,
  ⟨(some 8), (Op.alloc 23), none⟩,
  ⟨none, (Op.store 23 (Operand.tmp 8) (Operand.tmp 72)), none⟩]
attribute [go_sem] r44_15
def r44_16 : List PO := [⟨(some 73), (Op.fieldAddr 23 (Operand.tmp 2) 1), none⟩,
  ⟨(some 74), (Op.load 3 (Operand.tmp 73)), none⟩,
  ⟨(some 75), (Op.fieldAddr 39 (Operand.tmp 3) 1), none⟩,
  ⟨(some 76), (Op.load 3 (Operand.tmp 75)), none⟩,
  ⟨(some 77), (Op.call { callee := (Callee.builtin Builtin.min), args := #[(Operand.tmp 74), (Operand.tmp 76)], argTypes := #[3, 3] }), none⟩,
  ⟨(some 78), (Op.fieldAddr 23 (Operand.tmp 8) 1), none⟩,
  ⟨none, (Op.store 3 (Operand.tmp 78) (Operand.tmp 77)), none⟩]
attribute [go_sem] r44_16
def r44_17 : List PO := [⟨(some 79), (Op.fieldAddr 23 (Operand.tmp 8) 1), none⟩,
  ⟨(some 80), (Op.load 3 (Operand.tmp 79)), none⟩,
  ⟨(some 81), (Op.fieldAddr 23 (Operand.tmp 8) 1), none⟩,
  ⟨(some 82), (Op.load 3 (Operand.tmp 81)), none⟩,
  ⟨(some 83), (Op.binOp BinOp.quo 3 (Operand.tmp 82) (Operand.const (Value.int IntKind.i64 3)) 3), none⟩,
  ⟨(some 84), (Op.fieldAddr 23 (Operand.tmp 8) 2), none⟩,
  ⟨none, (Op.store 3 (Operand.tmp 84) (Operand.tmp 80)), none⟩,
  ⟨(some 85), (Op.fieldAddr 23 (Operand.tmp 8) 3), none⟩,
  ⟨none, (Op.store 3 (Operand.tmp 85) (Operand.tmp 83)), none⟩]
attribute [go_sem] r44_17
def r44_18 : List PO := [⟨(some 86), (Op.load 23 (Operand.tmp 8)), none⟩,
  ⟨(some 87), (Op.buildSlice 36 1 #[(0, (Operand.const (Value.int IntKind.i64 4)))]), none⟩,
  ⟨none, (Op.store 23 (Operand.tmp 4) (Operand.tmp 86)), none⟩,
  ⟨(some 5), (Op.assign (Operand.tmp 87)), none⟩]
attribute [go_sem] r44_18
def r44_20 : List PO := [⟨(some 97), (Op.fieldAddr 23 (Operand.tmp 2) 1), none⟩,
  ⟨(some 98), (Op.load 3 (Operand.tmp 97)), none⟩,
  ⟨(some 99), (Op.fieldAddr 23 (Operand.tmp 2) 4), none⟩,
  ⟨(some 100), (Op.load 3 (Operand.tmp 99)), none⟩,
  ⟨(some 101), (Op.binOp BinOp.add 3 (Operand.tmp 100) (Operand.const (Value.int IntKind.i64 1)) 3), none⟩,
  ⟨(some 102), (Op.call { callee := (Callee.builtin Builtin.min), args := #[(Operand.const (Value.int IntKind.i64 1000)), (Operand.tmp 101)], argTypes := #[3, 3] }), none⟩,
  ⟨(some 103), (Op.fieldAddr 23 (Operand.tmp 2) 0), none⟩,
  ⟨none, (Op.store 3 (Operand.tmp 103) (Operand.const (Value.int IntKind.i64 4))), none⟩,
  ⟨(some 104), (Op.fieldAddr 23 (Operand.tmp 2) 2), none⟩,
  ⟨none, (Op.store 3 (Operand.tmp 104) (Operand.tmp 98)), none⟩,
  ⟨(some 105), (Op.fieldAddr 23 (Operand.tmp 2) 4), none⟩,
  ⟨none, (Op.store 3 (Operand.tmp 105) (Operand.tmp 102)), none⟩]
attribute [go_sem] r44_20
def r44_21 : List PO := [⟨(some 106), (Op.load 23 (Operand.tmp 2)), none⟩,
  ⟨none, (Op.store 23 (Operand.tmp 4) (Operand.tmp 106)), none⟩,
  ⟨(some 5), (Op.assign (Operand.const (Value.slice none 0 0))), none⟩]
attribute [go_sem] r44_21
def r44_23 : List PO := [⟨(some 121), (Op.fieldAddr 23 (Operand.tmp 2) 1), none⟩,
  ⟨(some 122), (Op.load 3 (Operand.tmp 121)), none⟩,
  ⟨(some 123), (Op.fieldAddr 23 (Operand.tmp 2) 2), none⟩,
  ⟨none, (Op.store 3 (Operand.tmp 123) (Operand.tmp 122)), none⟩]
attribute [go_sem] r44_23
def r44_24 : List PO := [⟨(some 124), (Op.load 23 (Operand.tmp 2)), none⟩,
  ⟨none, (Op.store 23 (Operand.tmp 4) (Operand.tmp 124)), none⟩,
  ⟨(some 5), (Op.assign (Operand.const (Value.slice none 0 0))), none⟩]
attribute [go_sem] r44_24
def r44_25 : List PO := [⟨(some 126), (Op.fieldAddr 39 (Operand.tmp 3) 0), none⟩,
  ⟨(some 127), (Op.load 3 (Operand.tmp 126)), none⟩,
  ⟨(some 128), (Op.binOp BinOp.eql 3 (Operand.tmp 127) (Operand.const (Value.int IntKind.i64 9)) 3), none⟩,
  ⟨(some 125), (Op.assign (Operand.tmp 128)), none⟩]
attribute [go_sem] r44_25
def r44_26 : List PO := [⟨(some 129), (Op.load 23 (Operand.tmp 2)), none⟩,
  ⟨(some 130), (Op.call { callee := (Callee.value (Operand.func 61)), args := #[(Operand.tmp 129), (Operand.const (Value.int IntKind.i64 0))], argTypes := #[23, 3] }), none⟩,
  ⟨none, (Op.store 23 (Operand.tmp 4) (Operand.tmp 130)), none⟩,
  ⟨(some 5), (Op.assign (Operand.const (Value.slice none 0 0))), none⟩]
attribute [go_sem] r44_26
def r44_27 : List PO := [⟨(some 132), (Op.fieldAddr 39 (Operand.tmp 3) 0), none⟩,
  ⟨(some 133), (Op.load 3 (Operand.tmp 132)), none⟩,
  ⟨(some 134), (Op.binOp BinOp.eql 3 (Operand.tmp 133) (Operand.const (Value.int IntKind.i64 10)) 3), none⟩,
  ⟨(some 131), (Op.assign (Operand.tmp 134)), none⟩]
attribute [go_sem] r44_27
def r44_28 : List PO := [⟨(some 135), (Op.load 23 (Operand.tmp 2)), none⟩,
  ⟨(some 136), (Op.call { callee := (Callee.value (Operand.func 62)), args := #[(Operand.tmp 135)], argTypes := #[23] }), none⟩,
  ⟨(some 137), (Op.extract (Operand.tmp 136) 0), none⟩,
  ⟨(some 138), (Op.extract (Operand.tmp 136) 1), none⟩,
  ⟨none, (Op.store 23 (Operand.tmp 4) (Operand.tmp 137)), none⟩,
  ⟨(some 5), (Op.assign (Operand.tmp 138)), none⟩]
attribute [go_sem] r44_28
def r44_29 : List PO := [⟨(some 139), (Op.load 23 (Operand.tmp 2)), none⟩,
  ⟨(some 140), (Op.call { callee := (Callee.value (Operand.func 61)), args := #[(Operand.tmp 139), (Operand.const (Value.int IntKind.i64 0))], argTypes := #[23, 3] }), none⟩,
  ⟨(some 141), (Op.buildSlice 36 1 #[(0, (Operand.const (Value.int IntKind.i64 3)))]), none⟩,
  ⟨none, (Op.store 23 (Operand.tmp 4) (Operand.tmp 140)), none⟩,
  ⟨(some 5), (Op.assign (Operand.tmp 141)), none⟩]
attribute [go_sem] r44_29
def c44 : PC := (.seq (.reg r44_0) (.seq (.reg r44_1) (.seq (.block 0 (.seq (.pre ⟨[2, 3, 4, 6], [.old 0, .old 1, .old 2], []⟩ k44_1) (.cond (Operand.tmp 12) (.seq (.reg r44_3) .ret) (.seq (.pre ⟨[2, 3, 4, 6], [.old 0, .old 1, .old 2], []⟩ k44_2) (.cond (Operand.tmp 23) (.seq (.reg r44_5) .ret) (.seq (.pre ⟨[2, 3, 4, 6], [.old 0, .old 1, .old 2], []⟩ k44_3) (.cond (Operand.tmp 33) (.seq (.reg r44_7) (.seq (.reg r44_8) (.seq (.reg r44_9) .ret))) (.seq (.reg r44_10) (.cond (Operand.tmp 47) (.seq (.reg r44_11) .ret) (.seq (.reg r44_12) (.cond (Operand.tmp 51) (.seq (.reg r44_13) .ret) (.seq (.pre ⟨[2, 3, 4], [.old 0, .old 1, .old 2], []⟩ k44_4) (.cond (Operand.tmp 57) (.seq (.reg r44_15) (.seq (.reg r44_16) (.seq (.reg r44_17) (.seq (.reg r44_18) .ret)))) (.seq (.pre ⟨[2, 3, 4], [.old 0, .old 1, .old 2], []⟩ k44_5) (.cond (Operand.tmp 88) (.seq (.reg r44_20) (.seq (.reg r44_21) .ret)) (.seq (.pre ⟨[2, 3, 4], [.old 0, .old 1, .old 2], []⟩ k44_6) (.cond (Operand.tmp 107) (.seq (.reg r44_23) (.seq (.reg r44_24) .ret)) (.seq (.reg r44_25) (.cond (Operand.tmp 125) (.seq (.reg r44_26) .ret) (.seq (.reg r44_27) (.cond (Operand.tmp 131) (.seq (.reg r44_28) .ret) .skip))))))))))))))))))))) (.seq (.reg r44_29) .ret))))
def i44 : FnI := ⟨142, [(ResultVar.cell 4 23), (ResultVar.tmp 5)], c44, 0, [[0, 0, 0, 0, 0], [0, 0]], [[0, 0, 0, 0, 0], [1]], false, false, 0⟩
-- loop.example/g00344/impl.PlayEvents
def r28_2 : List PO := [⟨(some 19), (Op.move (Operand.tmp 8)), none⟩,
  ⟨(some 20), (Op.unOp UnOp.not 4 (Operand.tmp 19)), none⟩,
  ⟨(some 21), (Op.move (Operand.tmp 20)), none⟩,
  ⟨(some 22), (Op.move (Operand.tmp 1)), (some (21, false))⟩,
  ⟨(some 23), (Op.call { callee := (Callee.builtin Builtin.len), args := #[(Operand.tmp 22)], argTypes := #[47] }), (some (21, false))⟩,
  ⟨(some 24), (Op.binOp BinOp.gtr 3 (Operand.tmp 23) (Operand.const (Value.int IntKind.i64 100)) 3), (some (21, false))⟩,
  ⟨(some 25), (Op.pick (Operand.tmp 21) (Operand.const (Value.bool true)) (Operand.tmp 24)), none⟩,
  ⟨(some 26), (Op.move (Operand.tmp 25)), none⟩,
  ⟨(some 27), (Op.move (Operand.tmp 1)), (some (26, false))⟩,
  ⟨(some 28), (Op.call { callee := (Callee.value (Operand.func 45)), args := #[(Operand.tmp 27), (Operand.func 46)], argTypes := #[47, 67] }), (some (26, false))⟩,
  ⟨(some 29), (Op.pick (Operand.tmp 26) (Operand.const (Value.bool true)) (Operand.tmp 28)), none⟩]
attribute [go_sem] r28_2
def k28_1 : PC := (.post (.reg r28_2) ⟨[1, 4, 7, 29], [.old 0, .old 1], []⟩)
def r28_6 : List PO := [⟨(some 35), (Op.binOp BinOp.lss 3 (Operand.tmp 34) (Operand.tmp 33) 3), none⟩]
attribute [go_sem] r28_6
def r28_7 : List PO := [⟨(some 36), (Op.indexAddr 47 (Operand.tmp 32) (Operand.tmp 34)), none⟩,
  ⟨(some 37), (Op.load 39 (Operand.tmp 36)), none⟩,
  ⟨(some 11), (Op.alloc 39), none⟩,
  ⟨none, (Op.store 39 (Operand.tmp 11) (Operand.tmp 37)), none⟩]
attribute [go_sem] r28_7
def r28_8 : List PO := [⟨(some 39), (Op.load 23 (Operand.tmp 7)), none⟩,
  ⟨(some 40), (Op.load 39 (Operand.tmp 11)), none⟩,
  ⟨(some 41), (Op.call { callee := (Callee.value (Operand.func 44)), args := #[(Operand.tmp 39), (Operand.tmp 40)], argTypes := #[23, 39] }), none⟩,
  ⟨(some 38), (Op.move (Operand.tmp 41)), none⟩,
  ⟨(some 42), (Op.extract (Operand.tmp 38) 0), none⟩,
  ⟨(some 43), (Op.extract (Operand.tmp 38) 1), none⟩,
  ⟨(some 12), (Op.alloc 23), none⟩,
  ⟨none, (Op.store 23 (Operand.tmp 12) (Operand.tmp 42)), none⟩,
  ⟨(some 13), (Op.assign (Operand.tmp 43)), none⟩]
attribute [go_sem] r28_8
def r28_9 : List PO := [⟨(some 44), (Op.load 23 (Operand.tmp 12)), none⟩,
  ⟨none, (Op.store 23 (Operand.tmp 7) (Operand.tmp 44)), none⟩]
attribute [go_sem] r28_9
def r28_10 : List PO := [⟨(some 45), (Op.move (Operand.tmp 9)), none⟩,
  ⟨(some 46), (Op.move (Operand.tmp 13)), none⟩,
  ⟨(some 47), (Op.call { callee := (Callee.builtin Builtin.append), args := #[(Operand.tmp 45), (Operand.tmp 46)], argTypes := #[36, 36] }), none⟩,
  ⟨(some 9), (Op.assign (Operand.tmp 47)), none⟩]
attribute [go_sem] r28_10
def r28_11 : List PO := [⟨(some 48), (Op.binOp BinOp.add 3 (Operand.tmp 34) (Operand.const (Value.int IntKind.i64 1)) 3), none⟩,
  ⟨(some 34), (Op.move (Operand.tmp 48)), none⟩]
attribute [go_sem] r28_11
def k28_2b : PC := (.seq (.reg r28_6) (.seq (.cond (Operand.tmp 35) .skip (.pre ⟨[4, 7, 9], [.old 0, .old 1, .old 2], []⟩ (.exit 0))) (.seq (.block 1 (.seq (.reg r28_7) (.seq (.reg r28_8) (.seq (.reg r28_9) (.reg r28_10))))) (.post (.reg r28_11) ⟨[4, 7, 9, 32, 33, 34], [.old 0, .old 1, .old 6], []⟩))))
def r28_0 : List PO := [⟨(some 4), (Op.alloc 23), none⟩,
  ⟨(some 5), (Op.assign (Operand.const (Value.slice none 0 0))), none⟩,
  ⟨(some 6), (Op.assign (Operand.const (Value.bool false))), none⟩]
attribute [go_sem] r28_0
def r28_1 : List PO := [⟨(some 15), (Op.move (Operand.tmp 0)), none⟩,
  ⟨(some 16), (Op.call { callee := (Callee.value (Operand.func 12)), args := #[(Operand.tmp 15)], argTypes := #[3] }), none⟩,
  ⟨(some 14), (Op.move (Operand.tmp 16)), none⟩,
  ⟨(some 17), (Op.extract (Operand.tmp 14) 0), none⟩,
  ⟨(some 18), (Op.extract (Operand.tmp 14) 1), none⟩,
  ⟨(some 7), (Op.alloc 23), none⟩,
  ⟨none, (Op.store 23 (Operand.tmp 7) (Operand.tmp 17)), none⟩,
  ⟨(some 8), (Op.assign (Operand.tmp 18)), none⟩]
attribute [go_sem] r28_1
def r28_3 : List PO := [⟨(some 30), (Op.build 23 #[]), none⟩,
  ⟨none, (Op.store 23 (Operand.tmp 4) (Operand.tmp 30)), none⟩,
  ⟨(some 5), (Op.assign (Operand.const (Value.slice none 0 0))), none⟩,
  ⟨(some 6), (Op.assign (Operand.const (Value.bool false))), none⟩]
attribute [go_sem] r28_3
def r28_4 : List PO := [⟨(some 31), (Op.buildSlice 36 0 #[]), none⟩,
  ⟨(some 9), (Op.assign (Operand.tmp 31)), none⟩]
attribute [go_sem] r28_4
def r28_5 : List PO := [⟨(some 32), (Op.move (Operand.tmp 1)), none⟩,
  ⟨(some 33), (Op.call { callee := (Callee.builtin Builtin.len), args := #[(Operand.tmp 32)], argTypes := #[47] }), none⟩,
  ⟨(some 34), (Op.move (Operand.const (Value.int IntKind.i64 0))), none⟩]
attribute [go_sem] r28_5
def r28_12 : List PO := [⟨(some 49), (Op.load 23 (Operand.tmp 7)), none⟩,
  ⟨(some 50), (Op.move (Operand.tmp 9)), none⟩,
  ⟨none, (Op.store 23 (Operand.tmp 4) (Operand.tmp 49)), none⟩,
  ⟨(some 5), (Op.assign (Operand.tmp 50)), none⟩,
  ⟨(some 6), (Op.assign (Operand.const (Value.bool true))), none⟩]
attribute [go_sem] r28_12
def c28 : PC := (.seq (.reg r28_0) (.seq (.reg r28_1) (.seq (.seq (.pre ⟨[1, 4, 7, 8], [.old 0, .old 1], []⟩ k28_1) (.cond (Operand.tmp 29) (.seq (.reg r28_3) .ret) .skip)) (.seq (.reg r28_4) (.seq (.seq (.reg r28_5) (.block 0 (.pre ⟨[4, 7, 9, 32, 33, 34], [.old 0, .old 1, .old 2], []⟩ (.loop k28_2b)))) (.seq (.reg r28_12) .ret))))))
def i28 : FnI := ⟨51, [(ResultVar.cell 4 23), (ResultVar.tmp 5), (ResultVar.tmp 6)], c28, 0, [[0], [2]], [[0, 0, 0, 0, 0], [1], [0]], false, false, 0⟩
-- loop.example/g00344/spec.l1In
def r39_1 : List PO := [⟨(some 7), (Op.move (Operand.tmp 0)), none⟩,
  ⟨(some 8), (Op.move (Operand.tmp 1)), none⟩,
  ⟨(some 9), (Op.binOp BinOp.geq 3 (Operand.tmp 7) (Operand.tmp 8) 3), none⟩,
  ⟨(some 10), (Op.move (Operand.tmp 9)), none⟩,
  ⟨(some 11), (Op.move (Operand.tmp 0)), (some (10, true))⟩,
  ⟨(some 12), (Op.move (Operand.tmp 2)), (some (10, true))⟩,
  ⟨(some 13), (Op.binOp BinOp.leq 3 (Operand.tmp 11) (Operand.tmp 12) 3), (some (10, true))⟩,
  ⟨(some 14), (Op.pick (Operand.tmp 10) (Operand.tmp 13) (Operand.const (Value.bool false))), none⟩,
  ⟨(some 6), (Op.assign (Operand.tmp 14)), none⟩]
attribute [go_sem] r39_1
def k39_1 : PC := (.post (.reg r39_1) ⟨[6], [], []⟩)
def r39_0 : List PO := [⟨(some 6), (Op.assign (Operand.const (Value.bool false))), none⟩]
attribute [go_sem] r39_0
def c39 : PC := (.seq (.reg r39_0) (.seq (.pre ⟨[0, 1, 2], [], []⟩ k39_1) .ret))
def i39 : FnI := ⟨15, [(ResultVar.tmp 6)], c39, 0, [[0], [0], [0]], [[0]], false, false, 0⟩
-- loop.example/g00344/spec.NewSession
def r11_0 : List PO := [⟨(some 2), (Op.alloc 23), none⟩,
  ⟨(some 3), (Op.assign (Operand.const (Value.bool false))), none⟩]
attribute [go_sem] r11_0
def r11_1 : List PO := [⟨(some 4), (Op.move (Operand.tmp 0)), none⟩,
  ⟨(some 5), (Op.call { callee := (Callee.value (Operand.func 39)), args := #[(Operand.tmp 4), (Operand.const (Value.int IntKind.i64 3)), (Operand.const (Value.int IntKind.i64 90))], argTypes := #[3, 3, 3] }), none⟩,
  ⟨(some 6), (Op.unOp UnOp.not 4 (Operand.tmp 5)), none⟩]
attribute [go_sem] r11_1
def r11_2 : List PO := [⟨(some 7), (Op.build 23 #[]), none⟩,
  ⟨none, (Op.store 23 (Operand.tmp 2) (Operand.tmp 7)), none⟩,
  ⟨(some 3), (Op.assign (Operand.const (Value.bool false))), none⟩]
attribute [go_sem] r11_2
def r11_3 : List PO := [⟨(some 8), (Op.move (Operand.tmp 0)), none⟩,
  ⟨(some 9), (Op.build 23 #[(1, (Operand.tmp 8))]), none⟩,
  ⟨none, (Op.store 23 (Operand.tmp 2) (Operand.tmp 9)), none⟩,
  ⟨(some 3), (Op.assign (Operand.const (Value.bool true))), none⟩]
attribute [go_sem] r11_3
def c11 : PC := (.seq (.reg r11_0) (.seq (.seq (.reg r11_1) (.cond (Operand.tmp 6) (.seq (.reg r11_2) .ret) .skip)) (.seq (.reg r11_3) .ret)))
def i11 : FnI := ⟨10, [(ResultVar.cell 2 23), (ResultVar.tmp 3)], c11, 0, [[0]], [[0, 0, 0, 0, 0], [0]], false, false, 0⟩
-- loop.example/g00344/spec.l12Event
def r41_3 : List PO := [⟨(some 9), (Op.fieldAddr 39 (Operand.tmp 1) 0), none⟩,
  ⟨(some 10), (Op.load 3 (Operand.tmp 9)), none⟩,
  ⟨(some 11), (Op.call { callee := (Callee.value (Operand.func 39)), args := #[(Operand.tmp 10), (Operand.const (Value.int IntKind.i64 1)), (Operand.const (Value.int IntKind.i64 10))], argTypes := #[3, 3, 3] }), none⟩,
  ⟨(some 12), (Op.move (Operand.tmp 11)), none⟩,
  ⟨(some 13), (Op.fieldAddr 39 (Operand.tmp 1) 1), (some (12, true))⟩,
  ⟨(some 14), (Op.load 3 (Operand.tmp 13)), (some (12, true))⟩,
  ⟨(some 15), (Op.binOp BinOp.eql 3 (Operand.tmp 14) (Operand.const (Value.int IntKind.i64 0)) 3), (some (12, true))⟩,
  ⟨(some 16), (Op.pick (Operand.tmp 12) (Operand.tmp 15) (Operand.const (Value.bool false))), none⟩,
  ⟨(some 2), (Op.assign (Operand.tmp 16)), none⟩]
attribute [go_sem] r41_3
def k41_1 : PC := (.post (.reg r41_3) ⟨[2], [], []⟩)
def r41_0 : List PO := [⟨(some 1), (Op.box 39 (Operand.tmp 0)), none⟩,
  ⟨(some 2), (Op.assign (Operand.const (Value.bool false))), none⟩]
attribute [go_sem] r41_0
def r41_1 : List PO := [⟨(some 3), (Op.fieldAddr 39 (Operand.tmp 1) 0), none⟩,
  ⟨(some 4), (Op.load 3 (Operand.tmp 3)), none⟩,
  ⟨(some 5), (Op.binOp BinOp.eql 3 (Operand.tmp 4) (Operand.const (Value.int IntKind.i64 5)) 3), none⟩]
attribute [go_sem] r41_1
def r41_2 : List PO := [⟨(some 6), (Op.fieldAddr 39 (Operand.tmp 1) 1), none⟩,
  ⟨(some 7), (Op.load 3 (Operand.tmp 6)), none⟩,
  ⟨(some 8), (Op.call { callee := (Callee.value (Operand.func 39)), args := #[(Operand.tmp 7), (Operand.const (Value.int IntKind.i64 0)), (Operand.const (Value.int IntKind.i64 100))], argTypes := #[3, 3, 3] }), none⟩,
  ⟨(some 2), (Op.assign (Operand.tmp 8)), none⟩]
attribute [go_sem] r41_2
def c41 : PC := (.seq (.reg r41_0) (.seq (.seq (.reg r41_1) (.cond (Operand.tmp 5) (.seq (.reg r41_2) .ret) .skip)) (.seq (.pre ⟨[1], [.old 0], []⟩ k41_1) .ret)))
def i41 : FnI := ⟨17, [(ResultVar.tmp 2)], c41, 0, [[0, 0]], [[0]], false, false, 0⟩
-- loop.example/g00344/spec.l12To
def r60_0 : List PO := [⟨(some 2), (Op.box 23 (Operand.tmp 0)), none⟩,
  ⟨(some 4), (Op.alloc 23), none⟩]
attribute [go_sem] r60_0
def r60_1 : List PO := [⟨(some 5), (Op.move (Operand.tmp 1)), none⟩,
  ⟨(some 6), (Op.fieldAddr 23 (Operand.tmp 2) 0), none⟩,
  ⟨none, (Op.store 3 (Operand.tmp 6) (Operand.tmp 5)), none⟩]
attribute [go_sem] r60_1
def r60_2 : List PO := [⟨(some 7), (Op.fieldAddr 23 (Operand.tmp 2) 2), none⟩,
  ⟨none, (Op.store 3 (Operand.tmp 7) (Operand.const (Value.int IntKind.i64 0))), none⟩]
attribute [go_sem] r60_2
def r60_3 : List PO := [⟨(some 8), (Op.fieldAddr 23 (Operand.tmp 2) 3), none⟩,
  ⟨none, (Op.store 3 (Operand.tmp 8) (Operand.const (Value.int IntKind.i64 0))), none⟩]
attribute [go_sem] r60_3
def r60_4 : List PO := [⟨(some 9), (Op.load 23 (Operand.tmp 2)), none⟩,
  ⟨none, (Op.store 23 (Operand.tmp 4) (Operand.tmp 9)), none⟩]
attribute [go_sem] r60_4
def c60 : PC := (.seq (.reg r60_0) (.seq (.reg r60_1) (.seq (.reg r60_2) (.seq (.reg r60_3) (.seq (.reg r60_4) .ret)))))
def i60 : FnI := ⟨10, [(ResultVar.cell 4 23)], c60, 0, [[0, 0, 0, 0, 0], [0]], [[0, 0, 0, 0, 0]], false, false, 0⟩
-- loop.example/g00344/spec.l12Tick
def r49_0 : List PO := [⟨(some 1), (Op.box 23 (Operand.tmp 0)), none⟩,
  ⟨(some 2), (Op.alloc 23), none⟩,
  ⟨(some 3), (Op.assign (Operand.const (Value.slice none 0 0))), none⟩]
attribute [go_sem] r49_0
def r49_1 : List PO := [⟨(some 4), (Op.fieldAddr 23 (Operand.tmp 1) 0), none⟩,
  ⟨(some 5), (Op.load 3 (Operand.tmp 4)), none⟩,
  ⟨(some 6), (Op.binOp BinOp.lss 3 (Operand.tmp 5) (Operand.const (Value.int IntKind.i64 2)) 3), none⟩]
attribute [go_sem] r49_1
def r49_2 : List PO := [⟨(some 7), (Op.load 23 (Operand.tmp 1)), none⟩,
  ⟨none, (Op.store 23 (Operand.tmp 2) (Operand.tmp 7)), none⟩,
  ⟨(some 3), (Op.assign (Operand.const (Value.slice none 0 0))), none⟩]
attribute [go_sem] r49_2
def r49_3 : List PO := [⟨(some 8), (Op.fieldAddr 23 (Operand.tmp 1) 2), none⟩,
  ⟨(some 9), (Op.load 3 (Operand.tmp 8)), none⟩,
  ⟨(some 10), (Op.binOp BinOp.sub 3 (Operand.tmp 9) (Operand.const (Value.int IntKind.i64 1)) 3), none⟩,
  ⟨(some 11), (Op.fieldAddr 23 (Operand.tmp 1) 2), none⟩,
  ⟨none, (Op.store 3 (Operand.tmp 11) (Operand.tmp 10)), none⟩]
attribute [go_sem] r49_3
def r49_4 : List PO := [⟨(some 12), (Op.fieldAddr 23 (Operand.tmp 1) 2), none⟩,
  ⟨(some 13), (Op.load 3 (Operand.tmp 12)), none⟩,
  ⟨(some 14), (Op.binOp BinOp.eql 3 (Operand.tmp 13) (Operand.const (Value.int IntKind.i64 0)) 3), none⟩]
attribute [go_sem] r49_4
def r49_5 : List PO := [⟨(some 15), (Op.load 23 (Operand.tmp 1)), none⟩,
  ⟨(some 16), (Op.call { callee := (Callee.value (Operand.func 60)), args := #[(Operand.tmp 15), (Operand.const (Value.int IntKind.i64 0))], argTypes := #[23, 3] }), none⟩,
  ⟨(some 17), (Op.buildSlice 36 1 #[(0, (Operand.const (Value.int IntKind.i64 3)))]), none⟩,
  ⟨none, (Op.store 23 (Operand.tmp 2) (Operand.tmp 16)), none⟩,
  ⟨(some 3), (Op.assign (Operand.tmp 17)), none⟩]
attribute [go_sem] r49_5
def r49_6 : List PO := [⟨(some 18), (Op.fieldAddr 23 (Operand.tmp 1) 0), none⟩,
  ⟨(some 19), (Op.load 3 (Operand.tmp 18)), none⟩,
  ⟨(some 20), (Op.binOp BinOp.eql 3 (Operand.tmp 19) (Operand.const (Value.int IntKind.i64 2)) 3), none⟩]
attribute [go_sem] r49_6
def r49_7 : List PO := [⟨(some 21), (Op.load 23 (Operand.tmp 1)), none⟩,
  ⟨none, (Op.store 23 (Operand.tmp 2) (Operand.tmp 21)), none⟩,
  ⟨(some 3), (Op.assign (Operand.const (Value.slice none 0 0))), none⟩]
attribute [go_sem] r49_7
def r49_8 : List PO := [⟨(some 22), (Op.fieldAddr 23 (Operand.tmp 1) 3), none⟩,
  ⟨(some 23), (Op.load 3 (Operand.tmp 22)), none⟩,
  ⟨(some 24), (Op.binOp BinOp.sub 3 (Operand.tmp 23) (Operand.const (Value.int IntKind.i64 1)) 3), none⟩,
  ⟨(some 25), (Op.fieldAddr 23 (Operand.tmp 1) 3), none⟩,
  ⟨none, (Op.store 3 (Operand.tmp 25) (Operand.tmp 24)), none⟩]
attribute [go_sem] r49_8
def r49_9 : List PO := [⟨(some 26), (Op.fieldAddr 23 (Operand.tmp 1) 3), none⟩,
  ⟨(some 27), (Op.load 3 (Operand.tmp 26)), none⟩,
  ⟨(some 28), (Op.binOp BinOp.eql 3 (Operand.tmp 27) (Operand.const (Value.int IntKind.i64 0)) 3), none⟩]
attribute [go_sem] r49_9
def r49_10 : List PO := [⟨(some 29), (Op.fieldAddr 23 (Operand.tmp 1) 1), none⟩,
  ⟨(some 30), (Op.load 3 (Operand.tmp 29)), none⟩,
  ⟨(some 31), (Op.binOp BinOp.quo 3 (Operand.tmp 30) (Operand.const (Value.int IntKind.i64 3)) 3), none⟩,
  ⟨(some 32), (Op.fieldAddr 23 (Operand.tmp 1) 3), none⟩,
  ⟨none, (Op.store 3 (Operand.tmp 32) (Operand.tmp 31)), none⟩]
attribute [go_sem] r49_10
def r49_11 : List PO := [⟨(some 33), (Op.load 23 (Operand.tmp 1)), none⟩,
  ⟨(some 34), (Op.buildSlice 36 1 #[(0, (Operand.const (Value.int IntKind.i64 4)))]), none⟩,
  ⟨none, (Op.store 23 (Operand.tmp 2) (Operand.tmp 33)), none⟩,
  ⟨(some 3), (Op.assign (Operand.tmp 34)), none⟩]
attribute [go_sem] r49_11
def r49_12 : List PO := [⟨(some 35), (Op.load 23 (Operand.tmp 1)), none⟩,
  ⟨none, (Op.store 23 (Operand.tmp 2) (Operand.tmp 35)), none⟩,
  ⟨(some 3), (Op.assign (Operand.const (Value.slice none 0 0))), none⟩]
attribute [go_sem] r49_12
def c49 : PC := (.seq (.reg r49_0) (.seq (.seq (.reg r49_1) (.cond (Operand.tmp 6) (.seq (.reg r49_2) .ret) .skip)) (.seq (.reg r49_3) (.seq (.seq (.reg r49_4) (.cond (Operand.tmp 14) (.seq (.reg r49_5) .ret) .skip)) (.seq (.seq (.reg r49_6) (.cond (Operand.tmp 20) (.seq (.reg r49_7) .ret) .skip)) (.seq (.reg r49_8) (.seq (.seq (.reg r49_9) (.cond (Operand.tmp 28) (.seq (.reg r49_10) (.seq (.reg r49_11) .ret)) .skip)) (.seq (.reg r49_12) .ret))))))))
def i49 : FnI := ⟨36, [(ResultVar.cell 2 23), (ResultVar.tmp 3)], c49, 0, [[0, 0, 0, 0, 0]], [[0, 0, 0, 0, 0], [1]], false, false, 0⟩
-- loop.example/g00344/spec.l12Step
def r42_4 : List PO := [⟨(some 19), (Op.fieldAddr 39 (Operand.tmp 3) 0), none⟩,
  ⟨(some 20), (Op.load 3 (Operand.tmp 19)), none⟩,
  ⟨(some 21), (Op.binOp BinOp.eql 3 (Operand.tmp 20) (Operand.const (Value.int IntKind.i64 1)) 3), none⟩,
  ⟨(some 22), (Op.move (Operand.tmp 21)), none⟩,
  ⟨(some 23), (Op.fieldAddr 23 (Operand.tmp 2) 0), (some (22, true))⟩,
  ⟨(some 24), (Op.load 3 (Operand.tmp 23)), (some (22, true))⟩,
  ⟨(some 25), (Op.binOp BinOp.eql 3 (Operand.tmp 24) (Operand.const (Value.int IntKind.i64 0)) 3), (some (22, true))⟩,
  ⟨(some 26), (Op.pick (Operand.tmp 22) (Operand.tmp 25) (Operand.const (Value.bool false))), none⟩,
  ⟨(some 18), (Op.assign (Operand.tmp 26)), none⟩]
attribute [go_sem] r42_4
def k42_1 : PC := (.post (.reg r42_4) ⟨[2, 3, 4, 6, 18], [.old 0, .old 1, .old 2], []⟩)
def r42_6 : List PO := [⟨(some 30), (Op.fieldAddr 39 (Operand.tmp 3) 0), none⟩,
  ⟨(some 31), (Op.load 3 (Operand.tmp 30)), none⟩,
  ⟨(some 32), (Op.binOp BinOp.eql 3 (Operand.tmp 31) (Operand.const (Value.int IntKind.i64 3)) 3), none⟩,
  ⟨(some 33), (Op.move (Operand.tmp 32)), none⟩,
  ⟨(some 34), (Op.fieldAddr 23 (Operand.tmp 2) 0), (some (33, true))⟩,
  ⟨(some 35), (Op.load 3 (Operand.tmp 34)), (some (33, true))⟩,
  ⟨(some 36), (Op.binOp BinOp.eql 3 (Operand.tmp 35) (Operand.const (Value.int IntKind.i64 1)) 3), (some (33, true))⟩,
  ⟨(some 37), (Op.pick (Operand.tmp 33) (Operand.tmp 36) (Operand.const (Value.bool false))), none⟩,
  ⟨(some 29), (Op.assign (Operand.tmp 37)), none⟩]
attribute [go_sem] r42_6
def k42_2 : PC := (.post (.reg r42_6) ⟨[2, 3, 4, 6, 29], [.old 0, .old 1, .old 2], []⟩)
def r42_10 : List PO := [⟨(some 44), (Op.fieldAddr 39 (Operand.tmp 3) 0), none⟩,
  ⟨(some 45), (Op.load 3 (Operand.tmp 44)), none⟩,
  ⟨(some 46), (Op.binOp BinOp.eql 3 (Operand.tmp 45) (Operand.const (Value.int IntKind.i64 4)) 3), none⟩,
  ⟨(some 47), (Op.move (Operand.tmp 46)), none⟩,
  ⟨(some 48), (Op.move (Operand.tmp 6)), (some (47, true))⟩,
  ⟨(some 49), (Op.pick (Operand.tmp 47) (Operand.tmp 48) (Operand.const (Value.bool false))), none⟩,
  ⟨(some 43), (Op.assign (Operand.tmp 49)), none⟩]
attribute [go_sem] r42_10
def k42_3 : PC := (.post (.reg r42_10) ⟨[2, 3, 4, 6, 43], [.old 0, .old 1, .old 2], []⟩)
def r42_12 : List PO := [⟨(some 53), (Op.fieldAddr 39 (Operand.tmp 3) 0), none⟩,
  ⟨(some 54), (Op.load 3 (Operand.tmp 53)), none⟩,
  ⟨(some 55), (Op.binOp BinOp.eql 3 (Operand.tmp 54) (Operand.const (Value.int IntKind.i64 9)) 3), none⟩,
  ⟨(some 56), (Op.move (Operand.tmp 55)), none⟩,
  ⟨(some 57), (Op.move (Operand.tmp 6)), (some (56, true))⟩,
  ⟨(some 58), (Op.pick (Operand.tmp 56) (Operand.tmp 57) (Operand.const (Value.bool false))), none⟩,
  ⟨(some 52), (Op.assign (Operand.tmp 58)), none⟩]
attribute [go_sem] r42_12
def k42_4 : PC := (.post (.reg r42_12) ⟨[2, 3, 4, 6, 52], [.old 0, .old 1, .old 2], []⟩)
def r42_14 : List PO := [⟨(some 62), (Op.fieldAddr 39 (Operand.tmp 3) 0), none⟩,
  ⟨(some 63), (Op.load 3 (Operand.tmp 62)), none⟩,
  ⟨(some 64), (Op.binOp BinOp.eql 3 (Operand.tmp 63) (Operand.const (Value.int IntKind.i64 2)) 3), none⟩,
  ⟨(some 65), (Op.move (Operand.tmp 64)), none⟩,
  ⟨(some 66), (Op.move (Operand.tmp 6)), (some (65, true))⟩,
  ⟨(some 67), (Op.unOp UnOp.not 4 (Operand.tmp 66)), (some (65, true))⟩,
  ⟨(some 68), (Op.pick (Operand.tmp 65) (Operand.tmp 67) (Operand.const (Value.bool false))), none⟩,
  ⟨(some 61), (Op.assign (Operand.tmp 68)), none⟩]
attribute [go_sem] r42_14
def k42_5 : PC := (.post (.reg r42_14) ⟨[2, 3, 4, 6, 61], [.old 0, .old 1, .old 2], []⟩)
def r42_18 : List PO := [⟨(some 76), (Op.fieldAddr 39 (Operand.tmp 3) 0), none⟩,
  ⟨(some 77), (Op.load 3 (Operand.tmp 76)), none⟩,
  ⟨(some 78), (Op.binOp BinOp.eql 3 (Operand.tmp 77) (Operand.const (Value.int IntKind.i64 5)) 3), none⟩,
  ⟨(some 79), (Op.move (Operand.tmp 78)), none⟩,
  ⟨(some 80), (Op.fieldAddr 23 (Operand.tmp 2) 0), (some (79, true))⟩,
  ⟨(some 81), (Op.load 3 (Operand.tmp 80)), (some (79, true))⟩,
  ⟨(some 82), (Op.binOp BinOp.eql 3 (Operand.tmp 81) (Operand.const (Value.int IntKind.i64 2)) 3), (some (79, true))⟩,
  ⟨(some 83), (Op.pick (Operand.tmp 79) (Operand.tmp 82) (Operand.const (Value.bool false))), none⟩,
  ⟨(some 84), (Op.move (Operand.tmp 83)), none⟩,
  ⟨(some 85), (Op.fieldAddr 39 (Operand.tmp 3) 1), (some (84, true))⟩,
  ⟨(some 86), (Op.load 3 (Operand.tmp 85)), (some (84, true))⟩,
  ⟨(some 87), (Op.binOp BinOp.geq 3 (Operand.tmp 86) (Operand.const (Value.int IntKind.i64 3)) 3), (some (84, true))⟩,
  ⟨(some 88), (Op.pick (Operand.tmp 84) (Operand.tmp 87) (Operand.const (Value.bool false))), none⟩,
  ⟨(some 75), (Op.assign (Operand.tmp 88)), none⟩]
attribute [go_sem] r42_18
def k42_6 : PC := (.post (.reg r42_18) ⟨[2, 3, 4, 75], [.old 0, .old 1, .old 2], []⟩)
def r42_21 : List PO := [⟨(some 95), (Op.fieldAddr 39 (Operand.tmp 3) 1), none⟩,
  ⟨(some 96), (Op.load 3 (Operand.tmp 95)), none⟩,
  ⟨(some 97), (Op.fieldAddr 23 (Operand.tmp 2) 1), none⟩,
  ⟨none, (Op.store 3 (Operand.tmp 97) (Operand.tmp 96)), none⟩]
attribute [go_sem] r42_21
def k42_7 : PC := (.cond (Operand.tmp 94) (.post (.reg r42_21) ⟨[2, 4], [.old 0, .old 2], []⟩) (.post .skip ⟨[2, 4], [.old 0, .old 2], []⟩))
def r42_25 : List PO := [⟨(some 108), (Op.fieldAddr 39 (Operand.tmp 3) 0), none⟩,
  ⟨(some 109), (Op.load 3 (Operand.tmp 108)), none⟩,
  ⟨(some 110), (Op.binOp BinOp.eql 3 (Operand.tmp 109) (Operand.const (Value.int IntKind.i64 7)) 3), none⟩,
  ⟨(some 111), (Op.move (Operand.tmp 110)), none⟩,
  ⟨(some 112), (Op.fieldAddr 23 (Operand.tmp 2) 0), (some (111, true))⟩,
  ⟨(some 113), (Op.load 3 (Operand.tmp 112)), (some (111, true))⟩,
  ⟨(some 114), (Op.binOp BinOp.geq 3 (Operand.tmp 113) (Operand.const (Value.int IntKind.i64 3)) 3), (some (111, true))⟩,
  ⟨(some 115), (Op.pick (Operand.tmp 111) (Operand.tmp 114) (Operand.const (Value.bool false))), none⟩,
  ⟨(some 107), (Op.assign (Operand.tmp 115)), none⟩]
attribute [go_sem] r42_25
def k42_8 : PC := (.post (.reg r42_25) ⟨[2, 3, 4, 107], [.old 0, .old 1, .old 2], []⟩)
def r42_26 : List PO := [⟨(some 116), (Op.fieldAddr 39 (Operand.tmp 3) 0), none⟩,
  ⟨(some 117), (Op.load 3 (Operand.tmp 116)), none⟩,
  ⟨(some 118), (Op.binOp BinOp.eql 3 (Operand.tmp 117) (Operand.const (Value.int IntKind.i64 8)) 3), none⟩,
  ⟨(some 119), (Op.move (Operand.tmp 118)), none⟩,
  ⟨(some 120), (Op.fieldAddr 23 (Operand.tmp 2) 0), (some (119, true))⟩,
  ⟨(some 121), (Op.load 3 (Operand.tmp 120)), (some (119, true))⟩,
  ⟨(some 122), (Op.binOp BinOp.eql 3 (Operand.tmp 121) (Operand.const (Value.int IntKind.i64 4)) 3), (some (119, true))⟩,
  ⟨(some 123), (Op.pick (Operand.tmp 119) (Operand.tmp 122) (Operand.const (Value.bool false))), none⟩,
  ⟨(some 107), (Op.assign (Operand.tmp 123)), none⟩]
attribute [go_sem] r42_26
def k42_10 : PC := (.post (.reg r42_26) ⟨[2, 4, 107], [.old 0, .old 2], []⟩)
def k42_9 : PC := (.cond (Operand.tmp 107) (.post .skip ⟨[2, 4, 107], [.old 0, .old 2], []⟩) (.post (.pre ⟨[2, 3, 4], [.old 0, .old 1, .old 2], []⟩ k42_10) ⟨[2, 4, 107], [.old 0, .old 1], []⟩))
def r42_27 : List PO := [⟨(some 124), (Op.fieldAddr 23 (Operand.tmp 2) 0), none⟩,
  ⟨(some 125), (Op.load 3 (Operand.tmp 124)), none⟩,
  ⟨(some 126), (Op.binOp BinOp.eql 3 (Operand.tmp 125) (Operand.const (Value.int IntKind.i64 3)) 3), none⟩,
  ⟨(some 127), (Op.move (Operand.tmp 126)), none⟩,
  ⟨(some 128), (Op.fieldAddr 23 (Operand.tmp 2) 4), (some (127, true))⟩,
  ⟨(some 129), (Op.load 3 (Operand.tmp 128)), (some (127, true))⟩,
  ⟨(some 130), (Op.binOp BinOp.lss 3 (Operand.tmp 129) (Operand.const (Value.int IntKind.i64 1000)) 3), (some (127, true))⟩,
  ⟨(some 131), (Op.pick (Operand.tmp 127) (Operand.tmp 130) (Operand.const (Value.bool false))), none⟩]
attribute [go_sem] r42_27
def k42_11 : PC := (.post (.reg r42_27) ⟨[2, 4, 131], [.old 0, .old 1], []⟩)
def r42_28 : List PO := [⟨(some 132), (Op.fieldAddr 23 (Operand.tmp 2) 4), none⟩,
  ⟨(some 133), (Op.load 3 (Operand.tmp 132)), none⟩,
  ⟨(some 134), (Op.binOp BinOp.add 3 (Operand.tmp 133) (Operand.const (Value.int IntKind.i64 1)) 3), none⟩,
  ⟨(some 135), (Op.fieldAddr 23 (Operand.tmp 2) 4), none⟩,
  ⟨none, (Op.store 3 (Operand.tmp 135) (Operand.tmp 134)), none⟩]
attribute [go_sem] r42_28
def k42_12 : PC := (.cond (Operand.tmp 131) (.post (.reg r42_28) ⟨[2, 4], [.old 0, .old 1], []⟩) (.post .skip ⟨[2, 4], [.old 0, .old 1], []⟩))
def r42_0 : List PO := [⟨(some 2), (Op.box 23 (Operand.tmp 0)), none⟩,
  ⟨(some 3), (Op.box 39 (Operand.tmp 1)), none⟩,
  ⟨(some 4), (Op.alloc 23), none⟩,
  ⟨(some 5), (Op.assign (Operand.const (Value.slice none 0 0))), none⟩]
attribute [go_sem] r42_0
def r42_1 : List PO := [⟨(some 7), (Op.fieldAddr 23 (Operand.tmp 2) 0), none⟩,
  ⟨(some 8), (Op.load 3 (Operand.tmp 7)), none⟩,
  ⟨(some 9), (Op.binOp BinOp.geq 3 (Operand.tmp 8) (Operand.const (Value.int IntKind.i64 2)) 3), none⟩,
  ⟨(some 6), (Op.assign (Operand.tmp 9)), none⟩]
attribute [go_sem] r42_1
def r42_2 : List PO := [⟨(some 11), (Op.fieldAddr 39 (Operand.tmp 3) 0), none⟩,
  ⟨(some 12), (Op.load 3 (Operand.tmp 11)), none⟩,
  ⟨(some 13), (Op.binOp BinOp.eql 3 (Operand.tmp 12) (Operand.const (Value.int IntKind.i64 10)) 3), none⟩,
  ⟨(some 10), (Op.assign (Operand.tmp 13)), none⟩]
attribute [go_sem] r42_2
def r42_3 : List PO := [⟨(some 14), (Op.load 23 (Operand.tmp 2)), none⟩,
  ⟨(some 15), (Op.call { callee := (Callee.value (Operand.func 49)), args := #[(Operand.tmp 14)], argTypes := #[23] }), none⟩,
  ⟨(some 16), (Op.extract (Operand.tmp 15) 0), none⟩,
  ⟨(some 17), (Op.extract (Operand.tmp 15) 1), none⟩,
  ⟨none, (Op.store 23 (Operand.tmp 4) (Operand.tmp 16)), none⟩,
  ⟨(some 5), (Op.assign (Operand.tmp 17)), none⟩]
attribute [go_sem] r42_3
def r42_5 : List PO := [⟨(some 27), (Op.load 23 (Operand.tmp 2)), none⟩,
  ⟨(some 28), (Op.call { callee := (Callee.value (Operand.func 60)), args := #[(Operand.tmp 27), (Operand.const (Value.int IntKind.i64 1))], argTypes := #[23, 3] }), none⟩,
  ⟨none, (Op.store 23 (Operand.tmp 4) (Operand.tmp 28)), none⟩,
  ⟨(some 5), (Op.assign (Operand.const (Value.slice none 0 0))), none⟩]
attribute [go_sem] r42_5
def r42_7 : List PO := [⟨(some 38), (Op.load 23 (Operand.tmp 2)), none⟩,
  ⟨(some 39), (Op.call { callee := (Callee.value (Operand.func 60)), args := #[(Operand.tmp 38), (Operand.const (Value.int IntKind.i64 2))], argTypes := #[23, 3] }), none⟩,
  ⟨none, (Op.store 23 (Operand.tmp 2) (Operand.tmp 39)), none⟩]
attribute [go_sem] r42_7
def r42_8 : List PO := [⟨(some 40), (Op.fieldAddr 23 (Operand.tmp 2) 2), none⟩,
  ⟨none, (Op.store 3 (Operand.tmp 40) (Operand.const (Value.int IntKind.i64 90))), none⟩]
attribute [go_sem] r42_8
def r42_9 : List PO := [⟨(some 41), (Op.load 23 (Operand.tmp 2)), none⟩,
  ⟨(some 42), (Op.buildSlice 36 1 #[(0, (Operand.const (Value.int IntKind.i64 1)))]), none⟩,
  ⟨none, (Op.store 23 (Operand.tmp 4) (Operand.tmp 41)), none⟩,
  ⟨(some 5), (Op.assign (Operand.tmp 42)), none⟩]
attribute [go_sem] r42_9
def r42_11 : List PO := [⟨(some 50), (Op.load 23 (Operand.tmp 2)), none⟩,
  ⟨(some 51), (Op.call { callee := (Callee.value (Operand.func 60)), args := #[(Operand.tmp 50), (Operand.const (Value.int IntKind.i64 1))], argTypes := #[23, 3] }), none⟩,
  ⟨none, (Op.store 23 (Operand.tmp 4) (Operand.tmp 51)), none⟩,
  ⟨(some 5), (Op.assign (Operand.const (Value.slice none 0 0))), none⟩]
attribute [go_sem] r42_11
def r42_13 : List PO := [⟨(some 59), (Op.load 23 (Operand.tmp 2)), none⟩,
  ⟨(some 60), (Op.call { callee := (Callee.value (Operand.func 60)), args := #[(Operand.tmp 59), (Operand.const (Value.int IntKind.i64 0))], argTypes := #[23, 3] }), none⟩,
  ⟨none, (Op.store 23 (Operand.tmp 4) (Operand.tmp 60)), none⟩,
  ⟨(some 5), (Op.assign (Operand.const (Value.slice none 0 0))), none⟩]
attribute [go_sem] r42_13
def r42_15 : List PO := [⟨(some 69), (Op.load 23 (Operand.tmp 2)), none⟩,
  ⟨(some 70), (Op.call { callee := (Callee.value (Operand.func 60)), args := #[(Operand.tmp 69), (Operand.const (Value.int IntKind.i64 0))], argTypes := #[23, 3] }), none⟩,
  ⟨none, (Op.store 23 (Operand.tmp 4) (Operand.tmp 70)), none⟩,
  ⟨(some 5), (Op.assign (Operand.const (Value.slice none 0 0))), none⟩]
attribute [go_sem] r42_15
def r42_16 : List PO := [⟨(some 72), (Op.move (Operand.tmp 6)), none⟩,
  ⟨(some 73), (Op.unOp UnOp.not 4 (Operand.tmp 72)), none⟩,
  ⟨(some 71), (Op.assign (Operand.tmp 73)), none⟩]
attribute [go_sem] r42_16
def r42_17 : List PO := [⟨(some 74), (Op.load 23 (Operand.tmp 2)), none⟩,
  ⟨none, (Op.store 23 (Operand.tmp 4) (Operand.tmp 74)), none⟩,
  ⟨(some 5), (Op.assign (Operand.const (Value.slice none 0 0))), none⟩]
attribute [go_sem] r42_17
def r42_19 : List PO := [⟨(some 89), (Op.fieldAddr 23 (Operand.tmp 2) 0), none⟩,
  ⟨none, (Op.store 3 (Operand.tmp 89) (Operand.const (Value.int IntKind.i64 3))), none⟩]
attribute [go_sem] r42_19
def r42_20 : List PO := [⟨(some 90), (Op.fieldAddr 39 (Operand.tmp 3) 1), none⟩,
  ⟨(some 91), (Op.load 3 (Operand.tmp 90)), none⟩,
  ⟨(some 92), (Op.fieldAddr 23 (Operand.tmp 2) 1), none⟩,
  ⟨(some 93), (Op.load 3 (Operand.tmp 92)), none⟩,
  ⟨(some 94), (Op.binOp BinOp.lss 3 (Operand.tmp 91) (Operand.tmp 93) 3), none⟩]
attribute [go_sem] r42_20
def r42_22 : List PO := [⟨(some 98), (Op.fieldAddr 23 (Operand.tmp 2) 1), none⟩,
  ⟨(some 99), (Op.load 3 (Operand.tmp 98)), none⟩,
  ⟨(some 100), (Op.fieldAddr 23 (Operand.tmp 2) 2), none⟩,
  ⟨none, (Op.store 3 (Operand.tmp 100) (Operand.tmp 99)), none⟩]
attribute [go_sem] r42_22
def r42_23 : List PO := [⟨(some 101), (Op.fieldAddr 23 (Operand.tmp 2) 1), none⟩,
  ⟨(some 102), (Op.load 3 (Operand.tmp 101)), none⟩,
  ⟨(some 103), (Op.binOp BinOp.quo 3 (Operand.tmp 102) (Operand.const (Value.int IntKind.i64 3)) 3), none⟩,
  ⟨(some 104), (Op.fieldAddr 23 (Operand.tmp 2) 3), none⟩,
  ⟨none, (Op.store 3 (Operand.tmp 104) (Operand.tmp 103)), none⟩]
attribute [go_sem] r42_23
def r42_24 : List PO := [⟨(some 105), (Op.load 23 (Operand.tmp 2)), none⟩,
  ⟨(some 106), (Op.buildSlice 36 1 #[(0, (Operand.const (Value.int IntKind.i64 4)))]), none⟩,
  ⟨none, (Op.store 23 (Operand.tmp 4) (Operand.tmp 105)), none⟩,
  ⟨(some 5), (Op.assign (Operand.tmp 106)), none⟩]
attribute [go_sem] r42_24
def r42_29 : List PO := [⟨(some 136), (Op.fieldAddr 23 (Operand.tmp 2) 0), none⟩,
  ⟨none, (Op.store 3 (Operand.tmp 136) (Operand.const (Value.int IntKind.i64 4))), none⟩]
attribute [go_sem] r42_29
def r42_30 : List PO := [⟨(some 137), (Op.fieldAddr 23 (Operand.tmp 2) 1), none⟩,
  ⟨(some 138), (Op.load 3 (Operand.tmp 137)), none⟩,
  ⟨(some 139), (Op.fieldAddr 23 (Operand.tmp 2) 2), none⟩,
  ⟨none, (Op.store 3 (Operand.tmp 139) (Operand.tmp 138)), none⟩]
attribute [go_sem] r42_30
def r42_31 : List PO := [⟨(some 140), (Op.load 23 (Operand.tmp 2)), none⟩,
  ⟨none, (Op.store 23 (Operand.tmp 4) (Operand.tmp 140)), none⟩,
  ⟨(some 5), (Op.assign (Operand.const (Value.slice none 0 0))), none⟩]
attribute [go_sem] r42_31
def r42_32 : List PO := [⟨(some 141), (Op.load 23 (Operand.tmp 2)), none⟩,
  ⟨(some 142), (Op.call { callee := (Callee.value (Operand.func 60)), args := #[(Operand.tmp 141), (Operand.const (Value.int IntKind.i64 0))], argTypes := #[23, 3] }), none⟩,
  ⟨(some 143), (Op.buildSlice 36 1 #[(0, (Operand.const (Value.int IntKind.i64 3)))]), none⟩,
  ⟨none, (Op.store 23 (Operand.tmp 4) (Operand.tmp 142)), none⟩,
  ⟨(some 5), (Op.assign (Operand.tmp 143)), none⟩]
attribute [go_sem] r42_32
def c42 : PC := (.seq (.reg r42_0) (.seq (.reg r42_1) (.seq (.block 0 (.seq (.reg r42_2) (.cond (Operand.tmp 10) (.seq (.reg r42_3) .ret) (.seq (.pre ⟨[2, 3, 4, 6], [.old 0, .old 1, .old 2], []⟩ k42_1) (.cond (Operand.tmp 18) (.seq (.reg r42_5) .ret) (.seq (.pre ⟨[2, 3, 4, 6], [.old 0, .old 1, .old 2], []⟩ k42_2) (.cond (Operand.tmp 29) (.seq (.reg r42_7) (.seq (.reg r42_8) (.seq (.reg r42_9) .ret))) (.seq (.pre ⟨[2, 3, 4, 6], [.old 0, .old 1, .old 2], []⟩ k42_3) (.cond (Operand.tmp 43) (.seq (.reg r42_11) .ret) (.seq (.pre ⟨[2, 3, 4, 6], [.old 0, .old 1, .old 2], []⟩ k42_4) (.cond (Operand.tmp 52) (.seq (.reg r42_13) .ret) (.seq (.pre ⟨[2, 3, 4, 6], [.old 0, .old 1, .old 2], []⟩ k42_5) (.cond (Operand.tmp 61) (.seq (.reg r42_15) .ret) (.seq (.reg r42_16) (.cond (Operand.tmp 71) (.seq (.reg r42_17) .ret) (.seq (.pre ⟨[2, 3, 4], [.old 0, .old 1, .old 2], []⟩ k42_6) (.cond (Operand.tmp 75) (.seq (.reg r42_19) (.seq (.seq (.reg r42_20) (.pre ⟨[2, 3, 4, 94], [.old 0, .old 1, .old 2], []⟩ k42_7)) (.seq (.reg r42_22) (.seq (.reg r42_23) (.seq (.reg r42_24) .ret))))) (.seq (.seq (.pre ⟨[2, 3, 4], [.old 0, .old 1, .old 2], []⟩ k42_8) (.pre ⟨[2, 3, 4, 107], [.old 0, .old 1, .old 2], []⟩ k42_9)) (.cond (Operand.tmp 107) (.seq (.seq (.pre ⟨[2, 4], [.old 0, .old 1], []⟩ k42_11) (.pre ⟨[2, 4, 131], [.old 0, .old 1], []⟩ k42_12)) (.seq (.reg r42_29) (.seq (.reg r42_30) (.seq (.reg r42_31) .ret)))) .skip))))))))))))))))))) (.seq (.reg r42_32) .ret))))
def i42 : FnI := ⟨144, [(ResultVar.cell 4 23), (ResultVar.tmp 5)], c42, 0, [[0, 0, 0, 0, 0], [0, 0]], [[0, 0, 0, 0, 0], [1]], false, false, 0⟩
-- loop.example/g00344/spec.PlayEvents
def r26_2 : List PO := [⟨(some 19), (Op.move (Operand.tmp 8)), none⟩,
  ⟨(some 20), (Op.unOp UnOp.not 4 (Operand.tmp 19)), none⟩,
  ⟨(some 21), (Op.move (Operand.tmp 20)), none⟩,
  ⟨(some 22), (Op.move (Operand.tmp 1)), (some (21, false))⟩,
  ⟨(some 23), (Op.call { callee := (Callee.builtin Builtin.len), args := #[(Operand.tmp 22)], argTypes := #[47] }), (some (21, false))⟩,
  ⟨(some 24), (Op.binOp BinOp.gtr 3 (Operand.tmp 23) (Operand.const (Value.int IntKind.i64 100)) 3), (some (21, false))⟩,
  ⟨(some 25), (Op.pick (Operand.tmp 21) (Operand.const (Value.bool true)) (Operand.tmp 24)), none⟩]
attribute [go_sem] r26_2
def k26_1 : PC := (.post (.reg r26_2) ⟨[1, 4, 7, 25], [.old 0, .old 1], []⟩)
def r26_6 : List PO := [⟨(some 30), (Op.binOp BinOp.lss 3 (Operand.tmp 29) (Operand.tmp 28) 3), none⟩]
attribute [go_sem] r26_6
def r26_7 : List PO := [⟨(some 31), (Op.indexAddr 47 (Operand.tmp 27) (Operand.tmp 29)), none⟩,
  ⟨(some 32), (Op.load 39 (Operand.tmp 31)), none⟩,
  ⟨(some 11), (Op.alloc 39), none⟩,
  ⟨none, (Op.store 39 (Operand.tmp 11) (Operand.tmp 32)), none⟩]
attribute [go_sem] r26_7
def r26_8 : List PO := [⟨(some 33), (Op.load 39 (Operand.tmp 11)), none⟩,
  ⟨(some 34), (Op.call { callee := (Callee.value (Operand.func 41)), args := #[(Operand.tmp 33)], argTypes := #[39] }), none⟩,
  ⟨(some 35), (Op.unOp UnOp.not 4 (Operand.tmp 34)), none⟩]
attribute [go_sem] r26_8
def r26_9 : List PO := [⟨(some 36), (Op.build 23 #[]), none⟩,
  ⟨none, (Op.store 23 (Operand.tmp 4) (Operand.tmp 36)), none⟩,
  ⟨(some 5), (Op.assign (Operand.const (Value.slice none 0 0))), none⟩,
  ⟨(some 6), (Op.assign (Operand.const (Value.bool false))), none⟩]
attribute [go_sem] r26_9
def r26_10 : List PO := [⟨(some 38), (Op.load 23 (Operand.tmp 7)), none⟩,
  ⟨(some 39), (Op.load 39 (Operand.tmp 11)), none⟩,
  ⟨(some 40), (Op.call { callee := (Callee.value (Operand.func 42)), args := #[(Operand.tmp 38), (Operand.tmp 39)], argTypes := #[23, 39] }), none⟩,
  ⟨(some 37), (Op.move (Operand.tmp 40)), none⟩,
  ⟨(some 41), (Op.extract (Operand.tmp 37) 0), none⟩,
  ⟨(some 42), (Op.extract (Operand.tmp 37) 1), none⟩,
  ⟨(some 12), (Op.alloc 23), none⟩,
  ⟨none, (Op.store 23 (Operand.tmp 12) (Operand.tmp 41)), none⟩,
  ⟨(some 13), (Op.assign (Operand.tmp 42)), none⟩]
attribute [go_sem] r26_10
def r26_11 : List PO := [⟨(some 43), (Op.load 23 (Operand.tmp 12)), none⟩,
  ⟨none, (Op.store 23 (Operand.tmp 7) (Operand.tmp 43)), none⟩]
attribute [go_sem] r26_11
def r26_12 : List PO := [⟨(some 44), (Op.move (Operand.tmp 9)), none⟩,
  ⟨(some 45), (Op.move (Operand.tmp 13)), none⟩,
  ⟨(some 46), (Op.call { callee := (Callee.builtin Builtin.append), args := #[(Operand.tmp 44), (Operand.tmp 45)], argTypes := #[36, 36] }), none⟩,
  ⟨(some 9), (Op.assign (Operand.tmp 46)), none⟩]
attribute [go_sem] r26_12
def r26_13 : List PO := [⟨(some 47), (Op.binOp BinOp.add 3 (Operand.tmp 29) (Operand.const (Value.int IntKind.i64 1)) 3), none⟩,
  ⟨(some 29), (Op.move (Operand.tmp 47)), none⟩]
attribute [go_sem] r26_13
def k26_2b : PC := (.seq (.reg r26_6) (.seq (.cond (Operand.tmp 30) .skip (.pre ⟨[4, 7, 9], [.old 0, .old 1, .old 2], []⟩ (.exit 0))) (.seq (.block 1 (.seq (.reg r26_7) (.seq (.seq (.reg r26_8) (.cond (Operand.tmp 35) (.seq (.reg r26_9) (.pre ⟨[4, 5, 6], [.old 0, .nilT 5 0 1], []⟩ .ret)) .skip)) (.seq (.reg r26_10) (.seq (.reg r26_11) (.reg r26_12)))))) (.post (.reg r26_13) ⟨[4, 7, 9, 27, 28, 29], [.old 0, .old 1, .old 6], []⟩))))
def r26_0 : List PO := [⟨(some 4), (Op.alloc 23), none⟩,
  ⟨(some 5), (Op.assign (Operand.const (Value.slice none 0 0))), none⟩,
  ⟨(some 6), (Op.assign (Operand.const (Value.bool false))), none⟩]
attribute [go_sem] r26_0
def r26_1 : List PO := [⟨(some 15), (Op.move (Operand.tmp 0)), none⟩,
  ⟨(some 16), (Op.call { callee := (Callee.value (Operand.func 11)), args := #[(Operand.tmp 15)], argTypes := #[3] }), none⟩,
  ⟨(some 14), (Op.move (Operand.tmp 16)), none⟩,
  ⟨(some 17), (Op.extract (Operand.tmp 14) 0), none⟩,
  ⟨(some 18), (Op.extract (Operand.tmp 14) 1), none⟩,
  ⟨(some 7), (Op.alloc 23), none⟩,
  ⟨none, (Op.store 23 (Operand.tmp 7) (Operand.tmp 17)), none⟩,
  ⟨(some 8), (Op.assign (Operand.tmp 18)), none⟩]
attribute [go_sem] r26_1
def r26_3 : List PO := [⟨(some 26), (Op.build 23 #[]), none⟩,
  ⟨none, (Op.store 23 (Operand.tmp 4) (Operand.tmp 26)), none⟩,
  ⟨(some 5), (Op.assign (Operand.const (Value.slice none 0 0))), none⟩,
  ⟨(some 6), (Op.assign (Operand.const (Value.bool false))), none⟩]
attribute [go_sem] r26_3
def r26_4 : List PO := [⟨(some 9), (Op.assign (Operand.const (Value.slice none 0 0))), none⟩]
attribute [go_sem] r26_4
def r26_5 : List PO := [⟨(some 27), (Op.move (Operand.tmp 1)), none⟩,
  ⟨(some 28), (Op.call { callee := (Callee.builtin Builtin.len), args := #[(Operand.tmp 27)], argTypes := #[47] }), none⟩,
  ⟨(some 29), (Op.move (Operand.const (Value.int IntKind.i64 0))), none⟩]
attribute [go_sem] r26_5
def r26_14 : List PO := [⟨(some 48), (Op.load 23 (Operand.tmp 7)), none⟩,
  ⟨(some 49), (Op.move (Operand.tmp 9)), none⟩,
  ⟨none, (Op.store 23 (Operand.tmp 4) (Operand.tmp 48)), none⟩,
  ⟨(some 5), (Op.assign (Operand.tmp 49)), none⟩,
  ⟨(some 6), (Op.assign (Operand.const (Value.bool true))), none⟩]
attribute [go_sem] r26_14
def c26 : PC := (.seq (.reg r26_0) (.seq (.reg r26_1) (.seq (.seq (.pre ⟨[1, 4, 7, 8], [.old 0, .old 1], []⟩ k26_1) (.cond (Operand.tmp 25) (.seq (.reg r26_3) .ret) .skip)) (.seq (.reg r26_4) (.seq (.seq (.reg r26_5) (.block 0 (.pre ⟨[4, 7, 9, 27, 28, 29], [.old 0, .old 1, .nilT 9 0 1], []⟩ (.loop k26_2b)))) (.seq (.reg r26_14) .ret))))))
def i26 : FnI := ⟨50, [(ResultVar.cell 4 23), (ResultVar.tmp 5), (ResultVar.tmp 6)], c26, 0, [[0], [2]], [[0, 0, 0, 0, 0], [1], [0]], false, false, 0⟩
-- loop.example/g00344/laws.sameInts
def r36_4 : List PO := [⟨(some 14), (Op.binOp BinOp.lss 3 (Operand.tmp 13) (Operand.tmp 12) 3), none⟩]
attribute [go_sem] r36_4
def r36_5 : List PO := [⟨(some 15), (Op.move (Operand.tmp 13)), none⟩,
  ⟨(some 5), (Op.assign (Operand.tmp 15)), none⟩]
attribute [go_sem] r36_5
def r36_6 : List PO := [⟨(some 16), (Op.move (Operand.tmp 0)), none⟩,
  ⟨(some 17), (Op.move (Operand.tmp 5)), none⟩,
  ⟨(some 18), (Op.indexAddr 36 (Operand.tmp 16) (Operand.tmp 17)), none⟩,
  ⟨(some 19), (Op.load 3 (Operand.tmp 18)), none⟩,
  ⟨(some 20), (Op.move (Operand.tmp 1)), none⟩,
  ⟨(some 21), (Op.move (Operand.tmp 5)), none⟩,
  ⟨(some 22), (Op.indexAddr 36 (Operand.tmp 20) (Operand.tmp 21)), none⟩,
  ⟨(some 23), (Op.load 3 (Operand.tmp 22)), none⟩,
  ⟨(some 24), (Op.binOp BinOp.neq 3 (Operand.tmp 19) (Operand.tmp 23) 3), none⟩]
attribute [go_sem] r36_6
def r36_7 : List PO := [⟨(some 4), (Op.assign (Operand.const (Value.bool false))), none⟩]
attribute [go_sem] r36_7
def r36_8 : List PO := [⟨(some 25), (Op.binOp BinOp.add 3 (Operand.tmp 13) (Operand.const (Value.int IntKind.i64 1)) 3), none⟩,
  ⟨(some 13), (Op.move (Operand.tmp 25)), none⟩]
attribute [go_sem] r36_8
def k36_1b : PC := (.seq (.reg r36_4) (.seq (.cond (Operand.tmp 14) .skip (.pre ⟨[], [], []⟩ (.exit 0))) (.seq (.block 1 (.seq (.reg r36_5) (.seq (.fz r36_6) (.cond (Operand.tmp 24) (.seq (.reg r36_7) (.pre ⟨[4], [], []⟩ .ret)) .skip)))) (.post (.reg r36_8) ⟨[0, 1, 12, 13], [], []⟩))))
def r36_0 : List PO := [⟨(some 4), (Op.assign (Operand.const (Value.bool false))), none⟩]
attribute [go_sem] r36_0
def r36_1 : List PO := [⟨(some 6), (Op.move (Operand.tmp 0)), none⟩,
  ⟨(some 7), (Op.call { callee := (Callee.builtin Builtin.len), args := #[(Operand.tmp 6)], argTypes := #[36] }), none⟩,
  ⟨(some 8), (Op.move (Operand.tmp 1)), none⟩,
  ⟨(some 9), (Op.call { callee := (Callee.builtin Builtin.len), args := #[(Operand.tmp 8)], argTypes := #[36] }), none⟩,
  ⟨(some 10), (Op.binOp BinOp.neq 3 (Operand.tmp 7) (Operand.tmp 9) 3), none⟩]
attribute [go_sem] r36_1
def r36_2 : List PO := [⟨(some 4), (Op.assign (Operand.const (Value.bool false))), none⟩]
attribute [go_sem] r36_2
def r36_3 : List PO := [⟨(some 11), (Op.move (Operand.tmp 0)), none⟩,
  ⟨(some 12), (Op.call { callee := (Callee.builtin Builtin.len), args := #[(Operand.tmp 11)], argTypes := #[36] }), none⟩,
  ⟨(some 13), (Op.move (Operand.const (Value.int IntKind.i64 0))), none⟩]
attribute [go_sem] r36_3
def r36_9 : List PO := [⟨(some 4), (Op.assign (Operand.const (Value.bool true))), none⟩]
attribute [go_sem] r36_9
def c36 : PC := (.seq (.reg r36_0) (.seq (.seq (.reg r36_1) (.cond (Operand.tmp 10) (.seq (.reg r36_2) .ret) .skip)) (.seq (.seq (.reg r36_3) (.block 0 (.pre ⟨[0, 1, 12, 13], [], []⟩ (.loop k36_1b)))) (.seq (.reg r36_9) .ret))))
def i36 : FnI := ⟨26, [(ResultVar.tmp 4)], c36, 0, [[1], [1]], [[0]], false, false, 0⟩
-- loop.example/g00344/impl.GoodSession
def r16_1 : List PO := [⟨(some 5), (Op.fieldAddr 23 (Operand.tmp 1) 0), none⟩,
  ⟨(some 6), (Op.load 3 (Operand.tmp 5)), none⟩,
  ⟨(some 7), (Op.call { callee := (Callee.value (Operand.func 40)), args := #[(Operand.tmp 6), (Operand.const (Value.int IntKind.i64 0)), (Operand.const (Value.int IntKind.i64 4))], argTypes := #[3, 3, 3] }), none⟩,
  ⟨(some 8), (Op.unOp UnOp.not 4 (Operand.tmp 7)), none⟩,
  ⟨(some 9), (Op.move (Operand.tmp 8)), none⟩,
  ⟨(some 10), (Op.fieldAddr 23 (Operand.tmp 1) 1), (some (9, false))⟩,
  ⟨(some 11), (Op.load 3 (Operand.tmp 10)), (some (9, false))⟩,
  ⟨(some 12), (Op.call { callee := (Callee.value (Operand.func 40)), args := #[(Operand.tmp 11), (Operand.const (Value.int IntKind.i64 3)), (Operand.const (Value.int IntKind.i64 90))], argTypes := #[3, 3, 3] }), (some (9, false))⟩,
  ⟨(some 13), (Op.unOp UnOp.not 4 (Operand.tmp 12)), (some (9, false))⟩,
  ⟨(some 14), (Op.pick (Operand.tmp 9) (Operand.const (Value.bool true)) (Operand.tmp 13)), none⟩,
  ⟨(some 15), (Op.move (Operand.tmp 14)), none⟩,
  ⟨(some 16), (Op.fieldAddr 23 (Operand.tmp 1) 4), (some (15, false))⟩,
  ⟨(some 17), (Op.load 3 (Operand.tmp 16)), (some (15, false))⟩,
  ⟨(some 18), (Op.call { callee := (Callee.value (Operand.func 40)), args := #[(Operand.tmp 17), (Operand.const (Value.int IntKind.i64 0)), (Operand.const (Value.int IntKind.i64 1000))], argTypes := #[3, 3, 3] }), (some (15, false))⟩,
  ⟨(some 19), (Op.unOp UnOp.not 4 (Operand.tmp 18)), (some (15, false))⟩,
  ⟨(some 20), (Op.pick (Operand.tmp 15) (Operand.const (Value.bool true)) (Operand.tmp 19)), none⟩]
attribute [go_sem] r16_1
def k16_1 : PC := (.post (.reg r16_1) ⟨[1, 20], [.old 0], []⟩)
def r16_5 : List PO := [⟨(some 30), (Op.fieldAddr 23 (Operand.tmp 1) 2), none⟩,
  ⟨(some 31), (Op.load 3 (Operand.tmp 30)), none⟩,
  ⟨(some 32), (Op.call { callee := (Callee.value (Operand.func 40)), args := #[(Operand.tmp 31), (Operand.const (Value.int IntKind.i64 1)), (Operand.const (Value.int IntKind.i64 90))], argTypes := #[3, 3, 3] }), none⟩,
  ⟨(some 3), (Op.assign (Operand.tmp 32)), none⟩]
attribute [go_sem] r16_5
def k16_2 : PC := (.cond (Operand.tmp 29) (.post (.reg r16_5) ⟨[1, 3, 4], [.old 0], []⟩) (.post .skip ⟨[1, 3, 4], [.old 0], []⟩))
def r16_7 : List PO := [⟨(some 36), (Op.fieldAddr 23 (Operand.tmp 1) 3), none⟩,
  ⟨(some 37), (Op.load 3 (Operand.tmp 36)), none⟩,
  ⟨(some 38), (Op.call { callee := (Callee.value (Operand.func 40)), args := #[(Operand.tmp 37), (Operand.const (Value.int IntKind.i64 1)), (Operand.const (Value.int IntKind.i64 30))], argTypes := #[3, 3, 3] }), none⟩,
  ⟨(some 4), (Op.assign (Operand.tmp 38)), none⟩]
attribute [go_sem] r16_7
def k16_3 : PC := (.cond (Operand.tmp 35) (.post (.reg r16_7) ⟨[3, 4], [], []⟩) (.post .skip ⟨[3, 4], [], []⟩))
def r16_8 : List PO := [⟨(some 39), (Op.move (Operand.tmp 3)), none⟩,
  ⟨(some 40), (Op.move (Operand.tmp 39)), none⟩,
  ⟨(some 41), (Op.move (Operand.tmp 4)), (some (40, true))⟩,
  ⟨(some 42), (Op.pick (Operand.tmp 40) (Operand.tmp 41) (Operand.const (Value.bool false))), none⟩,
  ⟨(some 2), (Op.assign (Operand.tmp 42)), none⟩]
attribute [go_sem] r16_8
def k16_4 : PC := (.post (.reg r16_8) ⟨[2], [], []⟩)
def r16_0 : List PO := [⟨(some 1), (Op.box 23 (Operand.tmp 0)), none⟩,
  ⟨(some 2), (Op.assign (Operand.const (Value.bool false))), none⟩]
attribute [go_sem] r16_0
def r16_2 : List PO := [⟨(some 2), (Op.assign (Operand.const (Value.bool false))), none⟩]
attribute [go_sem] r16_2
def r16_3 : List PO := [⟨(some 21), (Op.fieldAddr 23 (Operand.tmp 1) 2), none⟩,
  ⟨(some 22), (Op.load 3 (Operand.tmp 21)), none⟩,
  ⟨(some 23), (Op.binOp BinOp.eql 3 (Operand.tmp 22) (Operand.const (Value.int IntKind.i64 0)) 3), none⟩,
  ⟨(some 24), (Op.fieldAddr 23 (Operand.tmp 1) 3), none⟩,
  ⟨(some 25), (Op.load 3 (Operand.tmp 24)), none⟩,
  ⟨(some 26), (Op.binOp BinOp.eql 3 (Operand.tmp 25) (Operand.const (Value.int IntKind.i64 0)) 3), none⟩,
  ⟨(some 3), (Op.assign (Operand.tmp 23)), none⟩,
  ⟨(some 4), (Op.assign (Operand.tmp 26)), none⟩]
attribute [go_sem] r16_3
def r16_4 : List PO := [⟨(some 27), (Op.fieldAddr 23 (Operand.tmp 1) 0), none⟩,
  ⟨(some 28), (Op.load 3 (Operand.tmp 27)), none⟩,
  ⟨(some 29), (Op.binOp BinOp.geq 3 (Operand.tmp 28) (Operand.const (Value.int IntKind.i64 2)) 3), none⟩]
attribute [go_sem] r16_4
def r16_6 : List PO := [⟨(some 33), (Op.fieldAddr 23 (Operand.tmp 1) 0), none⟩,
  ⟨(some 34), (Op.load 3 (Operand.tmp 33)), none⟩,
  ⟨(some 35), (Op.binOp BinOp.geq 3 (Operand.tmp 34) (Operand.const (Value.int IntKind.i64 3)) 3), none⟩]
attribute [go_sem] r16_6
def c16 : PC := (.seq (.reg r16_0) (.seq (.seq (.pre ⟨[1], [.old 0], []⟩ k16_1) (.cond (Operand.tmp 20) (.seq (.reg r16_2) .ret) .skip)) (.seq (.fz r16_3) (.seq (.seq (.reg r16_4) (.pre ⟨[1, 3, 4, 29], [.old 0], []⟩ k16_2)) (.seq (.seq (.reg r16_6) (.pre ⟨[1, 3, 4, 35], [.old 0], []⟩ k16_3)) (.seq (.pre ⟨[3, 4], [], []⟩ k16_4) .ret))))))
def i16 : FnI := ⟨43, [(ResultVar.tmp 2)], c16, 0, [[0, 0, 0, 0, 0]], [[0]], false, false, 0⟩
-- loop.example/g00344/impl.IsUp
def r18_0 : List PO := [⟨(some 1), (Op.box 23 (Operand.tmp 0)), none⟩,
  ⟨(some 2), (Op.assign (Operand.const (Value.bool false))), none⟩,
  ⟨(some 3), (Op.assign (Operand.const (Value.bool false))), none⟩]
attribute [go_sem] r18_0
def r18_1 : List PO := [⟨(some 4), (Op.load 23 (Operand.tmp 1)), none⟩,
  ⟨(some 5), (Op.call { callee := (Callee.value (Operand.func 16)), args := #[(Operand.tmp 4)], argTypes := #[23] }), none⟩,
  ⟨(some 6), (Op.unOp UnOp.not 4 (Operand.tmp 5)), none⟩]
attribute [go_sem] r18_1
def r18_2 : List PO := [⟨(some 2), (Op.assign (Operand.const (Value.bool false))), none⟩,
  ⟨(some 3), (Op.assign (Operand.const (Value.bool false))), none⟩]
attribute [go_sem] r18_2
def r18_3 : List PO := [⟨(some 7), (Op.fieldAddr 23 (Operand.tmp 1) 0), none⟩,
  ⟨(some 8), (Op.load 3 (Operand.tmp 7)), none⟩,
  ⟨(some 9), (Op.binOp BinOp.eql 3 (Operand.tmp 8) (Operand.const (Value.int IntKind.i64 4)) 3), none⟩,
  ⟨(some 2), (Op.assign (Operand.tmp 9)), none⟩,
  ⟨(some 3), (Op.assign (Operand.const (Value.bool true))), none⟩]
attribute [go_sem] r18_3
def c18 : PC := (.seq (.reg r18_0) (.seq (.seq (.reg r18_1) (.cond (Operand.tmp 6) (.seq (.reg r18_2) .ret) .skip)) (.seq (.reg r18_3) .ret)))
def i18 : FnI := ⟨10, [(ResultVar.tmp 2), (ResultVar.tmp 3)], c18, 0, [[0, 0, 0, 0, 0]], [[0], [0]], false, false, 0⟩
-- loop.example/g00344/impl.StepSession
def r21_1 : List PO := [⟨(some 9), (Op.load 23 (Operand.tmp 2)), none⟩,
  ⟨(some 10), (Op.call { callee := (Callee.value (Operand.func 16)), args := #[(Operand.tmp 9)], argTypes := #[23] }), none⟩,
  ⟨(some 11), (Op.unOp UnOp.not 4 (Operand.tmp 10)), none⟩,
  ⟨(some 12), (Op.move (Operand.tmp 11)), none⟩,
  ⟨(some 13), (Op.load 39 (Operand.tmp 3)), (some (12, false))⟩,
  ⟨(some 14), (Op.call { callee := (Callee.value (Operand.func 43)), args := #[(Operand.tmp 13)], argTypes := #[39] }), (some (12, false))⟩,
  ⟨(some 15), (Op.unOp UnOp.not 4 (Operand.tmp 14)), (some (12, false))⟩,
  ⟨(some 16), (Op.pick (Operand.tmp 12) (Operand.const (Value.bool true)) (Operand.tmp 15)), none⟩]
attribute [go_sem] r21_1
def k21_1 : PC := (.post (.reg r21_1) ⟨[2, 3, 4, 16], [.old 0, .old 1, .old 2], []⟩)
def r21_0 : List PO := [⟨(some 2), (Op.box 23 (Operand.tmp 0)), none⟩,
  ⟨(some 3), (Op.box 39 (Operand.tmp 1)), none⟩,
  ⟨(some 4), (Op.alloc 23), none⟩,
  ⟨(some 5), (Op.assign (Operand.const (Value.slice none 0 0))), none⟩,
  ⟨(some 6), (Op.assign (Operand.const (Value.bool false))), none⟩]
attribute [go_sem] r21_0
def r21_2 : List PO := [⟨(some 17), (Op.build 23 #[]), none⟩,
  ⟨none, (Op.store 23 (Operand.tmp 4) (Operand.tmp 17)), none⟩,
  ⟨(some 5), (Op.assign (Operand.const (Value.slice none 0 0))), none⟩,
  ⟨(some 6), (Op.assign (Operand.const (Value.bool false))), none⟩]
attribute [go_sem] r21_2
def r21_3 : List PO := [⟨(some 19), (Op.load 23 (Operand.tmp 2)), none⟩,
  ⟨(some 20), (Op.load 39 (Operand.tmp 3)), none⟩,
  ⟨(some 21), (Op.call { callee := (Callee.value (Operand.func 44)), args := #[(Operand.tmp 19), (Operand.tmp 20)], argTypes := #[23, 39] }), none⟩,
  ⟨(some 18), (Op.move (Operand.tmp 21)), none⟩,
  ⟨(some 22), (Op.extract (Operand.tmp 18) 0), none⟩,
  ⟨(some 23), (Op.extract (Operand.tmp 18) 1), none⟩,
  ⟨(some 7), (Op.alloc 23), none⟩,
  ⟨none, (Op.store 23 (Operand.tmp 7) (Operand.tmp 22)), none⟩,
  ⟨(some 8), (Op.assign (Operand.tmp 23)), none⟩]
attribute [go_sem] r21_3
def r21_4 : List PO := [⟨(some 24), (Op.load 23 (Operand.tmp 7)), none⟩,
  ⟨(some 25), (Op.move (Operand.tmp 8)), none⟩,
  ⟨none, (Op.store 23 (Operand.tmp 4) (Operand.tmp 24)), none⟩,
  ⟨(some 5), (Op.assign (Operand.tmp 25)), none⟩,
  ⟨(some 6), (Op.assign (Operand.const (Value.bool true))), none⟩]
attribute [go_sem] r21_4
def c21 : PC := (.seq (.reg r21_0) (.seq (.seq (.pre ⟨[2, 3, 4], [.old 0, .old 1, .old 2], []⟩ k21_1) (.cond (Operand.tmp 16) (.seq (.reg r21_2) .ret) .skip)) (.seq (.reg r21_3) (.seq (.reg r21_4) .ret))))
def i21 : FnI := ⟨26, [(ResultVar.cell 4 23), (ResultVar.tmp 5), (ResultVar.tmp 6)], c21, 0, [[0, 0, 0, 0, 0], [0, 0]], [[0, 0, 0, 0, 0], [1], [0]], false, false, 0⟩
-- (*loop.example/g00344/spec.l1Cur).session
def r59_3 : List PO := [⟨(some 12), (Op.move (Operand.tmp 3)), none⟩,
  ⟨(some 13), (Op.slice 47 (Operand.tmp 12) none (some (Operand.const (Value.int IntKind.i64 60))) none), none⟩,
  ⟨(some 3), (Op.assign (Operand.tmp 13)), none⟩]
attribute [go_sem] r59_3
def k59_1 : PC := (.cond (Operand.tmp 11) (.post (.reg r59_3) ⟨[0, 2, 3], [.old 1, .winT 3 0], []⟩) (.post .skip ⟨[0, 2, 3], [.old 1, .old 2], []⟩))
def r59_6 : List PO := [⟨(some 26), (Op.call { callee := (Callee.value (Operand.func 11)), args := #[(Operand.const (Value.int IntKind.i64 9))], argTypes := #[3] }), none⟩,
  ⟨(some 25), (Op.move (Operand.tmp 26)), none⟩,
  ⟨(some 27), (Op.extract (Operand.tmp 25) 0), none⟩,
  ⟨(some 28), (Op.extract (Operand.tmp 25) 1), none⟩,
  ⟨none, (Op.store 23 (Operand.tmp 4) (Operand.tmp 27)), none⟩]
attribute [go_sem] r59_6
def k59_2 : PC := (.cond (Operand.tmp 24) (.post (.reg r59_6) ⟨[0, 2, 4], [.old 1, .old 2], []⟩) (.post .skip ⟨[0, 2, 4], [.old 1, .old 2], []⟩))
def r59_11 : List PO := [⟨(some 38), (Op.move (Operand.tmp 0)), none⟩,
  ⟨(some 39), (Op.buildSlice 36 3 #[(0, (Operand.const (Value.int IntKind.i64 0))), (1, (Operand.const (Value.int IntKind.i64 1))), (2, (Operand.const (Value.int IntKind.i64 91)))]), none⟩,
  ⟨(some 40), (Op.call { callee := (Callee.value (Operand.func 57)), args := #[(Operand.tmp 38), (Operand.tmp 39)], argTypes := #[85, 36] }), none⟩,
  ⟨(some 41), (Op.fieldAddr 23 (Operand.tmp 4) 2), none⟩,
  ⟨none, (Op.store 3 (Operand.tmp 41) (Operand.tmp 40)), none⟩]
attribute [go_sem] r59_11
def k59_4 : PC := (.cond (Operand.tmp 36) (.post (.reg r59_11) ⟨[2, 4], [.old 1, .old 2], []⟩) (.post .skip ⟨[2, 4], [.old 1, .old 2], []⟩))
def r59_9 : List PO := [⟨(some 33), (Op.move (Operand.tmp 0)), none⟩,
  ⟨(some 34), (Op.call { callee := (Callee.value (Operand.func 55)), args := #[(Operand.tmp 33), (Operand.const (Value.int IntKind.i64 6))], argTypes := #[85, 3] }), none⟩,
  ⟨(some 35), (Op.fieldAddr 23 (Operand.tmp 4) 0), none⟩,
  ⟨none, (Op.store 3 (Operand.tmp 35) (Operand.tmp 34)), none⟩]
attribute [go_sem] r59_9
def r59_10 : List PO := [⟨(some 37), (Op.binOp BinOp.eql 3 (Operand.tmp 30) (Operand.const (Value.int IntKind.i64 1)) 3), none⟩,
  ⟨(some 36), (Op.assign (Operand.tmp 37)), none⟩]
attribute [go_sem] r59_10
def k59_3 : PC := (.cond (Operand.tmp 31) (.post (.reg r59_9) ⟨[2, 4], [.old 1, .old 2], []⟩) (.seq (.reg r59_10) (.post (.pre ⟨[0, 2, 4, 36], [.old 1, .old 2], []⟩ k59_4) ⟨[2, 4], [.old 1, .old 2], []⟩)))
def r59_0 : List PO := [⟨(some 2), (Op.alloc 23), none⟩]
attribute [go_sem] r59_0
def r59_1 : List PO := [⟨(some 7), (Op.move (Operand.tmp 0)), none⟩,
  ⟨(some 8), (Op.call { callee := (Callee.value (Operand.func 58)), args := #[(Operand.tmp 7)], argTypes := #[85] }), none⟩,
  ⟨(some 3), (Op.assign (Operand.tmp 8)), none⟩]
attribute [go_sem] r59_1
def r59_2 : List PO := [⟨(some 9), (Op.move (Operand.tmp 3)), none⟩,
  ⟨(some 10), (Op.call { callee := (Callee.builtin Builtin.len), args := #[(Operand.tmp 9)], argTypes := #[47] }), none⟩,
  ⟨(some 11), (Op.binOp BinOp.gtr 3 (Operand.tmp 10) (Operand.const (Value.int IntKind.i64 60)) 3), none⟩]
attribute [go_sem] r59_2
def r59_4 : List PO := [⟨(some 15), (Op.move (Operand.tmp 0)), none⟩,
  ⟨(some 16), (Op.call { callee := (Callee.value (Operand.func 55)), args := #[(Operand.tmp 15), (Operand.const (Value.int IntKind.i64 20))], argTypes := #[85, 3] }), none⟩,
  ⟨(some 17), (Op.binOp BinOp.add 3 (Operand.const (Value.int IntKind.i64 3)) (Operand.tmp 16) 3), none⟩,
  ⟨(some 18), (Op.move (Operand.tmp 3)), none⟩,
  ⟨(some 19), (Op.call { callee := (Callee.value (Operand.func 26)), args := #[(Operand.tmp 17), (Operand.tmp 18)], argTypes := #[3, 47] }), none⟩,
  ⟨(some 14), (Op.move (Operand.tmp 19)), none⟩,
  ⟨(some 20), (Op.extract (Operand.tmp 14) 0), none⟩,
  ⟨(some 21), (Op.extract (Operand.tmp 14) 1), none⟩,
  ⟨(some 22), (Op.extract (Operand.tmp 14) 2), none⟩,
  ⟨(some 4), (Op.alloc 23), none⟩,
  ⟨none, (Op.store 23 (Operand.tmp 4) (Operand.tmp 20)), none⟩,
  ⟨(some 5), (Op.assign (Operand.tmp 21)), none⟩,
  ⟨(some 6), (Op.assign (Operand.tmp 22)), none⟩]
attribute [go_sem] r59_4
def r59_5 : List PO := [⟨(some 23), (Op.move (Operand.tmp 6)), none⟩,
  ⟨(some 24), (Op.unOp UnOp.not 4 (Operand.tmp 23)), none⟩]
attribute [go_sem] r59_5
def r59_7 : List PO := [⟨(some 29), (Op.move (Operand.tmp 0)), none⟩,
  ⟨(some 30), (Op.call { callee := (Callee.value (Operand.func 55)), args := #[(Operand.tmp 29), (Operand.const (Value.int IntKind.i64 30))], argTypes := #[85, 3] }), none⟩]
attribute [go_sem] r59_7
def r59_8 : List PO := [⟨(some 32), (Op.binOp BinOp.eql 3 (Operand.tmp 30) (Operand.const (Value.int IntKind.i64 0)) 3), none⟩,
  ⟨(some 31), (Op.assign (Operand.tmp 32)), none⟩]
attribute [go_sem] r59_8
def r59_12 : List PO := [⟨(some 42), (Op.load 23 (Operand.tmp 4)), none⟩,
  ⟨none, (Op.store 23 (Operand.tmp 2) (Operand.tmp 42)), none⟩]
attribute [go_sem] r59_12
def c59 : PC := (.seq (.reg r59_0) (.seq (.reg r59_1) (.seq (.seq (.reg r59_2) (.pre ⟨[0, 2, 3, 11], [.old 1, .old 2], []⟩ k59_1)) (.seq (.reg r59_4) (.seq (.seq (.reg r59_5) (.pre ⟨[0, 2, 4, 24], [.old 1, .old 4], []⟩ k59_2)) (.seq (.seq (.reg r59_7) (.block 0 (.seq (.reg r59_8) (.pre ⟨[0, 2, 4, 30, 31], [.old 1, .old 2], []⟩ k59_3)))) (.seq (.reg r59_12) (.pre ⟨[2], [.old 1], []⟩ .ret))))))))
def i59 : FnI := ⟨43, [(ResultVar.cell 2 23)], c59, 3, [[0]], [[0, 0, 0, 0, 0]], false, true, 1⟩
-- loop.example/g00344/spec.DrawStepSession
def r37_5 : List PO := [⟨(some 18), (Op.move (Operand.tmp 4)), none⟩,
  ⟨(some 19), (Op.buildSlice 36 6 #[(0, (Operand.const (Value.int IntKind.i64 0))), (1, (Operand.const (Value.int IntKind.i64 2))), (2, (Operand.const (Value.int IntKind.i64 3))), (3, (Operand.const (Value.int IntKind.i64 9))), (4, (Operand.const (Value.int IntKind.i64 100))), (5, (Operand.const (Value.int IntKind.i64 101)))]), none⟩,
  ⟨(some 20), (Op.call { callee := (Callee.value (Operand.func 57)), args := #[(Operand.tmp 18), (Operand.tmp 19)], argTypes := #[85, 36] }), none⟩,
  ⟨(some 21), (Op.fieldAddr 39 (Operand.tmp 6) 1), none⟩,
  ⟨none, (Op.store 3 (Operand.tmp 21) (Operand.tmp 20)), none⟩]
attribute [go_sem] r37_5
def k37_1 : PC := (.cond (Operand.tmp 17) (.post (.reg r37_5) ⟨[2, 3, 5, 6], [.old 0, .old 1, .old 3, .old 4], []⟩) (.post .skip ⟨[2, 3, 5, 6], [.old 0, .old 1, .old 3, .old 4], []⟩))
def r37_0 : List PO := [⟨(some 2), (Op.alloc 23), none⟩,
  ⟨(some 3), (Op.alloc 39), none⟩]
attribute [go_sem] r37_0
def r37_1 : List PO := [⟨(some 7), (Op.move (Operand.tmp 0)), none⟩,
  ⟨(some 8), (Op.build 88 #[(0, (Operand.tmp 7))]), none⟩,
  ⟨(some 9), (Op.box 88 (Operand.tmp 8)), none⟩,
  ⟨(some 4), (Op.assign (Operand.tmp 9)), none⟩]
attribute [go_sem] r37_1
def r37_2 : List PO := [⟨(some 10), (Op.move (Operand.tmp 4)), none⟩,
  ⟨(some 11), (Op.call { callee := (Callee.value (Operand.func 59)), args := #[(Operand.tmp 10)], argTypes := #[85] }), none⟩,
  ⟨(some 5), (Op.alloc 23), none⟩,
  ⟨none, (Op.store 23 (Operand.tmp 5) (Operand.tmp 11)), none⟩]
attribute [go_sem] r37_2
def r37_3 : List PO := [⟨(some 12), (Op.move (Operand.tmp 4)), none⟩,
  ⟨(some 13), (Op.call { callee := (Callee.value (Operand.func 55)), args := #[(Operand.tmp 12), (Operand.const (Value.int IntKind.i64 12))], argTypes := #[85, 3] }), none⟩,
  ⟨(some 14), (Op.build 39 #[(0, (Operand.tmp 13))]), none⟩,
  ⟨(some 6), (Op.alloc 39), none⟩,
  ⟨none, (Op.store 39 (Operand.tmp 6) (Operand.tmp 14)), none⟩]
attribute [go_sem] r37_3
def r37_4 : List PO := [⟨(some 15), (Op.fieldAddr 39 (Operand.tmp 6) 0), none⟩,
  ⟨(some 16), (Op.load 3 (Operand.tmp 15)), none⟩,
  ⟨(some 17), (Op.binOp BinOp.eql 3 (Operand.tmp 16) (Operand.const (Value.int IntKind.i64 5)) 3), none⟩]
attribute [go_sem] r37_4
def r37_6 : List PO := [⟨(some 22), (Op.load 23 (Operand.tmp 5)), none⟩,
  ⟨(some 23), (Op.load 39 (Operand.tmp 6)), none⟩,
  ⟨none, (Op.store 23 (Operand.tmp 2) (Operand.tmp 22)), none⟩,
  ⟨none, (Op.store 39 (Operand.tmp 3) (Operand.tmp 23)), none⟩]
attribute [go_sem] r37_6
def x37_6 : FxI := ⟨[2, 3], [none, none, none, none], 0, [[], [2], [2, 3]], [], [(1, 1, 1)]⟩
attribute [go_sem] x37_6
def c37 : PC := (.seq (.reg r37_0) (.seq (.reg r37_1) (.seq (.reg r37_2) (.seq (.reg r37_3) (.seq (.seq (.reg r37_4) (.pre ⟨[2, 3, 4, 5, 6, 17], [.old 0, .old 1, .old 2, .old 4, .old 5], []⟩ k37_1)) (.seq (.fx r37_6 x37_6) .ret))))))
def i37 : FnI := ⟨24, [(ResultVar.cell 2 23), (ResultVar.cell 3 39)], c37, 0, [[1]], [[0, 0, 0, 0, 0], [0, 0]], false, false, 0⟩
-- loop.example/g00344/spec.GoodSession
def r14_1 : List PO := [⟨(some 3), (Op.fieldAddr 23 (Operand.tmp 1) 0), none⟩,
  ⟨(some 4), (Op.load 3 (Operand.tmp 3)), none⟩,
  ⟨(some 5), (Op.call { callee := (Callee.value (Operand.func 39)), args := #[(Operand.tmp 4), (Operand.const (Value.int IntKind.i64 0)), (Operand.const (Value.int IntKind.i64 4))], argTypes := #[3, 3, 3] }), none⟩,
  ⟨(some 6), (Op.unOp UnOp.not 4 (Operand.tmp 5)), none⟩,
  ⟨(some 7), (Op.move (Operand.tmp 6)), none⟩,
  ⟨(some 8), (Op.fieldAddr 23 (Operand.tmp 1) 1), (some (7, false))⟩,
  ⟨(some 9), (Op.load 3 (Operand.tmp 8)), (some (7, false))⟩,
  ⟨(some 10), (Op.call { callee := (Callee.value (Operand.func 39)), args := #[(Operand.tmp 9), (Operand.const (Value.int IntKind.i64 3)), (Operand.const (Value.int IntKind.i64 90))], argTypes := #[3, 3, 3] }), (some (7, false))⟩,
  ⟨(some 11), (Op.unOp UnOp.not 4 (Operand.tmp 10)), (some (7, false))⟩,
  ⟨(some 12), (Op.pick (Operand.tmp 7) (Operand.const (Value.bool true)) (Operand.tmp 11)), none⟩,
  ⟨(some 13), (Op.move (Operand.tmp 12)), none⟩,
  ⟨(some 14), (Op.fieldAddr 23 (Operand.tmp 1) 4), (some (13, false))⟩,
  ⟨(some 15), (Op.load 3 (Operand.tmp 14)), (some (13, false))⟩,
  ⟨(some 16), (Op.call { callee := (Callee.value (Operand.func 39)), args := #[(Operand.tmp 15), (Operand.const (Value.int IntKind.i64 0)), (Operand.const (Value.int IntKind.i64 1000))], argTypes := #[3, 3, 3] }), (some (13, false))⟩,
  ⟨(some 17), (Op.unOp UnOp.not 4 (Operand.tmp 16)), (some (13, false))⟩,
  ⟨(some 18), (Op.pick (Operand.tmp 13) (Operand.const (Value.bool true)) (Operand.tmp 17)), none⟩]
attribute [go_sem] r14_1
def k14_1 : PC := (.post (.reg r14_1) ⟨[1, 18], [.old 0], []⟩)
def r14_5 : List PO := [⟨(some 23), (Op.binOp BinOp.eql 3 (Operand.tmp 20) (Operand.const (Value.int IntKind.i64 1)) 3), none⟩,
  ⟨(some 21), (Op.assign (Operand.tmp 23)), none⟩]
attribute [go_sem] r14_5
def k14_2 : PC := (.cond (Operand.tmp 21) (.post .skip ⟨[1, 20, 21], [.old 0], []⟩) (.post (.reg r14_5) ⟨[1, 20, 21], [.old 0], []⟩))
def r14_6 : List PO := [⟨(some 24), (Op.fieldAddr 23 (Operand.tmp 1) 2), none⟩,
  ⟨(some 25), (Op.load 3 (Operand.tmp 24)), none⟩,
  ⟨(some 26), (Op.binOp BinOp.eql 3 (Operand.tmp 25) (Operand.const (Value.int IntKind.i64 0)) 3), none⟩,
  ⟨(some 27), (Op.move (Operand.tmp 26)), none⟩,
  ⟨(some 28), (Op.fieldAddr 23 (Operand.tmp 1) 3), (some (27, true))⟩,
  ⟨(some 29), (Op.load 3 (Operand.tmp 28)), (some (27, true))⟩,
  ⟨(some 30), (Op.binOp BinOp.eql 3 (Operand.tmp 29) (Operand.const (Value.int IntKind.i64 0)) 3), (some (27, true))⟩,
  ⟨(some 31), (Op.pick (Operand.tmp 27) (Operand.tmp 30) (Operand.const (Value.bool false))), none⟩,
  ⟨(some 2), (Op.assign (Operand.tmp 31)), none⟩]
attribute [go_sem] r14_6
def k14_3 : PC := (.post (.reg r14_6) ⟨[2], [], []⟩)
def r14_8 : List PO := [⟨(some 34), (Op.fieldAddr 23 (Operand.tmp 1) 2), none⟩,
  ⟨(some 35), (Op.load 3 (Operand.tmp 34)), none⟩,
  ⟨(some 36), (Op.call { callee := (Callee.value (Operand.func 39)), args := #[(Operand.tmp 35), (Operand.const (Value.int IntKind.i64 1)), (Operand.const (Value.int IntKind.i64 90))], argTypes := #[3, 3, 3] }), none⟩,
  ⟨(some 37), (Op.move (Operand.tmp 36)), none⟩,
  ⟨(some 38), (Op.fieldAddr 23 (Operand.tmp 1) 3), (some (37, true))⟩,
  ⟨(some 39), (Op.load 3 (Operand.tmp 38)), (some (37, true))⟩,
  ⟨(some 40), (Op.binOp BinOp.eql 3 (Operand.tmp 39) (Operand.const (Value.int IntKind.i64 0)) 3), (some (37, true))⟩,
  ⟨(some 41), (Op.pick (Operand.tmp 37) (Operand.tmp 40) (Operand.const (Value.bool false))), none⟩,
  ⟨(some 2), (Op.assign (Operand.tmp 41)), none⟩]
attribute [go_sem] r14_8
def k14_4 : PC := (.post (.reg r14_8) ⟨[2], [], []⟩)
def r14_9 : List PO := [⟨(some 42), (Op.fieldAddr 23 (Operand.tmp 1) 2), none⟩,
  ⟨(some 43), (Op.load 3 (Operand.tmp 42)), none⟩,
  ⟨(some 44), (Op.call { callee := (Callee.value (Operand.func 39)), args := #[(Operand.tmp 43), (Operand.const (Value.int IntKind.i64 1)), (Operand.const (Value.int IntKind.i64 90))], argTypes := #[3, 3, 3] }), none⟩,
  ⟨(some 45), (Op.move (Operand.tmp 44)), none⟩,
  ⟨(some 46), (Op.fieldAddr 23 (Operand.tmp 1) 3), (some (45, true))⟩,
  ⟨(some 47), (Op.load 3 (Operand.tmp 46)), (some (45, true))⟩,
  ⟨(some 48), (Op.call { callee := (Callee.value (Operand.func 39)), args := #[(Operand.tmp 47), (Operand.const (Value.int IntKind.i64 1)), (Operand.const (Value.int IntKind.i64 30))], argTypes := #[3, 3, 3] }), (some (45, true))⟩,
  ⟨(some 49), (Op.pick (Operand.tmp 45) (Operand.tmp 48) (Operand.const (Value.bool false))), none⟩,
  ⟨(some 2), (Op.assign (Operand.tmp 49)), none⟩]
attribute [go_sem] r14_9
def k14_5 : PC := (.post (.reg r14_9) ⟨[2], [], []⟩)
def r14_0 : List PO := [⟨(some 1), (Op.box 23 (Operand.tmp 0)), none⟩,
  ⟨(some 2), (Op.assign (Operand.const (Value.bool false))), none⟩]
attribute [go_sem] r14_0
def r14_2 : List PO := [⟨(some 2), (Op.assign (Operand.const (Value.bool false))), none⟩]
attribute [go_sem] r14_2
def r14_3 : List PO := [⟨(some 19), (Op.fieldAddr 23 (Operand.tmp 1) 0), none⟩,
  ⟨(some 20), (Op.load 3 (Operand.tmp 19)), none⟩]
attribute [go_sem] r14_3
def r14_4 : List PO := [⟨(some 22), (Op.binOp BinOp.eql 3 (Operand.tmp 20) (Operand.const (Value.int IntKind.i64 0)) 3), none⟩,
  ⟨(some 21), (Op.assign (Operand.tmp 22)), none⟩]
attribute [go_sem] r14_4
def r14_7 : List PO := [⟨(some 33), (Op.binOp BinOp.eql 3 (Operand.tmp 20) (Operand.const (Value.int IntKind.i64 2)) 3), none⟩,
  ⟨(some 32), (Op.assign (Operand.tmp 33)), none⟩]
attribute [go_sem] r14_7
def c14 : PC := (.seq (.reg r14_0) (.seq (.seq (.pre ⟨[1], [.old 0], []⟩ k14_1) (.cond (Operand.tmp 18) (.seq (.reg r14_2) .ret) .skip)) (.seq (.seq (.reg r14_3) (.block 0 (.seq (.seq (.reg r14_4) (.pre ⟨[1, 20, 21], [.old 0], []⟩ k14_2)) (.cond (Operand.tmp 21) (.seq (.pre ⟨[1], [.old 0], []⟩ k14_3) .ret) (.seq (.reg r14_7) (.cond (Operand.tmp 32) (.seq (.pre ⟨[1], [.old 0], []⟩ k14_4) .ret) .skip)))))) (.seq (.pre ⟨[1], [.old 0], []⟩ k14_5) .ret))))
def i14 : FnI := ⟨50, [(ResultVar.tmp 2)], c14, 0, [[0, 0, 0, 0, 0]], [[0]], false, false, 0⟩
-- loop.example/g00344/spec.StepSession
def r19_1 : List PO := [⟨(some 9), (Op.load 23 (Operand.tmp 2)), none⟩,
  ⟨(some 10), (Op.call { callee := (Callee.value (Operand.func 14)), args := #[(Operand.tmp 9)], argTypes := #[23] }), none⟩,
  ⟨(some 11), (Op.unOp UnOp.not 4 (Operand.tmp 10)), none⟩,
  ⟨(some 12), (Op.move (Operand.tmp 11)), none⟩,
  ⟨(some 13), (Op.load 39 (Operand.tmp 3)), (some (12, false))⟩,
  ⟨(some 14), (Op.call { callee := (Callee.value (Operand.func 41)), args := #[(Operand.tmp 13)], argTypes := #[39] }), (some (12, false))⟩,
  ⟨(some 15), (Op.unOp UnOp.not 4 (Operand.tmp 14)), (some (12, false))⟩,
  ⟨(some 16), (Op.pick (Operand.tmp 12) (Operand.const (Value.bool true)) (Operand.tmp 15)), none⟩]
attribute [go_sem] r19_1
def k19_1 : PC := (.post (.reg r19_1) ⟨[2, 3, 4, 16], [.old 0, .old 1, .old 2], []⟩)
def r19_0 : List PO := [⟨(some 2), (Op.box 23 (Operand.tmp 0)), none⟩,
  ⟨(some 3), (Op.box 39 (Operand.tmp 1)), none⟩,
  ⟨(some 4), (Op.alloc 23), none⟩,
  ⟨(some 5), (Op.assign (Operand.const (Value.slice none 0 0))), none⟩,
  ⟨(some 6), (Op.assign (Operand.const (Value.bool false))), none⟩]
attribute [go_sem] r19_0
def r19_2 : List PO := [⟨(some 17), (Op.build 23 #[]), none⟩,
  ⟨none, (Op.store 23 (Operand.tmp 4) (Operand.tmp 17)), none⟩,
  ⟨(some 5), (Op.assign (Operand.const (Value.slice none 0 0))), none⟩,
  ⟨(some 6), (Op.assign (Operand.const (Value.bool false))), none⟩]
attribute [go_sem] r19_2
def r19_3 : List PO := [⟨(some 19), (Op.load 23 (Operand.tmp 2)), none⟩,
  ⟨(some 20), (Op.load 39 (Operand.tmp 3)), none⟩,
  ⟨(some 21), (Op.call { callee := (Callee.value (Operand.func 42)), args := #[(Operand.tmp 19), (Operand.tmp 20)], argTypes := #[23, 39] }), none⟩,
  ⟨(some 18), (Op.move (Operand.tmp 21)), none⟩,
  ⟨(some 22), (Op.extract (Operand.tmp 18) 0), none⟩,
  ⟨(some 23), (Op.extract (Operand.tmp 18) 1), none⟩,
  ⟨(some 7), (Op.alloc 23), none⟩,
  ⟨none, (Op.store 23 (Operand.tmp 7) (Operand.tmp 22)), none⟩,
  ⟨(some 8), (Op.assign (Operand.tmp 23)), none⟩]
attribute [go_sem] r19_3
def r19_4 : List PO := [⟨(some 24), (Op.load 23 (Operand.tmp 7)), none⟩,
  ⟨(some 25), (Op.move (Operand.tmp 8)), none⟩,
  ⟨none, (Op.store 23 (Operand.tmp 4) (Operand.tmp 24)), none⟩,
  ⟨(some 5), (Op.assign (Operand.tmp 25)), none⟩,
  ⟨(some 6), (Op.assign (Operand.const (Value.bool true))), none⟩]
attribute [go_sem] r19_4
def c19 : PC := (.seq (.reg r19_0) (.seq (.seq (.pre ⟨[2, 3, 4], [.old 0, .old 1, .old 2], []⟩ k19_1) (.cond (Operand.tmp 16) (.seq (.reg r19_2) .ret) .skip)) (.seq (.reg r19_3) (.seq (.reg r19_4) .ret))))
def i19 : FnI := ⟨26, [(ResultVar.cell 4 23), (ResultVar.tmp 5), (ResultVar.tmp 6)], c19, 0, [[0, 0, 0, 0, 0], [0, 0]], [[0, 0, 0, 0, 0], [1], [0]], false, false, 0⟩
-- loop.example/g00344/spec.DrawNewSession
def r38_0 : List PO := [⟨(some 2), (Op.assign (Operand.const (Value.int IntKind.i64 0))), none⟩]
attribute [go_sem] r38_0
def r38_1 : List PO := [⟨(some 4), (Op.move (Operand.tmp 0)), none⟩,
  ⟨(some 5), (Op.build 88 #[(0, (Operand.tmp 4))]), none⟩,
  ⟨(some 6), (Op.box 88 (Operand.tmp 5)), none⟩,
  ⟨(some 3), (Op.assign (Operand.tmp 6)), none⟩]
attribute [go_sem] r38_1
def r38_2 : List PO := [⟨(some 7), (Op.move (Operand.tmp 3)), none⟩,
  ⟨(some 8), (Op.buildSlice 36 5 #[(0, (Operand.const (Value.int IntKind.i64 2))), (1, (Operand.const (Value.int IntKind.i64 3))), (2, (Operand.const (Value.int IntKind.i64 9))), (3, (Operand.const (Value.int IntKind.i64 90))), (4, (Operand.const (Value.int IntKind.i64 91)))]), none⟩,
  ⟨(some 9), (Op.call { callee := (Callee.value (Operand.func 57)), args := #[(Operand.tmp 7), (Operand.tmp 8)], argTypes := #[85, 36] }), none⟩,
  ⟨(some 2), (Op.assign (Operand.tmp 9)), none⟩]
attribute [go_sem] r38_2
def c38 : PC := (.seq (.reg r38_0) (.seq (.reg r38_1) (.seq (.reg r38_2) .ret)))
def i38 : FnI := ⟨10, [(ResultVar.tmp 2)], c38, 0, [[1]], [[0]], false, false, 0⟩
-- loop.example/g00344/laws.FnSession
def r10_6 : List PO := [⟨(some 62), (Op.move (Operand.tmp 9)), none⟩,
  ⟨(some 63), (Op.move (Operand.tmp 12)), none⟩,
  ⟨(some 64), (Op.binOp BinOp.neq 4 (Operand.tmp 62) (Operand.tmp 63) 4), none⟩,
  ⟨(some 65), (Op.move (Operand.tmp 64)), none⟩,
  ⟨(some 66), (Op.load 23 (Operand.tmp 7)), (some (65, false))⟩,
  ⟨(some 67), (Op.load 23 (Operand.tmp 10)), (some (65, false))⟩,
  ⟨(some 68), (Op.binOp BinOp.neq 23 (Operand.tmp 66) (Operand.tmp 67) 23), (some (65, false))⟩,
  ⟨(some 69), (Op.pick (Operand.tmp 65) (Operand.const (Value.bool true)) (Operand.tmp 68)), none⟩,
  ⟨(some 70), (Op.move (Operand.tmp 69)), none⟩,
  ⟨(some 71), (Op.move (Operand.tmp 8)), (some (70, false))⟩,
  ⟨(some 72), (Op.move (Operand.tmp 11)), (some (70, false))⟩,
  ⟨(some 73), (Op.call { callee := (Callee.value (Operand.func 36)), args := #[(Operand.tmp 71), (Operand.tmp 72)], argTypes := #[36, 36] }), (some (70, false))⟩,
  ⟨(some 74), (Op.unOp UnOp.not 4 (Operand.tmp 73)), (some (70, false))⟩,
  ⟨(some 75), (Op.pick (Operand.tmp 70) (Operand.const (Value.bool true)) (Operand.tmp 74)), none⟩]
attribute [go_sem] r10_6
def k10_1 : PC := (.post (.reg r10_6) ⟨[1, 5, 6, 7, 9, 75], [.old 0, .old 1], []⟩)
def r10_18 : List PO := [⟨(some 91), (Op.move (Operand.tmp 14)), none⟩,
  ⟨(some 92), (Op.binOp BinOp.add 3 (Operand.tmp 91) (Operand.const (Value.int IntKind.i64 1)) 3), none⟩,
  ⟨(some 14), (Op.assign (Operand.tmp 92)), none⟩]
attribute [go_sem] r10_18
def k10_7 : PC := (.cond (Operand.tmp 89) (.post (.reg r10_18) ⟨[1, 5, 7, 13, 14, 77, 78, 79], [.old 0, .old 1], []⟩) (.post .skip ⟨[1, 5, 7, 13, 14, 77, 78, 79], [.old 0, .old 1], []⟩))
def r10_16 : List PO := [⟨(some 87), (Op.move (Operand.tmp 13)), none⟩,
  ⟨(some 88), (Op.binOp BinOp.add 3 (Operand.tmp 87) (Operand.const (Value.int IntKind.i64 1)) 3), none⟩,
  ⟨(some 13), (Op.assign (Operand.tmp 88)), none⟩]
attribute [go_sem] r10_16
def r10_17 : List PO := [⟨(some 90), (Op.binOp BinOp.eql 3 (Operand.tmp 84) (Operand.const (Value.int IntKind.i64 7)) 3), none⟩,
  ⟨(some 89), (Op.assign (Operand.tmp 90)), none⟩]
attribute [go_sem] r10_17
def k10_6 : PC := (.cond (Operand.tmp 85) (.post (.reg r10_16) ⟨[1, 5, 7, 13, 14, 77, 78, 79], [.old 0, .old 1], []⟩) (.seq (.reg r10_17) (.post (.pre ⟨[1, 5, 7, 13, 14, 77, 78, 79, 89], [.old 0, .old 1], []⟩ k10_7) ⟨[1, 5, 7, 13, 14, 77, 78, 79], [.old 0, .old 1], []⟩)))
def r10_12 : List PO := [⟨(some 80), (Op.binOp BinOp.lss 3 (Operand.tmp 79) (Operand.tmp 78) 3), none⟩]
attribute [go_sem] r10_12
def r10_13 : List PO := [⟨(some 81), (Op.indexAddr 47 (Operand.tmp 77) (Operand.tmp 79)), none⟩,
  ⟨(some 82), (Op.load 39 (Operand.tmp 81)), none⟩,
  ⟨(some 16), (Op.alloc 39), none⟩,
  ⟨none, (Op.store 39 (Operand.tmp 16) (Operand.tmp 82)), none⟩]
attribute [go_sem] r10_13
def r10_14 : List PO := [⟨(some 83), (Op.fieldAddr 39 (Operand.tmp 16) 0), none⟩,
  ⟨(some 84), (Op.load 3 (Operand.tmp 83)), none⟩]
attribute [go_sem] r10_14
def r10_15 : List PO := [⟨(some 86), (Op.binOp BinOp.eql 3 (Operand.tmp 84) (Operand.const (Value.int IntKind.i64 5)) 3), none⟩,
  ⟨(some 85), (Op.assign (Operand.tmp 86)), none⟩]
attribute [go_sem] r10_15
def r10_19 : List PO := [⟨(some 93), (Op.binOp BinOp.add 3 (Operand.tmp 79) (Operand.const (Value.int IntKind.i64 1)) 3), none⟩,
  ⟨(some 79), (Op.move (Operand.tmp 93)), none⟩]
attribute [go_sem] r10_19
def k10_3b : PC := (.seq (.reg r10_12) (.seq (.cond (Operand.tmp 80) .skip (.pre ⟨[1, 5, 7, 13, 14], [.old 0], []⟩ (.exit 0))) (.seq (.block 1 (.seq (.reg r10_13) (.seq (.reg r10_14) (.block 2 (.seq (.reg r10_15) (.pre ⟨[1, 5, 7, 13, 14, 77, 78, 79, 84, 85], [.old 0, .old 1], []⟩ k10_6)))))) (.post (.reg r10_19) ⟨[1, 5, 7, 13, 14, 77, 78, 79], [.old 0, .old 1], []⟩))))
def r10_21 : List PO := [⟨(some 99), (Op.load 23 (Operand.tmp 7)), none⟩,
  ⟨(some 100), (Op.call { callee := (Callee.value (Operand.func 16)), args := #[(Operand.tmp 99)], argTypes := #[23] }), none⟩,
  ⟨(some 101), (Op.unOp UnOp.not 4 (Operand.tmp 100)), none⟩,
  ⟨(some 102), (Op.move (Operand.tmp 101)), none⟩,
  ⟨(some 103), (Op.move (Operand.tmp 18)), (some (102, false))⟩,
  ⟨(some 104), (Op.unOp UnOp.not 4 (Operand.tmp 103)), (some (102, false))⟩,
  ⟨(some 105), (Op.pick (Operand.tmp 102) (Operand.const (Value.bool true)) (Operand.tmp 104)), none⟩,
  ⟨(some 106), (Op.move (Operand.tmp 105)), none⟩,
  ⟨(some 107), (Op.fieldAddr 23 (Operand.tmp 7) 4), (some (106, false))⟩,
  ⟨(some 108), (Op.load 3 (Operand.tmp 107)), (some (106, false))⟩,
  ⟨(some 109), (Op.move (Operand.tmp 13)), (some (106, false))⟩,
  ⟨(some 110), (Op.binOp BinOp.gtr 3 (Operand.tmp 108) (Operand.tmp 109) 3), (some (106, false))⟩,
  ⟨(some 111), (Op.pick (Operand.tmp 106) (Operand.const (Value.bool true)) (Operand.tmp 110)), none⟩,
  ⟨(some 112), (Op.move (Operand.tmp 111)), none⟩,
  ⟨(some 113), (Op.fieldAddr 23 (Operand.tmp 7) 4), (some (112, false))⟩,
  ⟨(some 114), (Op.load 3 (Operand.tmp 113)), (some (112, false))⟩,
  ⟨(some 115), (Op.move (Operand.tmp 14)), (some (112, false))⟩,
  ⟨(some 116), (Op.binOp BinOp.gtr 3 (Operand.tmp 114) (Operand.tmp 115) 3), (some (112, false))⟩,
  ⟨(some 117), (Op.pick (Operand.tmp 112) (Operand.const (Value.bool true)) (Operand.tmp 116)), none⟩,
  ⟨(some 118), (Op.move (Operand.tmp 117)), none⟩,
  ⟨(some 119), (Op.move (Operand.tmp 17)), (some (118, false))⟩,
  ⟨(some 120), (Op.move (Operand.tmp 119)), (some (118, false))⟩,
  ⟨(some 121), (Op.fieldAddr 23 (Operand.tmp 7) 4), (some (120, true))⟩,
  ⟨(some 122), (Op.load 3 (Operand.tmp 121)), (some (120, true))⟩,
  ⟨(some 123), (Op.binOp BinOp.eql 3 (Operand.tmp 122) (Operand.const (Value.int IntKind.i64 0)) 3), (some (120, true))⟩,
  ⟨(some 124), (Op.pick (Operand.tmp 120) (Operand.tmp 123) (Operand.const (Value.bool false))), (some (118, false))⟩,
  ⟨(some 125), (Op.pick (Operand.tmp 118) (Operand.const (Value.bool true)) (Operand.tmp 124)), none⟩,
  ⟨(some 126), (Op.move (Operand.tmp 125)), none⟩,
  ⟨(some 127), (Op.fieldAddr 23 (Operand.tmp 7) 1), (some (126, false))⟩,
  ⟨(some 128), (Op.load 3 (Operand.tmp 127)), (some (126, false))⟩,
  ⟨(some 129), (Op.move (Operand.tmp 5)), (some (126, false))⟩,
  ⟨(some 130), (Op.binOp BinOp.gtr 3 (Operand.tmp 128) (Operand.tmp 129) 3), (some (126, false))⟩,
  ⟨(some 131), (Op.pick (Operand.tmp 126) (Operand.const (Value.bool true)) (Operand.tmp 130)), none⟩]
attribute [go_sem] r10_21
def k10_8 : PC := (.post (.reg r10_21) ⟨[1, 7, 131], [.old 0], []⟩)
def r10_25 : List PO := [⟨(some 133), (Op.move (Operand.tmp 20)), none⟩,
  ⟨(some 134), (Op.fieldAddr 23 (Operand.tmp 7) 2), none⟩,
  ⟨(some 135), (Op.load 3 (Operand.tmp 134)), none⟩,
  ⟨(some 136), (Op.binOp BinOp.lss 3 (Operand.tmp 133) (Operand.tmp 135) 3), none⟩]
attribute [go_sem] r10_25
def r10_27 : List PO := [⟨(some 140), (Op.load 23 (Operand.tmp 19)), none⟩,
  ⟨(some 141), (Op.build 39 #[(0, (Operand.const (Value.int IntKind.i64 10)))]), none⟩,
  ⟨(some 142), (Op.call { callee := (Callee.value (Operand.func 21)), args := #[(Operand.tmp 140), (Operand.tmp 141)], argTypes := #[23, 39] }), none⟩,
  ⟨(some 139), (Op.move (Operand.tmp 142)), none⟩,
  ⟨(some 143), (Op.extract (Operand.tmp 139) 0), none⟩,
  ⟨(some 144), (Op.extract (Operand.tmp 139) 1), none⟩,
  ⟨(some 145), (Op.extract (Operand.tmp 139) 2), none⟩,
  ⟨(some 21), (Op.alloc 23), none⟩,
  ⟨none, (Op.store 23 (Operand.tmp 21) (Operand.tmp 143)), none⟩,
  ⟨(some 22), (Op.assign (Operand.tmp 144)), none⟩,
  ⟨(some 23), (Op.assign (Operand.tmp 145)), none⟩]
attribute [go_sem] r10_27
def r10_28 : List PO := [⟨(some 146), (Op.move (Operand.tmp 23)), none⟩,
  ⟨(some 147), (Op.unOp UnOp.not 4 (Operand.tmp 146)), none⟩]
attribute [go_sem] r10_28
def r10_29 : List PO := [⟨(some 4), (Op.assign (Operand.const (Value.bool false))), none⟩]
attribute [go_sem] r10_29
def r10_30 : List PO := [⟨(some 148), (Op.load 23 (Operand.tmp 21)), none⟩,
  ⟨none, (Op.store 23 (Operand.tmp 19) (Operand.tmp 148)), none⟩]
attribute [go_sem] r10_30
def r10_26 : List PO := [⟨(some 137), (Op.move (Operand.tmp 20)), none⟩,
  ⟨(some 138), (Op.binOp BinOp.add 3 (Operand.tmp 137) (Operand.const (Value.int IntKind.i64 1)) 3), none⟩,
  ⟨(some 20), (Op.assign (Operand.tmp 138)), none⟩]
attribute [go_sem] r10_26
def k10_9b : PC := (.seq (.seq (.reg r10_25) (.cond (Operand.tmp 136) .skip (.pre ⟨[1, 7, 19], [.old 0, .old 1], []⟩ (.exit 3)))) (.seq (.block 4 (.seq (.reg r10_27) (.seq (.seq (.reg r10_28) (.cond (Operand.tmp 147) (.seq (.reg r10_29) (.pre ⟨[4], [], []⟩ .ret)) .skip)) (.reg r10_30)))) (.post (.reg r10_26) ⟨[1, 7, 19, 20], [.old 0, .old 1], []⟩)))
def r10_31 : List PO := [⟨(some 149), (Op.fieldAddr 23 (Operand.tmp 7) 0), none⟩,
  ⟨(some 150), (Op.load 3 (Operand.tmp 149)), none⟩,
  ⟨(some 151), (Op.binOp BinOp.geq 3 (Operand.tmp 150) (Operand.const (Value.int IntKind.i64 2)) 3), none⟩,
  ⟨(some 152), (Op.move (Operand.tmp 151)), none⟩,
  ⟨(some 153), (Op.fieldAddr 23 (Operand.tmp 19) 0), (some (152, true))⟩,
  ⟨(some 154), (Op.load 3 (Operand.tmp 153)), (some (152, true))⟩,
  ⟨(some 155), (Op.binOp BinOp.neq 3 (Operand.tmp 154) (Operand.const (Value.int IntKind.i64 0)) 3), (some (152, true))⟩,
  ⟨(some 156), (Op.pick (Operand.tmp 152) (Operand.tmp 155) (Operand.const (Value.bool false))), none⟩]
attribute [go_sem] r10_31
def k10_10 : PC := (.post (.reg r10_31) ⟨[1, 156], [], []⟩)
def r10_9 : List PO := [⟨(some 13), (Op.assign (Operand.const (Value.int IntKind.i64 0))), none⟩]
attribute [go_sem] r10_9
def r10_10 : List PO := [⟨(some 14), (Op.assign (Operand.const (Value.int IntKind.i64 0))), none⟩]
attribute [go_sem] r10_10
def r10_11 : List PO := [⟨(some 77), (Op.move (Operand.tmp 6)), none⟩,
  ⟨(some 78), (Op.call { callee := (Callee.builtin Builtin.len), args := #[(Operand.tmp 77)], argTypes := #[47] }), none⟩,
  ⟨(some 79), (Op.move (Operand.const (Value.int IntKind.i64 0))), none⟩]
attribute [go_sem] r10_11
def r10_20 : List PO := [⟨(some 95), (Op.load 23 (Operand.tmp 7)), none⟩,
  ⟨(some 96), (Op.call { callee := (Callee.value (Operand.func 18)), args := #[(Operand.tmp 95)], argTypes := #[23] }), none⟩,
  ⟨(some 94), (Op.move (Operand.tmp 96)), none⟩,
  ⟨(some 97), (Op.extract (Operand.tmp 94) 0), none⟩,
  ⟨(some 98), (Op.extract (Operand.tmp 94) 1), none⟩,
  ⟨(some 17), (Op.assign (Operand.tmp 97)), none⟩,
  ⟨(some 18), (Op.assign (Operand.tmp 98)), none⟩]
attribute [go_sem] r10_20
def r10_22 : List PO := [⟨(some 4), (Op.assign (Operand.const (Value.bool false))), none⟩]
attribute [go_sem] r10_22
def r10_23 : List PO := [⟨(some 132), (Op.load 23 (Operand.tmp 7)), none⟩,
  ⟨(some 19), (Op.alloc 23), none⟩,
  ⟨none, (Op.store 23 (Operand.tmp 19) (Operand.tmp 132)), none⟩]
attribute [go_sem] r10_23
def r10_24 : List PO := [⟨(some 20), (Op.assign (Operand.const (Value.int IntKind.i64 0))), none⟩]
attribute [go_sem] r10_24
def r10_32 : List PO := [⟨(some 4), (Op.assign (Operand.const (Value.bool false))), none⟩]
attribute [go_sem] r10_32
def k10_2 : PC := (.cond (Operand.tmp 76) (.seq (.reg r10_9) (.seq (.reg r10_10) (.seq (.seq (.reg r10_11) (.block 0 (.pre ⟨[1, 5, 7, 13, 14, 77, 78, 79], [.old 1, .old 0], []⟩ (.loop k10_3b)))) (.seq (.reg r10_20) (.seq (.seq (.pre ⟨[1, 5, 7, 13, 14, 17, 18], [.old 0], []⟩ k10_8) (.cond (Operand.tmp 131) (.seq (.reg r10_22) (.pre ⟨[4], [], []⟩ .ret)) .skip)) (.seq (.reg r10_23) (.seq (.seq (.reg r10_24) (.block 3 (.pre ⟨[1, 7, 19, 20], [.old 0, .old 1], []⟩ (.loop k10_9b)))) (.seq (.pre ⟨[1, 7, 19], [.old 0, .old 1], []⟩ k10_10) (.cond (Operand.tmp 156) (.seq (.reg r10_32) (.pre ⟨[4], [], []⟩ .ret)) (.post .skip ⟨[1], [], []⟩)))))))))) (.post .skip ⟨[1], [], []⟩))
def r10_39 : List PO := [⟨(some 188), (Op.move (Operand.tmp 28)), none⟩,
  ⟨(some 189), (Op.move (Operand.tmp 31)), none⟩,
  ⟨(some 190), (Op.binOp BinOp.neq 4 (Operand.tmp 188) (Operand.tmp 189) 4), none⟩,
  ⟨(some 191), (Op.move (Operand.tmp 190)), none⟩,
  ⟨(some 192), (Op.load 23 (Operand.tmp 26)), (some (191, false))⟩,
  ⟨(some 193), (Op.load 23 (Operand.tmp 29)), (some (191, false))⟩,
  ⟨(some 194), (Op.binOp BinOp.neq 23 (Operand.tmp 192) (Operand.tmp 193) 23), (some (191, false))⟩,
  ⟨(some 195), (Op.pick (Operand.tmp 191) (Operand.const (Value.bool true)) (Operand.tmp 194)), none⟩,
  ⟨(some 196), (Op.move (Operand.tmp 195)), none⟩,
  ⟨(some 197), (Op.move (Operand.tmp 27)), (some (196, false))⟩,
  ⟨(some 198), (Op.move (Operand.tmp 30)), (some (196, false))⟩,
  ⟨(some 199), (Op.call { callee := (Callee.value (Operand.func 36)), args := #[(Operand.tmp 197), (Operand.tmp 198)], argTypes := #[36, 36] }), (some (196, false))⟩,
  ⟨(some 200), (Op.unOp UnOp.not 4 (Operand.tmp 199)), (some (196, false))⟩,
  ⟨(some 201), (Op.pick (Operand.tmp 196) (Operand.const (Value.bool true)) (Operand.tmp 200)), none⟩,
  ⟨(some 202), (Op.move (Operand.tmp 201)), none⟩,
  ⟨(some 203), (Op.move (Operand.tmp 34)), (some (202, false))⟩,
  ⟨(some 204), (Op.move (Operand.tmp 36)), (some (202, false))⟩,
  ⟨(some 205), (Op.binOp BinOp.neq 4 (Operand.tmp 203) (Operand.tmp 204) 4), (some (202, false))⟩,
  ⟨(some 206), (Op.pick (Operand.tmp 202) (Operand.const (Value.bool true)) (Operand.tmp 205)), none⟩,
  ⟨(some 207), (Op.move (Operand.tmp 206)), none⟩,
  ⟨(some 208), (Op.load 23 (Operand.tmp 33)), (some (207, false))⟩,
  ⟨(some 209), (Op.load 23 (Operand.tmp 35)), (some (207, false))⟩,
  ⟨(some 210), (Op.binOp BinOp.neq 23 (Operand.tmp 208) (Operand.tmp 209) 23), (some (207, false))⟩,
  ⟨(some 211), (Op.pick (Operand.tmp 207) (Operand.const (Value.bool true)) (Operand.tmp 210)), none⟩,
  ⟨(some 212), (Op.move (Operand.tmp 211)), none⟩,
  ⟨(some 213), (Op.load 23 (Operand.tmp 24)), (some (212, false))⟩,
  ⟨(some 214), (Op.call { callee := (Callee.value (Operand.func 16)), args := #[(Operand.tmp 213)], argTypes := #[23] }), (some (212, false))⟩,
  ⟨(some 215), (Op.load 23 (Operand.tmp 24)), (some (212, false))⟩,
  ⟨(some 216), (Op.call { callee := (Callee.value (Operand.func 14)), args := #[(Operand.tmp 215)], argTypes := #[23] }), (some (212, false))⟩,
  ⟨(some 217), (Op.binOp BinOp.neq 4 (Operand.tmp 214) (Operand.tmp 216) 4), (some (212, false))⟩,
  ⟨(some 218), (Op.pick (Operand.tmp 212) (Operand.const (Value.bool true)) (Operand.tmp 217)), none⟩]
attribute [go_sem] r10_39
def k10_11 : PC := (.post (.fz r10_39) ⟨[26, 28, 218], [.old 1], []⟩)
def r10_41 : List PO := [⟨(some 219), (Op.move (Operand.tmp 28)), none⟩,
  ⟨(some 220), (Op.unOp UnOp.not 4 (Operand.tmp 219)), none⟩,
  ⟨(some 221), (Op.move (Operand.tmp 220)), none⟩,
  ⟨(some 222), (Op.load 23 (Operand.tmp 26)), (some (221, false))⟩,
  ⟨(some 223), (Op.call { callee := (Callee.value (Operand.func 16)), args := #[(Operand.tmp 222)], argTypes := #[23] }), (some (221, false))⟩,
  ⟨(some 224), (Op.pick (Operand.tmp 221) (Operand.const (Value.bool true)) (Operand.tmp 223)), none⟩,
  ⟨(some 4), (Op.assign (Operand.tmp 224)), none⟩]
attribute [go_sem] r10_41
def k10_12 : PC := (.post (.reg r10_41) ⟨[4], [], []⟩)
def r10_0 : List PO := [⟨(some 4), (Op.assign (Operand.const (Value.bool false))), none⟩]
attribute [go_sem] r10_0
def r10_1 : List PO := [⟨(some 37), (Op.move (Operand.tmp 0)), none⟩,
  ⟨(some 38), (Op.call { callee := (Callee.builtin Builtin.len), args := #[(Operand.tmp 37)], argTypes := #[56] }), none⟩,
  ⟨(some 39), (Op.move (Operand.tmp 1)), none⟩,
  ⟨(some 40), (Op.call { callee := (Callee.builtin Builtin.len), args := #[(Operand.tmp 39)], argTypes := #[56] }), none⟩,
  ⟨(some 41), (Op.binOp BinOp.add 3 (Operand.tmp 38) (Operand.tmp 40) 3), none⟩,
  ⟨(some 42), (Op.binOp BinOp.gtr 3 (Operand.tmp 41) (Operand.const (Value.int IntKind.i64 1048576)) 3), none⟩]
attribute [go_sem] r10_1
def r10_2 : List PO := [⟨(some 4), (Op.assign (Operand.const (Value.bool true))), none⟩]
attribute [go_sem] r10_2
def r10_3 : List PO := [⟨(some 44), (Op.move (Operand.tmp 0)), none⟩,
  ⟨(some 45), (Op.call { callee := (Callee.value (Operand.func 35)), args := #[(Operand.tmp 44)], argTypes := #[56] }), none⟩,
  ⟨(some 43), (Op.move (Operand.tmp 45)), none⟩,
  ⟨(some 46), (Op.extract (Operand.tmp 43) 0), none⟩,
  ⟨(some 47), (Op.extract (Operand.tmp 43) 1), none⟩,
  ⟨(some 5), (Op.assign (Operand.tmp 46)), none⟩,
  ⟨(some 6), (Op.assign (Operand.tmp 47)), none⟩]
attribute [go_sem] r10_3
def r10_4 : List PO := [⟨(some 49), (Op.move (Operand.tmp 5)), none⟩,
  ⟨(some 50), (Op.move (Operand.tmp 6)), none⟩,
  ⟨(some 51), (Op.call { callee := (Callee.value (Operand.func 28)), args := #[(Operand.tmp 49), (Operand.tmp 50)], argTypes := #[3, 47] }), none⟩,
  ⟨(some 48), (Op.move (Operand.tmp 51)), none⟩,
  ⟨(some 52), (Op.extract (Operand.tmp 48) 0), none⟩,
  ⟨(some 53), (Op.extract (Operand.tmp 48) 1), none⟩,
  ⟨(some 54), (Op.extract (Operand.tmp 48) 2), none⟩,
  ⟨(some 7), (Op.alloc 23), none⟩,
  ⟨none, (Op.store 23 (Operand.tmp 7) (Operand.tmp 52)), none⟩,
  ⟨(some 8), (Op.assign (Operand.tmp 53)), none⟩,
  ⟨(some 9), (Op.assign (Operand.tmp 54)), none⟩]
attribute [go_sem] r10_4
def r10_5 : List PO := [⟨(some 56), (Op.move (Operand.tmp 5)), none⟩,
  ⟨(some 57), (Op.move (Operand.tmp 6)), none⟩,
  ⟨(some 58), (Op.call { callee := (Callee.value (Operand.func 26)), args := #[(Operand.tmp 56), (Operand.tmp 57)], argTypes := #[3, 47] }), none⟩,
  ⟨(some 55), (Op.move (Operand.tmp 58)), none⟩,
  ⟨(some 59), (Op.extract (Operand.tmp 55) 0), none⟩,
  ⟨(some 60), (Op.extract (Operand.tmp 55) 1), none⟩,
  ⟨(some 61), (Op.extract (Operand.tmp 55) 2), none⟩,
  ⟨(some 10), (Op.alloc 23), none⟩,
  ⟨none, (Op.store 23 (Operand.tmp 10) (Operand.tmp 59)), none⟩,
  ⟨(some 11), (Op.assign (Operand.tmp 60)), none⟩,
  ⟨(some 12), (Op.assign (Operand.tmp 61)), none⟩]
attribute [go_sem] r10_5
def r10_7 : List PO := [⟨(some 4), (Op.assign (Operand.const (Value.bool false))), none⟩]
attribute [go_sem] r10_7
def r10_8 : List PO := [⟨(some 76), (Op.move (Operand.tmp 9)), none⟩]
attribute [go_sem] r10_8
def r10_33 : List PO := [⟨(some 158), (Op.move (Operand.tmp 1)), none⟩,
  ⟨(some 159), (Op.call { callee := (Callee.value (Operand.func 37)), args := #[(Operand.tmp 158)], argTypes := #[56] }), none⟩,
  ⟨(some 157), (Op.move (Operand.tmp 159)), none⟩,
  ⟨(some 160), (Op.extract (Operand.tmp 157) 0), none⟩,
  ⟨(some 161), (Op.extract (Operand.tmp 157) 1), none⟩,
  ⟨(some 24), (Op.alloc 23), none⟩,
  ⟨(some 25), (Op.alloc 39), none⟩,
  ⟨none, (Op.store 23 (Operand.tmp 24) (Operand.tmp 160)), none⟩,
  ⟨none, (Op.store 39 (Operand.tmp 25) (Operand.tmp 161)), none⟩]
attribute [go_sem] r10_33
def r10_34 : List PO := [⟨(some 163), (Op.load 23 (Operand.tmp 24)), none⟩,
  ⟨(some 164), (Op.load 39 (Operand.tmp 25)), none⟩,
  ⟨(some 165), (Op.call { callee := (Callee.value (Operand.func 21)), args := #[(Operand.tmp 163), (Operand.tmp 164)], argTypes := #[23, 39] }), none⟩,
  ⟨(some 162), (Op.move (Operand.tmp 165)), none⟩,
  ⟨(some 166), (Op.extract (Operand.tmp 162) 0), none⟩,
  ⟨(some 167), (Op.extract (Operand.tmp 162) 1), none⟩,
  ⟨(some 168), (Op.extract (Operand.tmp 162) 2), none⟩,
  ⟨(some 26), (Op.alloc 23), none⟩,
  ⟨none, (Op.store 23 (Operand.tmp 26) (Operand.tmp 166)), none⟩,
  ⟨(some 27), (Op.assign (Operand.tmp 167)), none⟩,
  ⟨(some 28), (Op.assign (Operand.tmp 168)), none⟩]
attribute [go_sem] r10_34
def r10_35 : List PO := [⟨(some 170), (Op.load 23 (Operand.tmp 24)), none⟩,
  ⟨(some 171), (Op.load 39 (Operand.tmp 25)), none⟩,
  ⟨(some 172), (Op.call { callee := (Callee.value (Operand.func 19)), args := #[(Operand.tmp 170), (Operand.tmp 171)], argTypes := #[23, 39] }), none⟩,
  ⟨(some 169), (Op.move (Operand.tmp 172)), none⟩,
  ⟨(some 173), (Op.extract (Operand.tmp 169) 0), none⟩,
  ⟨(some 174), (Op.extract (Operand.tmp 169) 1), none⟩,
  ⟨(some 175), (Op.extract (Operand.tmp 169) 2), none⟩,
  ⟨(some 29), (Op.alloc 23), none⟩,
  ⟨none, (Op.store 23 (Operand.tmp 29) (Operand.tmp 173)), none⟩,
  ⟨(some 30), (Op.assign (Operand.tmp 174)), none⟩,
  ⟨(some 31), (Op.assign (Operand.tmp 175)), none⟩]
attribute [go_sem] r10_35
def r10_36 : List PO := [⟨(some 176), (Op.move (Operand.tmp 1)), none⟩,
  ⟨(some 177), (Op.call { callee := (Callee.value (Operand.func 38)), args := #[(Operand.tmp 176)], argTypes := #[56] }), none⟩,
  ⟨(some 32), (Op.assign (Operand.tmp 177)), none⟩]
attribute [go_sem] r10_36
def r10_37 : List PO := [⟨(some 179), (Op.move (Operand.tmp 32)), none⟩,
  ⟨(some 180), (Op.call { callee := (Callee.value (Operand.func 12)), args := #[(Operand.tmp 179)], argTypes := #[3] }), none⟩,
  ⟨(some 178), (Op.move (Operand.tmp 180)), none⟩,
  ⟨(some 181), (Op.extract (Operand.tmp 178) 0), none⟩,
  ⟨(some 182), (Op.extract (Operand.tmp 178) 1), none⟩,
  ⟨(some 33), (Op.alloc 23), none⟩,
  ⟨none, (Op.store 23 (Operand.tmp 33) (Operand.tmp 181)), none⟩,
  ⟨(some 34), (Op.assign (Operand.tmp 182)), none⟩]
attribute [go_sem] r10_37
def r10_38 : List PO := [⟨(some 184), (Op.move (Operand.tmp 32)), none⟩,
  ⟨(some 185), (Op.call { callee := (Callee.value (Operand.func 11)), args := #[(Operand.tmp 184)], argTypes := #[3] }), none⟩,
  ⟨(some 183), (Op.move (Operand.tmp 185)), none⟩,
  ⟨(some 186), (Op.extract (Operand.tmp 183) 0), none⟩,
  ⟨(some 187), (Op.extract (Operand.tmp 183) 1), none⟩,
  ⟨(some 35), (Op.alloc 23), none⟩,
  ⟨none, (Op.store 23 (Operand.tmp 35) (Operand.tmp 186)), none⟩,
  ⟨(some 36), (Op.assign (Operand.tmp 187)), none⟩]
attribute [go_sem] r10_38
def r10_40 : List PO := [⟨(some 4), (Op.assign (Operand.const (Value.bool false))), none⟩]
attribute [go_sem] r10_40
def c10 : PC := (.seq (.reg r10_0) (.seq (.seq (.reg r10_1) (.cond (Operand.tmp 42) (.seq (.reg r10_2) .ret) .skip)) (.seq (.reg r10_3) (.seq (.reg r10_4) (.seq (.reg r10_5) (.seq (.seq (.pre ⟨[1, 5, 6, 7, 8, 9, 10, 11, 12], [.old 0, .old 2, .old 1, .old 4, .old 3], []⟩ k10_1) (.cond (Operand.tmp 75) (.seq (.reg r10_7) .ret) .skip)) (.seq (.seq (.reg r10_8) (.pre ⟨[1, 5, 6, 7, 76], [.old 0, .old 1], []⟩ k10_2)) (.seq (.reg r10_33) (.seq (.reg r10_34) (.seq (.reg r10_35) (.seq (.reg r10_36) (.seq (.reg r10_37) (.seq (.reg r10_38) (.seq (.seq (.pre ⟨[24, 26, 27, 28, 29, 30, 31, 33, 34, 35, 36], [.old 0, .old 3, .old 2, .old 5, .old 4, .old 6, .old 7], []⟩ k10_11) (.cond (Operand.tmp 218) (.seq (.reg r10_40) .ret) .skip)) (.seq (.pre ⟨[26, 28], [.old 0], []⟩ k10_12) .ret)))))))))))))))
def i10 : FnI := ⟨225, [(ResultVar.tmp 4)], c10, 0, [[1], [1]], [[0]], false, false, 0⟩
def tys : List (Nat × TyI) := [(3, ⟨1, 8, false, [.int .i64 0], [0], 0, [], .int .i64, false⟩),
  (4, ⟨1, 1, false, [.bool false], [0], 0, [], .bool, false⟩),
  (5, ⟨1, 1, false, [.int .u8 0], [0], 0, [], .int .u8, false⟩),
  (23, ⟨5, 40, true, [.int .i64 0, .int .i64 0, .int .i64 0, .int .i64 0, .int .i64 0], [0, 0, 0, 0, 0], 0, [(0, 1, false), (1, 1, false), (2, 1, false), (3, 1, false), (4, 1, false)], .other, true⟩),
  (36, ⟨1, 24, false, [.nil], [1], 3, [], .other, false⟩),
  (39, ⟨2, 16, true, [.int .i64 0, .int .i64 0], [0, 0], 0, [(0, 1, false), (1, 1, false)], .other, true⟩),
  (47, ⟨1, 24, false, [.nil], [2], 39, [], .other, false⟩),
  (56, ⟨1, 24, false, [.nil], [1], 5, [], .other, false⟩),
  (85, ⟨1, 8, false, [.nilp], [0], 0, [], .other, false⟩),
  (86, ⟨1, 8, false, [.int .u64 0], [0], 0, [], .int .u64, false⟩),
  (88, ⟨3, 40, true, [.nil, .int .i64 0, .int .u64 0], [1, 0, 0], 0, [(0, 1, false), (1, 1, false), (2, 1, false)], .other, false⟩),
  (99, ⟨1, 8, false, [.int .u64 0], [0], 0, [], .int .u64, false⟩)]
def fns : List (Nat × FnI) := [(10, i10), (11, i11), (12, i12), (14, i14), (16, i16), (18, i18), (19, i19), (21, i21), (26, i26), (28, i28), (35, i35), (36, i36), (37, i37), (38, i38), (39, i39), (40, i40), (41, i41), (42, i42), (43, i43), (44, i44), (45, i45), (46, i46), (49, i49), (55, i55), (56, i56), (57, i57), (58, i58), (59, i59), (60, i60), (61, i61), (62, i62), (63, i63), (65, i65)]
def T : Tab := mkTab tys fns
theorem ty3 : T.ty 3 = some ⟨1, 8, false, [.int .i64 0], [0], 0, [], .int .i64, false⟩ := rfl
theorem base3 : T.baseOf 3 = Bs.int .i64 := rfl
theorem ty4 : T.ty 4 = some ⟨1, 1, false, [.bool false], [0], 0, [], .bool, false⟩ := rfl
theorem base4 : T.baseOf 4 = Bs.bool := rfl
theorem ty5 : T.ty 5 = some ⟨1, 1, false, [.int .u8 0], [0], 0, [], .int .u8, false⟩ := rfl
theorem base5 : T.baseOf 5 = Bs.int .u8 := rfl
theorem ty23 : T.ty 23 = some ⟨5, 40, true, [.int .i64 0, .int .i64 0, .int .i64 0, .int .i64 0, .int .i64 0], [0, 0, 0, 0, 0], 0, [(0, 1, false), (1, 1, false), (2, 1, false), (3, 1, false), (4, 1, false)], .other, true⟩ := rfl
theorem base23 : T.baseOf 23 = Bs.other := rfl
theorem ty36 : T.ty 36 = some ⟨1, 24, false, [.nil], [1], 3, [], .other, false⟩ := rfl
theorem base36 : T.baseOf 36 = Bs.other := rfl
theorem elem36 : T.elemOf 36 = some ⟨1, 8, false, [.int .i64 0], [0], 0, [], .int .i64, false⟩ := rfl
theorem ty39 : T.ty 39 = some ⟨2, 16, true, [.int .i64 0, .int .i64 0], [0, 0], 0, [(0, 1, false), (1, 1, false)], .other, true⟩ := rfl
theorem base39 : T.baseOf 39 = Bs.other := rfl
theorem ty47 : T.ty 47 = some ⟨1, 24, false, [.nil], [2], 39, [], .other, false⟩ := rfl
theorem base47 : T.baseOf 47 = Bs.other := rfl
theorem elem47 : T.elemOf 47 = some ⟨2, 16, true, [.int .i64 0, .int .i64 0], [0, 0], 0, [(0, 1, false), (1, 1, false)], .other, true⟩ := rfl
theorem ty56 : T.ty 56 = some ⟨1, 24, false, [.nil], [1], 5, [], .other, false⟩ := rfl
theorem base56 : T.baseOf 56 = Bs.other := rfl
theorem elem56 : T.elemOf 56 = some ⟨1, 1, false, [.int .u8 0], [0], 0, [], .int .u8, false⟩ := rfl
theorem ty85 : T.ty 85 = some ⟨1, 8, false, [.nilp], [0], 0, [], .other, false⟩ := rfl
theorem base85 : T.baseOf 85 = Bs.other := rfl
theorem ty86 : T.ty 86 = some ⟨1, 8, false, [.int .u64 0], [0], 0, [], .int .u64, false⟩ := rfl
theorem base86 : T.baseOf 86 = Bs.int .u64 := rfl
theorem ty88 : T.ty 88 = some ⟨3, 40, true, [.nil, .int .i64 0, .int .u64 0], [1, 0, 0], 0, [(0, 1, false), (1, 1, false), (2, 1, false)], .other, false⟩ := rfl
theorem base88 : T.baseOf 88 = Bs.other := rfl
theorem ty99 : T.ty 99 = some ⟨1, 8, false, [.int .u64 0], [0], 0, [], .int .u64, false⟩ := rfl
theorem base99 : T.baseOf 99 = Bs.int .u64 := rfl
attribute [go_sem] ty3 base3 ty4 base4 ty5 base5 ty23 base23 ty36 base36 elem36 ty39 base39 ty47 base47 elem47 ty56 base56 elem56 ty85 base85 ty86 base86 ty88 base88 ty99 base99
theorem ok10 : FnOk Try.prog (10, i10) := ⟨Try.f10, _, Try.func10, rfl, by kernel_rfl, rfl, rfl, by kernel_rfl⟩
theorem ok11 : FnOk Try.prog (11, i11) := ⟨Try.f11, _, Try.func11, rfl, by kernel_rfl, rfl, rfl, by kernel_rfl⟩
theorem ok12 : FnOk Try.prog (12, i12) := ⟨Try.f12, _, Try.func12, rfl, by kernel_rfl, rfl, rfl, by kernel_rfl⟩
theorem ok14 : FnOk Try.prog (14, i14) := ⟨Try.f14, _, Try.func14, rfl, by kernel_rfl, rfl, rfl, by kernel_rfl⟩
theorem ok16 : FnOk Try.prog (16, i16) := ⟨Try.f16, _, Try.func16, rfl, by kernel_rfl, rfl, rfl, by kernel_rfl⟩
theorem ok18 : FnOk Try.prog (18, i18) := ⟨Try.f18, _, Try.func18, rfl, by kernel_rfl, rfl, rfl, by kernel_rfl⟩
theorem ok19 : FnOk Try.prog (19, i19) := ⟨Try.f19, _, Try.func19, rfl, by kernel_rfl, rfl, rfl, by kernel_rfl⟩
theorem ok21 : FnOk Try.prog (21, i21) := ⟨Try.f21, _, Try.func21, rfl, by kernel_rfl, rfl, rfl, by kernel_rfl⟩
theorem ok26 : FnOk Try.prog (26, i26) := ⟨Try.f26, _, Try.func26, rfl, by kernel_rfl, rfl, rfl, by kernel_rfl⟩
theorem ok28 : FnOk Try.prog (28, i28) := ⟨Try.f28, _, Try.func28, rfl, by kernel_rfl, rfl, rfl, by kernel_rfl⟩
theorem ok35 : FnOk Try.prog (35, i35) := ⟨Try.f35, _, Try.func35, rfl, by kernel_rfl, rfl, rfl, by kernel_rfl⟩
theorem ok36 : FnOk Try.prog (36, i36) := ⟨Try.f36, _, Try.func36, rfl, by kernel_rfl, rfl, rfl, by kernel_rfl⟩
theorem ok37 : FnOk Try.prog (37, i37) := ⟨Try.f37, _, Try.func37, rfl, by kernel_rfl, rfl, rfl, by kernel_rfl⟩
theorem ok38 : FnOk Try.prog (38, i38) := ⟨Try.f38, _, Try.func38, rfl, by kernel_rfl, rfl, rfl, by kernel_rfl⟩
theorem ok39 : FnOk Try.prog (39, i39) := ⟨Try.f39, _, Try.func39, rfl, by kernel_rfl, rfl, rfl, by kernel_rfl⟩
theorem ok40 : FnOk Try.prog (40, i40) := ⟨Try.f40, _, Try.func40, rfl, by kernel_rfl, rfl, rfl, by kernel_rfl⟩
theorem ok41 : FnOk Try.prog (41, i41) := ⟨Try.f41, _, Try.func41, rfl, by kernel_rfl, rfl, rfl, by kernel_rfl⟩
theorem ok42 : FnOk Try.prog (42, i42) := ⟨Try.f42, _, Try.func42, rfl, by kernel_rfl, rfl, rfl, by kernel_rfl⟩
theorem ok43 : FnOk Try.prog (43, i43) := ⟨Try.f43, _, Try.func43, rfl, by kernel_rfl, rfl, rfl, by kernel_rfl⟩
theorem ok44 : FnOk Try.prog (44, i44) := ⟨Try.f44, _, Try.func44, rfl, by kernel_rfl, rfl, rfl, by kernel_rfl⟩
theorem ok45 : FnOk Try.prog (45, i45) := ⟨Try.f45, _, Try.func45, rfl, by kernel_rfl, rfl, rfl, by kernel_rfl⟩
theorem ok46 : FnOk Try.prog (46, i46) := ⟨Try.f46, _, Try.func46, rfl, by kernel_rfl, rfl, rfl, by kernel_rfl⟩
theorem ok49 : FnOk Try.prog (49, i49) := ⟨Try.f49, _, Try.func49, rfl, by kernel_rfl, rfl, rfl, by kernel_rfl⟩
theorem ok55 : FnOk Try.prog (55, i55) := ⟨Try.f55, _, Try.func55, rfl, by kernel_rfl, rfl, rfl, by kernel_rfl⟩
theorem ok56 : FnOk Try.prog (56, i56) := ⟨Try.f56, _, Try.func56, rfl, by kernel_rfl, rfl, rfl, by kernel_rfl⟩
theorem ok57 : FnOk Try.prog (57, i57) := ⟨Try.f57, _, Try.func57, rfl, by kernel_rfl, rfl, rfl, by kernel_rfl⟩
theorem ok58 : FnOk Try.prog (58, i58) := ⟨Try.f58, _, Try.func58, rfl, by kernel_rfl, rfl, rfl, by kernel_rfl⟩
theorem ok59 : FnOk Try.prog (59, i59) := ⟨Try.f59, _, Try.func59, rfl, by kernel_rfl, rfl, rfl, by kernel_rfl⟩
theorem ok60 : FnOk Try.prog (60, i60) := ⟨Try.f60, _, Try.func60, rfl, by kernel_rfl, rfl, rfl, by kernel_rfl⟩
theorem ok61 : FnOk Try.prog (61, i61) := ⟨Try.f61, _, Try.func61, rfl, by kernel_rfl, rfl, rfl, by kernel_rfl⟩
theorem ok62 : FnOk Try.prog (62, i62) := ⟨Try.f62, _, Try.func62, rfl, by kernel_rfl, rfl, rfl, by kernel_rfl⟩
theorem ok63 : FnOk Try.prog (63, i63) := ⟨Try.f63, _, Try.func63, rfl, by kernel_rfl, rfl, rfl, by kernel_rfl⟩
theorem ok65 : FnOk Try.prog (65, i65) := ⟨Try.f65, _, Try.func65, rfl, by kernel_rfl, rfl, rfl, by kernel_rfl⟩
theorem tab : TabOk Try.prog T := tabOk_of (by kernel_rfl) (.cons ok10 (.cons ok11 (.cons ok12 (.cons ok14 (.cons ok16 (.cons ok18 (.cons ok19 (.cons ok21 (.cons ok26 (.cons ok28 (.cons ok35 (.cons ok36 (.cons ok37 (.cons ok38 (.cons ok39 (.cons ok40 (.cons ok41 (.cons ok42 (.cons ok43 (.cons ok44 (.cons ok45 (.cons ok46 (.cons ok49 (.cons ok55 (.cons ok56 (.cons ok57 (.cons ok58 (.cons ok59 (.cons ok60 (.cons ok61 (.cons ok62 (.cons ok63 (.cons ok65 (.nil))))))))))))))))))))))))))))))))))
theorem fn10 : T.fn 10 = some i10 := rfl
theorem fn11 : T.fn 11 = some i11 := rfl
theorem fn12 : T.fn 12 = some i12 := rfl
theorem fn14 : T.fn 14 = some i14 := rfl
theorem fn16 : T.fn 16 = some i16 := rfl
theorem fn18 : T.fn 18 = some i18 := rfl
theorem fn19 : T.fn 19 = some i19 := rfl
theorem fn21 : T.fn 21 = some i21 := rfl
theorem fn26 : T.fn 26 = some i26 := rfl
theorem fn28 : T.fn 28 = some i28 := rfl
theorem fn35 : T.fn 35 = some i35 := rfl
theorem fn36 : T.fn 36 = some i36 := rfl
theorem fn37 : T.fn 37 = some i37 := rfl
theorem fn38 : T.fn 38 = some i38 := rfl
theorem fn39 : T.fn 39 = some i39 := rfl
theorem fn40 : T.fn 40 = some i40 := rfl
theorem fn41 : T.fn 41 = some i41 := rfl
theorem fn42 : T.fn 42 = some i42 := rfl
theorem fn43 : T.fn 43 = some i43 := rfl
theorem fn44 : T.fn 44 = some i44 := rfl
theorem fn45 : T.fn 45 = some i45 := rfl
theorem fn46 : T.fn 46 = some i46 := rfl
theorem fn49 : T.fn 49 = some i49 := rfl
theorem fn55 : T.fn 55 = some i55 := rfl
theorem fn56 : T.fn 56 = some i56 := rfl
theorem fn57 : T.fn 57 = some i57 := rfl
theorem fn58 : T.fn 58 = some i58 := rfl
theorem fn59 : T.fn 59 = some i59 := rfl
theorem fn60 : T.fn 60 = some i60 := rfl
theorem fn61 : T.fn 61 = some i61 := rfl
theorem fn62 : T.fn 62 = some i62 := rfl
theorem fn63 : T.fn 63 = some i63 := rfl
theorem fn65 : T.fn 65 = some i65 := rfl
end Go.Pi.Ytcihklkihglmjaa.FnSession
