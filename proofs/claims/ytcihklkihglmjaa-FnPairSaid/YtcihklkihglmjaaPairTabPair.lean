/- What functions of the program answer, and that the law answers true at every input; no condition -/
import Derived.Test.YtcihklkihglmjaaProg
import Derived.Test.YtcihklkihglmjaaPiD
import Derived.Test.YtcihklkihglmjaaPiC
set_option linter.all false
/- The program's tables for Pi: types and functions, as they stand in the loaded program, with hints. -/
namespace Go.Pi.Ytcihklkihglmjaa.Pair
open Go Go.Proofs Go.Pi
set_option maxRecDepth 100000

-- (*loop.example/g00344/spec.l1Cur).next
def r65_3 : List PO := [⟨(some 14), (Op.move (Operand.tmp 0)), none⟩,
  ⟨(some 15), (Op.nilCheck (Operand.tmp 14)), none⟩,
  ⟨(some 16), (Op.fieldAddr 88 (Operand.tmp 15) 0), none⟩,
  ⟨(some 17), (Op.load 56 (Operand.tmp 16)), none⟩,
  ⟨(some 18), (Op.move (Operand.tmp 0)), none⟩,
  ⟨(some 19), (Op.nilCheck (Operand.tmp 18)), none⟩,
  ⟨(some 20), (Op.fieldAddr 88 (Operand.tmp 19) 1), none⟩,
  ⟨(some 21), (Op.load 3 (Operand.tmp 20)), none⟩,
  ⟨(some 22), (Op.indexAddr 56 (Operand.tmp 17) (Operand.tmp 21)), none⟩,
  ⟨(some 23), (Op.load 5 (Operand.tmp 22)), none⟩,
  ⟨(some 24), (Op.convert 5 3 (Operand.tmp 23)), none⟩,
  ⟨(some 3), (Op.assign (Operand.tmp 24)), none⟩]
attribute [go_sem] r65_3
def k65_1 : PC := (.cond (Operand.tmp 13) (.post (.fz r65_3) ⟨[0, 3], [], []⟩) (.post .skip ⟨[0, 3], [], []⟩))
def r65_0 : List PO := [⟨(some 2), (Op.assign (Operand.const (Value.int IntKind.i64 0))), none⟩]
attribute [go_sem] r65_0
def r65_1 : List PO := [⟨(some 3), (Op.assign (Operand.const (Value.int IntKind.i64 0))), none⟩]
attribute [go_sem] r65_1
def r65_2 : List PO := [⟨(some 4), (Op.move (Operand.tmp 0)), none⟩,
  ⟨(some 5), (Op.nilCheck (Operand.tmp 4)), none⟩,
  ⟨(some 6), (Op.fieldAddr 88 (Operand.tmp 5) 1), none⟩,
  ⟨(some 7), (Op.load 3 (Operand.tmp 6)), none⟩,
  ⟨(some 8), (Op.move (Operand.tmp 0)), none⟩,
  ⟨(some 9), (Op.nilCheck (Operand.tmp 8)), none⟩,
  ⟨(some 10), (Op.fieldAddr 88 (Operand.tmp 9) 0), none⟩,
  ⟨(some 11), (Op.load 56 (Operand.tmp 10)), none⟩,
  ⟨(some 12), (Op.call { callee := (Callee.builtin Builtin.len), args := #[(Operand.tmp 11)], argTypes := #[56] }), none⟩,
  ⟨(some 13), (Op.binOp BinOp.lss 3 (Operand.tmp 7) (Operand.tmp 12) 3), none⟩]
attribute [go_sem] r65_2
def r65_4 : List PO := [⟨(some 25), (Op.move (Operand.tmp 0)), none⟩,
  ⟨(some 26), (Op.nilCheck (Operand.tmp 25)), none⟩,
  ⟨(some 27), (Op.fieldAddr 88 (Operand.tmp 26) 1), none⟩,
  ⟨(some 28), (Op.load 3 (Operand.tmp 27)), none⟩,
  ⟨(some 29), (Op.binOp BinOp.add 3 (Operand.tmp 28) (Operand.const (Value.int IntKind.i64 1)) 3), none⟩,
  ⟨(some 30), (Op.nilCheck (Operand.tmp 25)), none⟩,
  ⟨(some 31), (Op.fieldAddr 88 (Operand.tmp 30) 1), none⟩,
  ⟨none, (Op.store 3 (Operand.tmp 31) (Operand.tmp 29)), none⟩]
attribute [go_sem] r65_4
def r65_5 : List PO := [⟨(some 32), (Op.move (Operand.tmp 0)), none⟩,
  ⟨(some 33), (Op.move (Operand.tmp 0)), none⟩,
  ⟨(some 34), (Op.nilCheck (Operand.tmp 33)), none⟩,
  ⟨(some 35), (Op.fieldAddr 88 (Operand.tmp 34) 2), none⟩,
  ⟨(some 36), (Op.load 86 (Operand.tmp 35)), none⟩,
  ⟨(some 37), (Op.binOp BinOp.mul 86 (Operand.tmp 36) (Operand.const (Value.int IntKind.u64 6364136223846793005)) 86), none⟩,
  ⟨(some 38), (Op.move (Operand.tmp 3)), none⟩,
  ⟨(some 39), (Op.convert 3 86 (Operand.tmp 38)), none⟩,
  ⟨(some 40), (Op.binOp BinOp.add 86 (Operand.tmp 37) (Operand.tmp 39) 86), none⟩,
  ⟨(some 41), (Op.binOp BinOp.add 86 (Operand.tmp 40) (Operand.const (Value.int IntKind.u64 1442695040888963407)) 86), none⟩,
  ⟨(some 42), (Op.nilCheck (Operand.tmp 32)), none⟩,
  ⟨(some 43), (Op.fieldAddr 88 (Operand.tmp 42) 2), none⟩,
  ⟨none, (Op.store 86 (Operand.tmp 43) (Operand.tmp 41)), none⟩]
attribute [go_sem] r65_5
def r65_6 : List PO := [⟨(some 44), (Op.move (Operand.tmp 0)), none⟩,
  ⟨(some 45), (Op.nilCheck (Operand.tmp 44)), none⟩,
  ⟨(some 46), (Op.fieldAddr 88 (Operand.tmp 45) 1), none⟩,
  ⟨(some 47), (Op.load 3 (Operand.tmp 46)), none⟩,
  ⟨(some 48), (Op.move (Operand.tmp 0)), none⟩,
  ⟨(some 49), (Op.nilCheck (Operand.tmp 48)), none⟩,
  ⟨(some 50), (Op.fieldAddr 88 (Operand.tmp 49) 0), none⟩,
  ⟨(some 51), (Op.load 56 (Operand.tmp 50)), none⟩,
  ⟨(some 52), (Op.call { callee := (Callee.builtin Builtin.len), args := #[(Operand.tmp 51)], argTypes := #[56] }), none⟩,
  ⟨(some 53), (Op.binOp BinOp.leq 3 (Operand.tmp 47) (Operand.tmp 52) 3), none⟩]
attribute [go_sem] r65_6
def r65_7 : List PO := [⟨(some 54), (Op.move (Operand.tmp 3)), none⟩,
  ⟨(some 2), (Op.assign (Operand.tmp 54)), none⟩]
attribute [go_sem] r65_7
def r65_8 : List PO := [⟨(some 55), (Op.move (Operand.tmp 0)), none⟩,
  ⟨(some 56), (Op.nilCheck (Operand.tmp 55)), none⟩,
  ⟨(some 57), (Op.fieldAddr 88 (Operand.tmp 56) 2), none⟩,
  ⟨(some 58), (Op.load 86 (Operand.tmp 57)), none⟩,
  ⟨(some 59), (Op.binOp BinOp.shr 86 (Operand.tmp 58) (Operand.const (Value.int IntKind.u64 40)) 99), none⟩,
  ⟨(some 60), (Op.binOp BinOp.and 86 (Operand.tmp 59) (Operand.const (Value.int IntKind.u64 255)) 86), none⟩,
  ⟨(some 61), (Op.convert 86 3 (Operand.tmp 60)), none⟩,
  ⟨(some 2), (Op.assign (Operand.tmp 61)), none⟩]
attribute [go_sem] r65_8
def c65 : PC := (.seq (.reg r65_0) (.seq (.reg r65_1) (.seq (.seq (.fz r65_2) (.pre ⟨[0, 3, 13], [], []⟩ k65_1)) (.seq (.reg r65_4) (.seq (.reg r65_5) (.seq (.seq (.fz r65_6) (.cond (Operand.tmp 53) (.seq (.reg r65_7) (.pre ⟨[2], [], []⟩ .ret)) .skip)) (.seq (.reg r65_8) (.pre ⟨[2], [], []⟩ .ret))))))))
def i65 : FnI := ⟨62, [(ResultVar.tmp 2)], c65, 3, [[0]], [[0]], false, true, 1⟩
-- (*loop.example/g00344/spec.l1Cur).pick
def r55_5 : List PO := [⟨(some 12), (Op.move (Operand.tmp 5)), none⟩,
  ⟨(some 13), (Op.binOp BinOp.mul 3 (Operand.tmp 12) (Operand.const (Value.int IntKind.i64 256)) 3), none⟩,
  ⟨(some 14), (Op.move (Operand.tmp 0)), none⟩,
  ⟨(some 15), (Op.call { callee := (Callee.value (Operand.func 65)), args := #[(Operand.tmp 14)], argTypes := #[85] }), none⟩,
  ⟨(some 16), (Op.binOp BinOp.add 3 (Operand.tmp 13) (Operand.tmp 15) 3), none⟩,
  ⟨(some 5), (Op.assign (Operand.tmp 16)), none⟩]
attribute [go_sem] r55_5
def k55_1 : PC := (.cond (Operand.tmp 11) (.post (.reg r55_5) ⟨[1, 5], [], []⟩) (.post .skip ⟨[1, 5], [], []⟩))
def r55_0 : List PO := [⟨(some 4), (Op.assign (Operand.const (Value.int IntKind.i64 0))), none⟩]
attribute [go_sem] r55_0
def r55_1 : List PO := [⟨(some 6), (Op.move (Operand.tmp 1)), none⟩,
  ⟨(some 7), (Op.binOp BinOp.leq 3 (Operand.tmp 6) (Operand.const (Value.int IntKind.i64 1)) 3), none⟩]
attribute [go_sem] r55_1
def r55_2 : List PO := [⟨(some 4), (Op.assign (Operand.const (Value.int IntKind.i64 0))), none⟩]
attribute [go_sem] r55_2
def r55_3 : List PO := [⟨(some 8), (Op.move (Operand.tmp 0)), none⟩,
  ⟨(some 9), (Op.call { callee := (Callee.value (Operand.func 65)), args := #[(Operand.tmp 8)], argTypes := #[85] }), none⟩,
  ⟨(some 5), (Op.assign (Operand.tmp 9)), none⟩]
attribute [go_sem] r55_3
def r55_4 : List PO := [⟨(some 10), (Op.move (Operand.tmp 1)), none⟩,
  ⟨(some 11), (Op.binOp BinOp.gtr 3 (Operand.tmp 10) (Operand.const (Value.int IntKind.i64 200)) 3), none⟩]
attribute [go_sem] r55_4
def r55_6 : List PO := [⟨(some 17), (Op.move (Operand.tmp 5)), none⟩,
  ⟨(some 18), (Op.move (Operand.tmp 1)), none⟩,
  ⟨(some 19), (Op.binOp BinOp.rem 3 (Operand.tmp 17) (Operand.tmp 18) 3), none⟩,
  ⟨(some 4), (Op.assign (Operand.tmp 19)), none⟩]
attribute [go_sem] r55_6
def c55 : PC := (.seq (.reg r55_0) (.seq (.seq (.reg r55_1) (.cond (Operand.tmp 7) (.seq (.reg r55_2) (.pre ⟨[4], [], []⟩ .ret)) .skip)) (.seq (.reg r55_3) (.seq (.seq (.reg r55_4) (.pre ⟨[0, 1, 5, 11], [], []⟩ k55_1)) (.seq (.reg r55_6) (.pre ⟨[4], [], []⟩ .ret))))))
def i55 : FnI := ⟨20, [(ResultVar.tmp 4)], c55, 3, [[0], [0]], [[0]], false, true, 1⟩
-- (*loop.example/g00344/spec.l1Cur).one
def r56_0 : List PO := [⟨(some 4), (Op.assign (Operand.const (Value.bool false))), none⟩]
attribute [go_sem] r56_0
def r56_1 : List PO := [⟨(some 5), (Op.move (Operand.tmp 0)), none⟩,
  ⟨(some 6), (Op.move (Operand.tmp 1)), none⟩,
  ⟨(some 7), (Op.call { callee := (Callee.value (Operand.func 55)), args := #[(Operand.tmp 5), (Operand.tmp 6)], argTypes := #[85, 3] }), none⟩,
  ⟨(some 8), (Op.binOp BinOp.eql 3 (Operand.tmp 7) (Operand.const (Value.int IntKind.i64 0)) 3), none⟩,
  ⟨(some 4), (Op.assign (Operand.tmp 8)), none⟩]
attribute [go_sem] r56_1
def c56 : PC := (.seq (.reg r56_0) (.seq (.reg r56_1) (.pre ⟨[4], [], []⟩ .ret)))
def i56 : FnI := ⟨9, [(ResultVar.tmp 4)], c56, 3, [[0], [0]], [[0]], false, true, 1⟩
-- (*loop.example/g00344/spec.l1Cur).among
def r57_0 : List PO := [⟨(some 4), (Op.assign (Operand.const (Value.int IntKind.i64 0))), none⟩]
attribute [go_sem] r57_0
def r57_1 : List PO := [⟨(some 5), (Op.move (Operand.tmp 1)), none⟩,
  ⟨(some 6), (Op.move (Operand.tmp 0)), none⟩,
  ⟨(some 7), (Op.move (Operand.tmp 1)), none⟩,
  ⟨(some 8), (Op.call { callee := (Callee.builtin Builtin.len), args := #[(Operand.tmp 7)], argTypes := #[36] }), none⟩,
  ⟨(some 9), (Op.call { callee := (Callee.value (Operand.func 55)), args := #[(Operand.tmp 6), (Operand.tmp 8)], argTypes := #[85, 3] }), none⟩,
  ⟨(some 10), (Op.indexAddr 36 (Operand.tmp 5) (Operand.tmp 9)), none⟩,
  ⟨(some 11), (Op.load 3 (Operand.tmp 10)), none⟩,
  ⟨(some 4), (Op.assign (Operand.tmp 11)), none⟩]
attribute [go_sem] r57_1
def c57 : PC := (.seq (.reg r57_0) (.seq (.reg r57_1) (.pre ⟨[4], [], []⟩ .ret)))
def i57 : FnI := ⟨12, [(ResultVar.tmp 4)], c57, 3, [[0], [1]], [[0]], false, true, 2⟩
-- loop.example/g00344/spec.DrawPlayPair
def r34_5 : List PO := [⟨(some 15), (Op.move (Operand.tmp 5)), none⟩,
  ⟨(some 16), (Op.call { callee := (Callee.value (Operand.func 55)), args := #[(Operand.tmp 15), (Operand.const (Value.int IntKind.i64 2))], argTypes := #[85, 3] }), none⟩,
  ⟨(some 17), (Op.binOp BinOp.add 3 (Operand.const (Value.int IntKind.i64 100)) (Operand.tmp 16) 3), none⟩,
  ⟨(some 7), (Op.assign (Operand.tmp 17)), none⟩]
attribute [go_sem] r34_5
def k34_1 : PC := (.cond (Operand.tmp 14) (.post (.reg r34_5) ⟨[5, 6, 7], [.old 0, .old 1], []⟩) (.post .skip ⟨[5, 6, 7], [.old 0, .old 1], []⟩))
def r34_6 : List PO := [⟨(some 18), (Op.move (Operand.tmp 7)), none⟩,
  ⟨(some 19), (Op.binOp BinOp.gtr 3 (Operand.tmp 18) (Operand.const (Value.int IntKind.i64 0)) 3), none⟩]
attribute [go_sem] r34_6
def r34_8 : List PO := [⟨(some 22), (Op.move (Operand.tmp 6)), none⟩,
  ⟨(some 23), (Op.move (Operand.tmp 5)), none⟩,
  ⟨(some 24), (Op.buildSlice 36 5 #[(0, (Operand.const (Value.int IntKind.i64 0))), (1, (Operand.const (Value.int IntKind.i64 1))), (2, (Operand.const (Value.int IntKind.i64 1))), (3, (Operand.const (Value.int IntKind.i64 2))), (4, (Operand.const (Value.int IntKind.i64 2)))]), none⟩,
  ⟨(some 25), (Op.call { callee := (Callee.value (Operand.func 57)), args := #[(Operand.tmp 23), (Operand.tmp 24)], argTypes := #[85, 36] }), none⟩,
  ⟨(some 26), (Op.buildSlice 36 1 #[(0, (Operand.tmp 25))]), none⟩,
  ⟨(some 27), (Op.call { callee := (Callee.builtin Builtin.append), args := #[(Operand.tmp 22), (Operand.tmp 26)], argTypes := #[36, 36] }), none⟩,
  ⟨(some 6), (Op.assign (Operand.tmp 27)), none⟩]
attribute [go_sem] r34_8
def r34_7 : List PO := [⟨(some 20), (Op.move (Operand.tmp 7)), none⟩,
  ⟨(some 21), (Op.binOp BinOp.sub 3 (Operand.tmp 20) (Operand.const (Value.int IntKind.i64 1)) 3), none⟩,
  ⟨(some 7), (Op.assign (Operand.tmp 21)), none⟩]
attribute [go_sem] r34_7
def k34_2b : PC := (.seq (.seq (.reg r34_6) (.cond (Operand.tmp 19) .skip (.pre ⟨[5, 6], [.old 0, .old 1], []⟩ (.exit 0)))) (.seq (.block 1 (.reg r34_8)) (.post (.reg r34_7) ⟨[5, 6, 7], [.old 0, .old 4], []⟩)))
def r34_9 : List PO := [⟨(some 28), (Op.move (Operand.tmp 6)), none⟩,
  ⟨(some 29), (Op.call { callee := (Callee.builtin Builtin.len), args := #[(Operand.tmp 28)], argTypes := #[36] }), none⟩,
  ⟨(some 30), (Op.binOp BinOp.gtr 3 (Operand.tmp 29) (Operand.const (Value.int IntKind.i64 0)) 3), none⟩,
  ⟨(some 31), (Op.move (Operand.tmp 30)), none⟩,
  ⟨(some 32), (Op.move (Operand.tmp 5)), (some (31, true))⟩,
  ⟨(some 33), (Op.call { callee := (Callee.value (Operand.func 56)), args := #[(Operand.tmp 32), (Operand.const (Value.int IntKind.i64 30))], argTypes := #[85, 3] }), (some (31, true))⟩,
  ⟨(some 34), (Op.pick (Operand.tmp 31) (Operand.tmp 33) (Operand.const (Value.bool false))), none⟩]
attribute [go_sem] r34_9
def k34_3 : PC := (.post (.reg r34_9) ⟨[5, 6, 34], [.old 0, .old 1], []⟩)
def r34_10 : List PO := [⟨(some 35), (Op.move (Operand.tmp 6)), none⟩,
  ⟨(some 36), (Op.indexAddr 36 (Operand.tmp 35) (Operand.const (Value.int IntKind.i64 0))), none⟩,
  ⟨none, (Op.store 3 (Operand.tmp 36) (Operand.const (Value.int IntKind.i64 3))), none⟩]
attribute [go_sem] r34_10
def k34_4 : PC := (.cond (Operand.tmp 34) (.post (.reg r34_10) ⟨[5, 6], [.old 0, .old 1], []⟩) (.post .skip ⟨[5, 6], [.old 0, .old 1], []⟩))
def r34_0 : List PO := [⟨(some 2), (Op.assign (Operand.const (Value.int IntKind.i64 0))), none⟩,
  ⟨(some 3), (Op.assign (Operand.const (Value.int IntKind.i64 0))), none⟩,
  ⟨(some 4), (Op.assign (Operand.const (Value.slice none 0 0))), none⟩]
attribute [go_sem] r34_0
def r34_1 : List PO := [⟨(some 8), (Op.move (Operand.tmp 0)), none⟩,
  ⟨(some 9), (Op.build 88 #[(0, (Operand.tmp 8))]), none⟩,
  ⟨(some 10), (Op.box 88 (Operand.tmp 9)), none⟩,
  ⟨(some 5), (Op.assign (Operand.tmp 10)), none⟩]
attribute [go_sem] r34_1
def r34_2 : List PO := [⟨(some 6), (Op.assign (Operand.const (Value.slice none 0 0))), none⟩]
attribute [go_sem] r34_2
def r34_3 : List PO := [⟨(some 11), (Op.move (Operand.tmp 5)), none⟩,
  ⟨(some 12), (Op.call { callee := (Callee.value (Operand.func 55)), args := #[(Operand.tmp 11), (Operand.const (Value.int IntKind.i64 30))], argTypes := #[85, 3] }), none⟩,
  ⟨(some 7), (Op.assign (Operand.tmp 12)), none⟩]
attribute [go_sem] r34_3
def r34_4 : List PO := [⟨(some 13), (Op.move (Operand.tmp 5)), none⟩,
  ⟨(some 14), (Op.call { callee := (Callee.value (Operand.func 56)), args := #[(Operand.tmp 13), (Operand.const (Value.int IntKind.i64 20))], argTypes := #[85, 3] }), none⟩]
attribute [go_sem] r34_4
def r34_11 : List PO := [⟨(some 37), (Op.move (Operand.tmp 5)), none⟩,
  ⟨(some 38), (Op.buildSlice 36 5 #[(0, (Operand.const (Value.int IntKind.i64 3))), (1, (Operand.const (Value.int IntKind.i64 9))), (2, (Operand.const (Value.int IntKind.i64 30))), (3, (Operand.const (Value.int IntKind.i64 90))), (4, (Operand.const (Value.int IntKind.i64 2)))]), none⟩,
  ⟨(some 39), (Op.call { callee := (Callee.value (Operand.func 57)), args := #[(Operand.tmp 37), (Operand.tmp 38)], argTypes := #[85, 36] }), none⟩,
  ⟨(some 40), (Op.move (Operand.tmp 5)), none⟩,
  ⟨(some 41), (Op.buildSlice 36 4 #[(0, (Operand.const (Value.int IntKind.i64 3))), (1, (Operand.const (Value.int IntKind.i64 9))), (2, (Operand.const (Value.int IntKind.i64 30))), (3, (Operand.const (Value.int IntKind.i64 90)))]), none⟩,
  ⟨(some 42), (Op.call { callee := (Callee.value (Operand.func 57)), args := #[(Operand.tmp 40), (Operand.tmp 41)], argTypes := #[85, 36] }), none⟩,
  ⟨(some 43), (Op.move (Operand.tmp 6)), none⟩,
  ⟨(some 2), (Op.assign (Operand.tmp 39)), none⟩,
  ⟨(some 3), (Op.assign (Operand.tmp 42)), none⟩,
  ⟨(some 4), (Op.assign (Operand.tmp 43)), none⟩]
attribute [go_sem] r34_11
def c34 : PC := (.seq (.reg r34_0) (.seq (.reg r34_1) (.seq (.reg r34_2) (.seq (.reg r34_3) (.seq (.seq (.reg r34_4) (.pre ⟨[5, 6, 7, 14], [.old 0, .nilT 6 0 1], []⟩ k34_1)) (.seq (.block 0 (.pre ⟨[5, 6, 7], [.old 0, .old 1], []⟩ (.loop k34_2b))) (.seq (.seq (.pre ⟨[5, 6], [.old 0, .old 1], []⟩ k34_3) (.pre ⟨[5, 6, 34], [.old 0, .old 1], []⟩ k34_4)) (.seq (.reg r34_11) .ret))))))))
def i34 : FnI := ⟨44, [(ResultVar.tmp 2), (ResultVar.tmp 3), (ResultVar.tmp 4)], c34, 0, [[1]], [[0], [0], [1]], false, false, 0⟩
-- loop.example/g00344/impl.within
def r40_1 : List PO := [⟨(some 7), (Op.move (Operand.tmp 0)), none⟩,
  ⟨(some 8), (Op.move (Operand.tmp 1)), none⟩,
  ⟨(some 9), (Op.binOp BinOp.geq 3 (Operand.tmp 7) (Operand.tmp 8) 3), none⟩,
  ⟨(some 10), (Op.move (Operand.tmp 9)), none⟩,
  ⟨(some 11), (Op.move (Operand.tmp 0)), (some (10, true))⟩,
  ⟨(some 12), (Op.move (Operand.tmp 2)), (some (10, true))⟩,
  ⟨(some 13), (Op.binOp BinOp.leq 3 (Operand.tmp 11) (Operand.tmp 12) 3), (some (10, true))⟩,
  ⟨(some 14), (Op.pick (Operand.tmp 10) (Operand.tmp 13) (Operand.const (Value.bool false))), none⟩,
  ⟨(some 6), (Op.assign (Operand.tmp 14)), none⟩]
attribute [go_sem] r40_1
def k40_1 : PC := (.post (.reg r40_1) ⟨[6], [], []⟩)
def r40_0 : List PO := [⟨(some 6), (Op.assign (Operand.const (Value.bool false))), none⟩]
attribute [go_sem] r40_0
def c40 : PC := (.seq (.reg r40_0) (.seq (.pre ⟨[0, 1, 2], [], []⟩ k40_1) .ret))
def i40 : FnI := ⟨15, [(ResultVar.tmp 6)], c40, 0, [[0], [0], [0]], [[0]], false, false, 0⟩
-- loop.example/g00344/impl.NewSession
def r12_0 : List PO := [⟨(some 2), (Op.alloc 23), none⟩,
  ⟨(some 3), (Op.assign (Operand.const (Value.bool false))), none⟩]
attribute [go_sem] r12_0
def r12_1 : List PO := [⟨(some 4), (Op.move (Operand.tmp 0)), none⟩,
  ⟨(some 5), (Op.call { callee := (Callee.value (Operand.func 40)), args := #[(Operand.tmp 4), (Operand.const (Value.int IntKind.i64 3)), (Operand.const (Value.int IntKind.i64 90))], argTypes := #[3, 3, 3] }), none⟩,
  ⟨(some 6), (Op.unOp UnOp.not 4 (Operand.tmp 5)), none⟩]
attribute [go_sem] r12_1
def r12_2 : List PO := [⟨(some 7), (Op.build 23 #[]), none⟩,
  ⟨none, (Op.store 23 (Operand.tmp 2) (Operand.tmp 7)), none⟩,
  ⟨(some 3), (Op.assign (Operand.const (Value.bool false))), none⟩]
attribute [go_sem] r12_2
def r12_3 : List PO := [⟨(some 8), (Op.move (Operand.tmp 0)), none⟩,
  ⟨(some 9), (Op.build 23 #[(1, (Operand.tmp 8))]), none⟩,
  ⟨none, (Op.store 23 (Operand.tmp 2) (Operand.tmp 9)), none⟩,
  ⟨(some 3), (Op.assign (Operand.const (Value.bool true))), none⟩]
attribute [go_sem] r12_3
def c12 : PC := (.seq (.reg r12_0) (.seq (.seq (.reg r12_1) (.cond (Operand.tmp 6) (.seq (.reg r12_2) .ret) .skip)) (.seq (.reg r12_3) .ret)))
def i12 : FnI := ⟨10, [(ResultVar.cell 2 23), (ResultVar.tmp 3)], c12, 0, [[0]], [[0, 0, 0, 0, 0], [0]], false, false, 0⟩
-- slices.IndexFunc[[]int,int]
def r64_2 : List PO := [⟨(some 9), (Op.binOp BinOp.lss 3 (Operand.tmp 8) (Operand.tmp 7) 3), none⟩]
attribute [go_sem] r64_2
def r64_3 : List PO := [⟨(some 10), (Op.move (Operand.tmp 8)), none⟩,
  ⟨(some 5), (Op.assign (Operand.tmp 10)), none⟩]
attribute [go_sem] r64_3
def r64_4 : List PO := [⟨(some 11), (Op.move (Operand.tmp 1)), none⟩,
  ⟨(some 12), (Op.move (Operand.tmp 0)), none⟩,
  ⟨(some 13), (Op.move (Operand.tmp 5)), none⟩,
  ⟨(some 14), (Op.indexAddr 36 (Operand.tmp 12) (Operand.tmp 13)), none⟩,
  ⟨(some 15), (Op.load 3 (Operand.tmp 14)), none⟩,
  ⟨(some 16), (Op.call { callee := (Callee.value (Operand.tmp 11)), args := #[(Operand.tmp 15)], argTypes := #[3] }), none⟩]
attribute [go_sem] r64_4
def r64_5 : List PO := [⟨(some 17), (Op.move (Operand.tmp 5)), none⟩,
  ⟨(some 4), (Op.assign (Operand.tmp 17)), none⟩]
attribute [go_sem] r64_5
def r64_6 : List PO := [⟨(some 18), (Op.binOp BinOp.add 3 (Operand.tmp 8) (Operand.const (Value.int IntKind.i64 1)) 3), none⟩,
  ⟨(some 8), (Op.move (Operand.tmp 18)), none⟩]
attribute [go_sem] r64_6
def k64_1b : PC := (.seq (.reg r64_2) (.seq (.cond (Operand.tmp 9) .skip (.pre ⟨[], [], []⟩ (.exit 0))) (.seq (.block 1 (.seq (.reg r64_3) (.seq (.reg r64_4) (.cond (Operand.tmp 16) (.seq (.reg r64_5) (.pre ⟨[4], [], []⟩ .ret)) .skip)))) (.post (.reg r64_6) ⟨[0, 1, 7, 8], [], []⟩))))
def r64_0 : List PO := [⟨(some 4), (Op.assign (Operand.const (Value.int IntKind.i64 0))), none⟩]
attribute [go_sem] r64_0
def r64_1 : List PO := [⟨(some 6), (Op.move (Operand.tmp 0)), none⟩,
  ⟨(some 7), (Op.call { callee := (Callee.builtin Builtin.len), args := #[(Operand.tmp 6)], argTypes := #[36] }), none⟩,
  ⟨(some 8), (Op.move (Operand.const (Value.int IntKind.i64 0))), none⟩]
attribute [go_sem] r64_1
def r64_7 : List PO := [⟨(some 4), (Op.assign (Operand.const (Value.int IntKind.i64 (-1)))), none⟩]
attribute [go_sem] r64_7
def c64 : PC := (.seq (.reg r64_0) (.seq (.seq (.reg r64_1) (.block 0 (.pre ⟨[0, 1, 7, 8], [], []⟩ (.loop k64_1b)))) (.seq (.reg r64_7) .ret)))
def i64 : FnI := ⟨19, [(ResultVar.tmp 4)], c64, 0, [[1], [0]], [[0]], false, false, 0⟩
-- slices.ContainsFunc[[]int,int]
def r51_0 : List PO := [⟨(some 4), (Op.assign (Operand.const (Value.bool false))), none⟩]
attribute [go_sem] r51_0
def r51_1 : List PO := [⟨(some 5), (Op.move (Operand.tmp 0)), none⟩,
  ⟨(some 6), (Op.move (Operand.tmp 1)), none⟩,
  ⟨(some 7), (Op.call { callee := (Callee.value (Operand.func 64)), args := #[(Operand.tmp 5), (Operand.tmp 6)], argTypes := #[36, 27] }), none⟩,
  ⟨(some 8), (Op.binOp BinOp.geq 3 (Operand.tmp 7) (Operand.const (Value.int IntKind.i64 0)) 3), none⟩,
  ⟨(some 4), (Op.assign (Operand.tmp 8)), none⟩]
attribute [go_sem] r51_1
def c51 : PC := (.seq (.reg r51_0) (.seq (.reg r51_1) .ret))
def i51 : FnI := ⟨9, [(ResultVar.tmp 4)], c51, 0, [[1], [0]], [[0]], false, false, 0⟩
-- loop.example/g00344/impl.PlayPair$1
def r52_0 : List PO := [⟨(some 2), (Op.assign (Operand.const (Value.bool false))), none⟩]
attribute [go_sem] r52_0
def r52_1 : List PO := [⟨(some 3), (Op.move (Operand.tmp 0)), none⟩,
  ⟨(some 4), (Op.call { callee := (Callee.value (Operand.func 40)), args := #[(Operand.tmp 3), (Operand.const (Value.int IntKind.i64 0)), (Operand.const (Value.int IntKind.i64 2))], argTypes := #[3, 3, 3] }), none⟩,
  ⟨(some 5), (Op.unOp UnOp.not 4 (Operand.tmp 4)), none⟩,
  ⟨(some 2), (Op.assign (Operand.tmp 5)), none⟩]
attribute [go_sem] r52_1
def c52 : PC := (.seq (.reg r52_0) (.seq (.reg r52_1) .ret))
def i52 : FnI := ⟨6, [(ResultVar.tmp 2)], c52, 0, [[0]], [[0]], false, false, 0⟩
-- (loop.example/g00344/impl.Session).to
def r61_0 : List PO := [⟨(some 2), (Op.box 23 (Operand.tmp 0)), none⟩,
  ⟨(some 4), (Op.alloc 23), none⟩]
attribute [go_sem] r61_0
def r61_1 : List PO := [⟨(some 5), (Op.move (Operand.tmp 1)), none⟩,
  ⟨(some 6), (Op.fieldAddr 23 (Operand.tmp 2) 1), none⟩,
  ⟨(some 7), (Op.load 3 (Operand.tmp 6)), none⟩,
  ⟨(some 8), (Op.fieldAddr 23 (Operand.tmp 2) 4), none⟩,
  ⟨(some 9), (Op.load 3 (Operand.tmp 8)), none⟩,
  ⟨(some 10), (Op.build 23 #[(0, (Operand.tmp 5)), (1, (Operand.tmp 7)), (4, (Operand.tmp 9))]), none⟩,
  ⟨none, (Op.store 23 (Operand.tmp 4) (Operand.tmp 10)), none⟩]
attribute [go_sem] r61_1
def c61 : PC := (.seq (.reg r61_0) (.seq (.reg r61_1) .ret))
def i61 : FnI := ⟨11, [(ResultVar.cell 4 23)], c61, 0, [[0, 0, 0, 0, 0], [0]], [[0, 0, 0, 0, 0]], false, false, 0⟩
-- (loop.example/g00344/impl.Session).tick
def r62_0 : List PO := [⟨(some 1), (Op.box 23 (Operand.tmp 0)), none⟩,
  ⟨(some 2), (Op.alloc 23), none⟩,
  ⟨(some 3), (Op.assign (Operand.const (Value.slice none 0 0))), none⟩]
attribute [go_sem] r62_0
def r62_1 : List PO := [⟨(some 4), (Op.fieldAddr 23 (Operand.tmp 1) 2), none⟩,
  ⟨(some 5), (Op.load 3 (Operand.tmp 4)), none⟩,
  ⟨(some 6), (Op.binOp BinOp.sub 3 (Operand.tmp 5) (Operand.const (Value.int IntKind.i64 1)) 3), none⟩,
  ⟨(some 7), (Op.fieldAddr 23 (Operand.tmp 1) 2), none⟩,
  ⟨none, (Op.store 3 (Operand.tmp 7) (Operand.tmp 6)), none⟩]
attribute [go_sem] r62_1
def r62_2 : List PO := [⟨(some 8), (Op.fieldAddr 23 (Operand.tmp 1) 2), none⟩,
  ⟨(some 9), (Op.load 3 (Operand.tmp 8)), none⟩,
  ⟨(some 10), (Op.binOp BinOp.eql 3 (Operand.tmp 9) (Operand.const (Value.int IntKind.i64 0)) 3), none⟩]
attribute [go_sem] r62_2
def r62_3 : List PO := [⟨(some 11), (Op.load 23 (Operand.tmp 1)), none⟩,
  ⟨(some 12), (Op.call { callee := (Callee.value (Operand.func 61)), args := #[(Operand.tmp 11), (Operand.const (Value.int IntKind.i64 0))], argTypes := #[23, 3] }), none⟩,
  ⟨(some 13), (Op.buildSlice 36 1 #[(0, (Operand.const (Value.int IntKind.i64 3)))]), none⟩,
  ⟨none, (Op.store 23 (Operand.tmp 2) (Operand.tmp 12)), none⟩,
  ⟨(some 3), (Op.assign (Operand.tmp 13)), none⟩]
attribute [go_sem] r62_3
def r62_4 : List PO := [⟨(some 14), (Op.fieldAddr 23 (Operand.tmp 1) 0), none⟩,
  ⟨(some 15), (Op.load 3 (Operand.tmp 14)), none⟩,
  ⟨(some 16), (Op.binOp BinOp.eql 3 (Operand.tmp 15) (Operand.const (Value.int IntKind.i64 2)) 3), none⟩]
attribute [go_sem] r62_4
def r62_5 : List PO := [⟨(some 17), (Op.load 23 (Operand.tmp 1)), none⟩,
  ⟨none, (Op.store 23 (Operand.tmp 2) (Operand.tmp 17)), none⟩,
  ⟨(some 3), (Op.assign (Operand.const (Value.slice none 0 0))), none⟩]
attribute [go_sem] r62_5
def r62_6 : List PO := [⟨(some 18), (Op.fieldAddr 23 (Operand.tmp 1) 3), none⟩,
  ⟨(some 19), (Op.load 3 (Operand.tmp 18)), none⟩,
  ⟨(some 20), (Op.binOp BinOp.sub 3 (Operand.tmp 19) (Operand.const (Value.int IntKind.i64 1)) 3), none⟩,
  ⟨(some 21), (Op.fieldAddr 23 (Operand.tmp 1) 3), none⟩,
  ⟨none, (Op.store 3 (Operand.tmp 21) (Operand.tmp 20)), none⟩]
attribute [go_sem] r62_6
def r62_7 : List PO := [⟨(some 22), (Op.fieldAddr 23 (Operand.tmp 1) 3), none⟩,
  ⟨(some 23), (Op.load 3 (Operand.tmp 22)), none⟩,
  ⟨(some 24), (Op.binOp BinOp.eql 3 (Operand.tmp 23) (Operand.const (Value.int IntKind.i64 0)) 3), none⟩]
attribute [go_sem] r62_7
def r62_8 : List PO := [⟨(some 25), (Op.fieldAddr 23 (Operand.tmp 1) 1), none⟩,
  ⟨(some 26), (Op.load 3 (Operand.tmp 25)), none⟩,
  ⟨(some 27), (Op.binOp BinOp.quo 3 (Operand.tmp 26) (Operand.const (Value.int IntKind.i64 3)) 3), none⟩,
  ⟨(some 28), (Op.fieldAddr 23 (Operand.tmp 1) 3), none⟩,
  ⟨none, (Op.store 3 (Operand.tmp 28) (Operand.tmp 27)), none⟩]
attribute [go_sem] r62_8
def r62_9 : List PO := [⟨(some 29), (Op.load 23 (Operand.tmp 1)), none⟩,
  ⟨(some 30), (Op.buildSlice 36 1 #[(0, (Operand.const (Value.int IntKind.i64 4)))]), none⟩,
  ⟨none, (Op.store 23 (Operand.tmp 2) (Operand.tmp 29)), none⟩,
  ⟨(some 3), (Op.assign (Operand.tmp 30)), none⟩]
attribute [go_sem] r62_9
def r62_10 : List PO := [⟨(some 31), (Op.load 23 (Operand.tmp 1)), none⟩,
  ⟨none, (Op.store 23 (Operand.tmp 2) (Operand.tmp 31)), none⟩,
  ⟨(some 3), (Op.assign (Operand.const (Value.slice none 0 0))), none⟩]
attribute [go_sem] r62_10
def c62 : PC := (.seq (.reg r62_0) (.seq (.seq (.reg r62_1) (.seq (.reg r62_2) (.cond (Operand.tmp 10) (.seq (.reg r62_3) .ret) .skip))) (.seq (.seq (.reg r62_4) (.cond (Operand.tmp 16) (.seq (.reg r62_5) .ret) .skip)) (.seq (.seq (.reg r62_6) (.seq (.reg r62_7) (.cond (Operand.tmp 24) (.seq (.reg r62_8) (.seq (.reg r62_9) .ret)) .skip))) (.seq (.reg r62_10) .ret)))))
def i62 : FnI := ⟨32, [(ResultVar.cell 2 23), (ResultVar.tmp 3)], c62, 0, [[0, 0, 0, 0, 0]], [[0, 0, 0, 0, 0], [1]], false, false, 0⟩
-- (loop.example/g00344/impl.Session).step
def r44_2 : List PO := [⟨(some 13), (Op.fieldAddr 39 (Operand.tmp 3) 0), none⟩,
  ⟨(some 14), (Op.load 3 (Operand.tmp 13)), none⟩,
  ⟨(some 15), (Op.binOp BinOp.eql 3 (Operand.tmp 14) (Operand.const (Value.int IntKind.i64 1)) 3), none⟩,
  ⟨(some 16), (Op.move (Operand.tmp 15)), none⟩,
  ⟨(some 17), (Op.fieldAddr 23 (Operand.tmp 2) 0), (some (16, true))⟩,
  ⟨(some 18), (Op.load 3 (Operand.tmp 17)), (some (16, true))⟩,
  ⟨(some 19), (Op.binOp BinOp.eql 3 (Operand.tmp 18) (Operand.const (Value.int IntKind.i64 0)) 3), (some (16, true))⟩,
  ⟨(some 20), (Op.pick (Operand.tmp 16) (Operand.tmp 19) (Operand.const (Value.bool false))), none⟩,
  ⟨(some 12), (Op.assign (Operand.tmp 20)), none⟩]
attribute [go_sem] r44_2
def k44_1 : PC := (.post (.reg r44_2) ⟨[2, 3, 4, 6, 12], [.old 0, .old 1, .old 2], []⟩)
def r44_4 : List PO := [⟨(some 24), (Op.fieldAddr 39 (Operand.tmp 3) 0), none⟩,
  ⟨(some 25), (Op.load 3 (Operand.tmp 24)), none⟩,
  ⟨(some 26), (Op.binOp BinOp.eql 3 (Operand.tmp 25) (Operand.const (Value.int IntKind.i64 2)) 3), none⟩,
  ⟨(some 27), (Op.move (Operand.tmp 26)), none⟩,
  ⟨(some 28), (Op.move (Operand.tmp 6)), (some (27, true))⟩,
  ⟨(some 29), (Op.unOp UnOp.not 4 (Operand.tmp 28)), (some (27, true))⟩,
  ⟨(some 30), (Op.pick (Operand.tmp 27) (Operand.tmp 29) (Operand.const (Value.bool false))), none⟩,
  ⟨(some 23), (Op.assign (Operand.tmp 30)), none⟩]
attribute [go_sem] r44_4
def k44_2 : PC := (.post (.reg r44_4) ⟨[2, 3, 4, 6, 23], [.old 0, .old 1, .old 2], []⟩)
def r44_6 : List PO := [⟨(some 34), (Op.fieldAddr 39 (Operand.tmp 3) 0), none⟩,
  ⟨(some 35), (Op.load 3 (Operand.tmp 34)), none⟩,
  ⟨(some 36), (Op.binOp BinOp.eql 3 (Operand.tmp 35) (Operand.const (Value.int IntKind.i64 3)) 3), none⟩,
  ⟨(some 37), (Op.move (Operand.tmp 36)), none⟩,
  ⟨(some 38), (Op.fieldAddr 23 (Operand.tmp 2) 0), (some (37, true))⟩,
  ⟨(some 39), (Op.load 3 (Operand.tmp 38)), (some (37, true))⟩,
  ⟨(some 40), (Op.binOp BinOp.eql 3 (Operand.tmp 39) (Operand.const (Value.int IntKind.i64 1)) 3), (some (37, true))⟩,
  ⟨(some 41), (Op.pick (Operand.tmp 37) (Operand.tmp 40) (Operand.const (Value.bool false))), none⟩,
  ⟨(some 33), (Op.assign (Operand.tmp 41)), none⟩]
attribute [go_sem] r44_6
def k44_3 : PC := (.post (.reg r44_6) ⟨[2, 3, 4, 6, 33], [.old 0, .old 1, .old 2], []⟩)
def r44_14 : List PO := [⟨(some 58), (Op.fieldAddr 39 (Operand.tmp 3) 0), none⟩,
  ⟨(some 59), (Op.load 3 (Operand.tmp 58)), none⟩,
  ⟨(some 60), (Op.binOp BinOp.eql 3 (Operand.tmp 59) (Operand.const (Value.int IntKind.i64 5)) 3), none⟩,
  ⟨(some 61), (Op.move (Operand.tmp 60)), none⟩,
  ⟨(some 62), (Op.fieldAddr 23 (Operand.tmp 2) 0), (some (61, true))⟩,
  ⟨(some 63), (Op.load 3 (Operand.tmp 62)), (some (61, true))⟩,
  ⟨(some 64), (Op.binOp BinOp.eql 3 (Operand.tmp 63) (Operand.const (Value.int IntKind.i64 2)) 3), (some (61, true))⟩,
  ⟨(some 65), (Op.pick (Operand.tmp 61) (Operand.tmp 64) (Operand.const (Value.bool false))), none⟩,
  ⟨(some 66), (Op.move (Operand.tmp 65)), none⟩,
  ⟨(some 67), (Op.fieldAddr 39 (Operand.tmp 3) 1), (some (66, true))⟩,
  ⟨(some 68), (Op.load 3 (Operand.tmp 67)), (some (66, true))⟩,
  ⟨(some 69), (Op.binOp BinOp.gtr 3 (Operand.tmp 68) (Operand.const (Value.int IntKind.i64 2)) 3), (some (66, true))⟩,
  ⟨(some 70), (Op.pick (Operand.tmp 66) (Operand.tmp 69) (Operand.const (Value.bool false))), none⟩,
  ⟨(some 57), (Op.assign (Operand.tmp 70)), none⟩]
attribute [go_sem] r44_14
def k44_4 : PC := (.post (.reg r44_14) ⟨[2, 3, 4, 57], [.old 0, .old 1, .old 2], []⟩)
def r44_19 : List PO := [⟨(some 89), (Op.fieldAddr 39 (Operand.tmp 3) 0), none⟩,
  ⟨(some 90), (Op.load 3 (Operand.tmp 89)), none⟩,
  ⟨(some 91), (Op.binOp BinOp.eql 3 (Operand.tmp 90) (Operand.const (Value.int IntKind.i64 7)) 3), none⟩,
  ⟨(some 92), (Op.move (Operand.tmp 91)), none⟩,
  ⟨(some 93), (Op.fieldAddr 23 (Operand.tmp 2) 0), (some (92, true))⟩,
  ⟨(some 94), (Op.load 3 (Operand.tmp 93)), (some (92, true))⟩,
  ⟨(some 95), (Op.binOp BinOp.eql 3 (Operand.tmp 94) (Operand.const (Value.int IntKind.i64 3)) 3), (some (92, true))⟩,
  ⟨(some 96), (Op.pick (Operand.tmp 92) (Operand.tmp 95) (Operand.const (Value.bool false))), none⟩,
  ⟨(some 88), (Op.assign (Operand.tmp 96)), none⟩]
attribute [go_sem] r44_19
def k44_5 : PC := (.post (.reg r44_19) ⟨[2, 3, 4, 88], [.old 0, .old 1, .old 2], []⟩)
def r44_22 : List PO := [⟨(some 108), (Op.fieldAddr 39 (Operand.tmp 3) 0), none⟩,
  ⟨(some 109), (Op.load 3 (Operand.tmp 108)), none⟩,
  ⟨(some 110), (Op.binOp BinOp.eql 3 (Operand.tmp 109) (Operand.const (Value.int IntKind.i64 7)) 3), none⟩,
  ⟨(some 111), (Op.move (Operand.tmp 110)), none⟩,
  ⟨(some 112), (Op.fieldAddr 39 (Operand.tmp 3) 0), (some (111, false))⟩,
  ⟨(some 113), (Op.load 3 (Operand.tmp 112)), (some (111, false))⟩,
  ⟨(some 114), (Op.binOp BinOp.eql 3 (Operand.tmp 113) (Operand.const (Value.int IntKind.i64 8)) 3), (some (111, false))⟩,
  ⟨(some 115), (Op.pick (Operand.tmp 111) (Operand.const (Value.bool true)) (Operand.tmp 114)), none⟩,
  ⟨(some 116), (Op.move (Operand.tmp 115)), none⟩,
  ⟨(some 117), (Op.fieldAddr 23 (Operand.tmp 2) 0), (some (116, true))⟩,
  ⟨(some 118), (Op.load 3 (Operand.tmp 117)), (some (116, true))⟩,
  ⟨(some 119), (Op.binOp BinOp.eql 3 (Operand.tmp 118) (Operand.const (Value.int IntKind.i64 4)) 3), (some (116, true))⟩,
  ⟨(some 120), (Op.pick (Operand.tmp 116) (Operand.tmp 119) (Operand.const (Value.bool false))), none⟩,
  ⟨(some 107), (Op.assign (Operand.tmp 120)), none⟩]
attribute [go_sem] r44_22
def k44_6 : PC := (.post (.reg r44_22) ⟨[2, 3, 4, 107], [.old 0, .old 1, .old 2], []⟩)
def r44_0 : List PO := [⟨(some 2), (Op.box 23 (Operand.tmp 0)), none⟩,
  ⟨(some 3), (Op.box 39 (Operand.tmp 1)), none⟩,
  ⟨(some 4), (Op.alloc 23), none⟩,
  ⟨(some 5), (Op.assign (Operand.const (Value.slice none 0 0))), none⟩]
attribute [go_sem] r44_0
def r44_1 : List PO := [⟨(some 9), (Op.fieldAddr 23 (Operand.tmp 2) 0), none⟩,
  ⟨(some 10), (Op.load 3 (Operand.tmp 9)), none⟩,
  ⟨(some 11), (Op.binOp BinOp.geq 3 (Operand.tmp 10) (Operand.const (Value.int IntKind.i64 2)) 3), none⟩,
  ⟨(some 6), (Op.assign (Operand.tmp 11)), none⟩]
attribute [go_sem] r44_1
def r44_3 : List PO := [⟨(some 21), (Op.load 23 (Operand.tmp 2)), none⟩,
  ⟨(some 22), (Op.call { callee := (Callee.value (Operand.func 61)), args := #[(Operand.tmp 21), (Operand.const (Value.int IntKind.i64 1))], argTypes := #[23, 3] }), none⟩,
  ⟨none, (Op.store 23 (Operand.tmp 4) (Operand.tmp 22)), none⟩,
  ⟨(some 5), (Op.assign (Operand.const (Value.slice none 0 0))), none⟩]
attribute [go_sem] r44_3
def r44_5 : List PO := [⟨(some 31), (Op.load 23 (Operand.tmp 2)), none⟩,
  ⟨(some 32), (Op.call { callee := (Callee.value (Operand.func 61)), args := #[(Operand.tmp 31), (Operand.const (Value.int IntKind.i64 0))], argTypes := #[23, 3] }), none⟩,
  ⟨none, (Op.store 23 (Operand.tmp 4) (Operand.tmp 32)), none⟩,
  ⟨(some 5), (Op.assign (Operand.const (Value.slice none 0 0))), none⟩]
attribute [go_sem] r44_5
def r44_7 : List PO := [⟨(some 42), (Op.load 23 (Operand.tmp 2)), none⟩,
  ⟨(some 43), (Op.call { callee := (Callee.value (Operand.func 61)), args := #[(Operand.tmp 42), (Operand.const (Value.int IntKind.i64 2))], argTypes := #[23, 3] }), none⟩,
  ⟨(some 7), (Op.alloc 23), none⟩,
  ⟨none, (Op.store 23 (Operand.tmp 7) (Operand.tmp 43)), none⟩]
attribute [go_sem] r44_7
def r44_8 : List PO := [⟨(some 44), (Op.fieldAddr 23 (Operand.tmp 7) 2), none⟩,
  ⟨none, (Op.store 3 (Operand.tmp 44) (Operand.const (Value.int IntKind.i64 90))), none⟩]
attribute [go_sem] r44_8
def r44_9 : List PO := [⟨(some 45), (Op.load 23 (Operand.tmp 7)), none⟩,
  ⟨(some 46), (Op.buildSlice 36 1 #[(0, (Operand.const (Value.int IntKind.i64 1)))]), none⟩,
  ⟨none, (Op.store 23 (Operand.tmp 4) (Operand.tmp 45)), none⟩,
  ⟨(some 5), (Op.assign (Operand.tmp 46)), none⟩]
attribute [go_sem] r44_9
def r44_10 : List PO := [⟨(some 48), (Op.move (Operand.tmp 6)), none⟩,
  ⟨(some 49), (Op.unOp UnOp.not 4 (Operand.tmp 48)), none⟩,
  ⟨(some 47), (Op.assign (Operand.tmp 49)), none⟩]
attribute [go_sem] r44_10
def r44_11 : List PO := [⟨(some 50), (Op.load 23 (Operand.tmp 2)), none⟩,
  ⟨none, (Op.store 23 (Operand.tmp 4) (Operand.tmp 50)), none⟩,
  ⟨(some 5), (Op.assign (Operand.const (Value.slice none 0 0))), none⟩]
attribute [go_sem] r44_11
def r44_12 : List PO := [⟨(some 52), (Op.fieldAddr 39 (Operand.tmp 3) 0), none⟩,
  ⟨(some 53), (Op.load 3 (Operand.tmp 52)), none⟩,
  ⟨(some 54), (Op.binOp BinOp.eql 3 (Operand.tmp 53) (Operand.const (Value.int IntKind.i64 4)) 3), none⟩,
  ⟨(some 51), (Op.assign (Operand.tmp 54)), none⟩]
attribute [go_sem] r44_12
def r44_13 : List PO := [⟨(some 55), (Op.load 23 (Operand.tmp 2)), none⟩,
  ⟨(some 56), (Op.call { callee := (Callee.value (Operand.func 61)), args := #[(Operand.tmp 55), (Operand.const (Value.int IntKind.i64 1))], argTypes := #[23, 3] }), none⟩,
  ⟨none, (Op.store 23 (Operand.tmp 4) (Operand.tmp 56)), none⟩,
  ⟨(some 5), (Op.assign (Operand.const (Value.slice none 0 0))), none⟩]
attribute [go_sem] r44_13
def r44_15 : List PO := [⟨(some 71), (Op.load 23 (Operand.tmp 2)), none⟩,
  ⟨(some 72), (Op.call { callee := (Callee.value (Operand.func 61)), args := #[(Operand.tmp 71), (Operand.const (Value.int IntKind.i64 3))], argTypes := #[23, 3] }), none⟩,
  ⟨(some 8), (Op.alloc 23), none⟩,
  ⟨none, (Op.store 23 (Operand.tmp 8) (Operand.tmp 72)), none⟩]
attribute [go_sem] r44_15
def r44_16 : List PO := [⟨(some 73), (Op.fieldAddr 23 (Operand.tmp 2) 1), none⟩,
  ⟨(some 74), (Op.load 3 (Operand.tmp 73)), none⟩,
  ⟨(some 75), (Op.fieldAddr 39 (Operand.tmp 3) 1), none⟩,
  ⟨(some 76), (Op.load 3 (Operand.tmp 75)), none⟩,
  ⟨(some 77), (Op.call { callee := (Callee.builtin Builtin.min), args := #[(Operand.tmp 74), (Operand.tmp 76)], argTypes := #[3, 3] }), none⟩,
  ⟨(some 78), (Op.fieldAddr 23 (Operand.tmp 8) 1), none⟩,
  ⟨none, (Op.store 3 (Operand.tmp 78) (Operand.tmp 77)), none⟩]
attribute [go_sem] r44_16
def r44_17 : List PO := [⟨(some 79), (Op.fieldAddr 23 (Operand.tmp 8) 1), none⟩,
  ⟨(some 80), (Op.load 3 (Operand.tmp 79)), none⟩,
  ⟨(some 81), (Op.fieldAddr 23 (Operand.tmp 8) 1), none⟩,
  ⟨(some 82), (Op.load 3 (Operand.tmp 81)), none⟩,
  ⟨(some 83), (Op.binOp BinOp.quo 3 (Operand.tmp 82) (Operand.const (Value.int IntKind.i64 3)) 3), none⟩,
  ⟨(some 84), (Op.fieldAddr 23 (Operand.tmp 8) 2), none⟩,
  ⟨none, (Op.store 3 (Operand.tmp 84) (Operand.tmp 80)), none⟩,
  ⟨(some 85), (Op.fieldAddr 23 (Operand.tmp 8) 3), none⟩,
  ⟨none, (Op.store 3 (Operand.tmp 85) (Operand.tmp 83)), none⟩]
attribute [go_sem] r44_17
def r44_18 : List PO := [⟨(some 86), (Op.load 23 (Operand.tmp 8)), none⟩,
  ⟨(some 87), (Op.buildSlice 36 1 #[(0, (Operand.const (Value.int IntKind.i64 4)))]), none⟩,
  ⟨none, (Op.store 23 (Operand.tmp 4) (Operand.tmp 86)), none⟩,
  ⟨(some 5), (Op.assign (Operand.tmp 87)), none⟩]
attribute [go_sem] r44_18
def r44_20 : List PO := [⟨(some 97), (Op.fieldAddr 23 (Operand.tmp 2) 1), none⟩,
  ⟨(some 98), (Op.load 3 (Operand.tmp 97)), none⟩,
  ⟨(some 99), (Op.fieldAddr 23 (Operand.tmp 2) 4), none⟩,
  ⟨(some 100), (Op.load 3 (Operand.tmp 99)), none⟩,
  ⟨(some 101), (Op.binOp BinOp.add 3 (Operand.tmp 100) (Operand.const (Value.int IntKind.i64 1)) 3), none⟩,
  ⟨(some 102), (Op.call { callee := (Callee.builtin Builtin.min), args := #[(Operand.const (Value.int IntKind.i64 1000)), (Operand.tmp 101)], argTypes := #[3, 3] }), none⟩,
  ⟨(some 103), (Op.fieldAddr 23 (Operand.tmp 2) 0), none⟩,
  ⟨none, (Op.store 3 (Operand.tmp 103) (Operand.const (Value.int IntKind.i64 4))), none⟩,
  ⟨(some 104), (Op.fieldAddr 23 (Operand.tmp 2) 2), none⟩,
  ⟨none, (Op.store 3 (Operand.tmp 104) (Operand.tmp 98)), none⟩,
  ⟨(some 105), (Op.fieldAddr 23 (Operand.tmp 2) 4), none⟩,
  ⟨none, (Op.store 3 (Operand.tmp 105) (Operand.tmp 102)), none⟩]
attribute [go_sem] r44_20
def r44_21 : List PO := [⟨(some 106), (Op.load 23 (Operand.tmp 2)), none⟩,
  ⟨none, (Op.store 23 (Operand.tmp 4) (Operand.tmp 106)), none⟩,
  ⟨(some 5), (Op.assign (Operand.const (Value.slice none 0 0))), none⟩]
attribute [go_sem] r44_21
def r44_23 : List PO := [⟨(some 121), (Op.fieldAddr 23 (Operand.tmp 2) 1), none⟩,
  ⟨(some 122), (Op.load 3 (Operand.tmp 121)), none⟩,
  ⟨(some 123), (Op.fieldAddr 23 (Operand.tmp 2) 2), none⟩,
  ⟨none, (Op.store 3 (Operand.tmp 123) (Operand.tmp 122)), none⟩]
attribute [go_sem] r44_23
def r44_24 : List PO := [⟨(some 124), (Op.load 23 (Operand.tmp 2)), none⟩,
  ⟨none, (Op.store 23 (Operand.tmp 4) (Operand.tmp 124)), none⟩,
  ⟨(some 5), (Op.assign (Operand.const (Value.slice none 0 0))), none⟩]
attribute [go_sem] r44_24
def r44_25 : List PO := [⟨(some 126), (Op.fieldAddr 39 (Operand.tmp 3) 0), none⟩,
  ⟨(some 127), (Op.load 3 (Operand.tmp 126)), none⟩,
  ⟨(some 128), (Op.binOp BinOp.eql 3 (Operand.tmp 127) (Operand.const (Value.int IntKind.i64 9)) 3), none⟩,
  ⟨(some 125), (Op.assign (Operand.tmp 128)), none⟩]
attribute [go_sem] r44_25
def r44_26 : List PO := [⟨(some 129), (Op.load 23 (Operand.tmp 2)), none⟩,
  ⟨(some 130), (Op.call { callee := (Callee.value (Operand.func 61)), args := #[(Operand.tmp 129), (Operand.const (Value.int IntKind.i64 0))], argTypes := #[23, 3] }), none⟩,
  ⟨none, (Op.store 23 (Operand.tmp 4) (Operand.tmp 130)), none⟩,
  ⟨(some 5), (Op.assign (Operand.const (Value.slice none 0 0))), none⟩]
attribute [go_sem] r44_26
def r44_27 : List PO := [⟨(some 132), (Op.fieldAddr 39 (Operand.tmp 3) 0), none⟩,
  ⟨(some 133), (Op.load 3 (Operand.tmp 132)), none⟩,
  ⟨(some 134), (Op.binOp BinOp.eql 3 (Operand.tmp 133) (Operand.const (Value.int IntKind.i64 10)) 3), none⟩,
  ⟨(some 131), (Op.assign (Operand.tmp 134)), none⟩]
attribute [go_sem] r44_27
def r44_28 : List PO := [⟨(some 135), (Op.load 23 (Operand.tmp 2)), none⟩,
  ⟨(some 136), (Op.call { callee := (Callee.value (Operand.func 62)), args := #[(Operand.tmp 135)], argTypes := #[23] }), none⟩,
  ⟨(some 137), (Op.extract (Operand.tmp 136) 0), none⟩,
  ⟨(some 138), (Op.extract (Operand.tmp 136) 1), none⟩,
  ⟨none, (Op.store 23 (Operand.tmp 4) (Operand.tmp 137)), none⟩,
  ⟨(some 5), (Op.assign (Operand.tmp 138)), none⟩]
attribute [go_sem] r44_28
def r44_29 : List PO := [⟨(some 139), (Op.load 23 (Operand.tmp 2)), none⟩,
  ⟨(some 140), (Op.call { callee := (Callee.value (Operand.func 61)), args := #[(Operand.tmp 139), (Operand.const (Value.int IntKind.i64 0))], argTypes := #[23, 3] }), none⟩,
  ⟨(some 141), (Op.buildSlice 36 1 #[(0, (Operand.const (Value.int IntKind.i64 3)))]), none⟩,
  ⟨none, (Op.store 23 (Operand.tmp 4) (Operand.tmp 140)), none⟩,
  ⟨(some 5), (Op.assign (Operand.tmp 141)), none⟩]
attribute [go_sem] r44_29
def c44 : PC := (.seq (.reg r44_0) (.seq (.reg r44_1) (.seq (.block 0 (.seq (.pre ⟨[2, 3, 4, 6], [.old 0, .old 1, .old 2], []⟩ k44_1) (.cond (Operand.tmp 12) (.seq (.reg r44_3) .ret) (.seq (.pre ⟨[2, 3, 4, 6], [.old 0, .old 1, .old 2], []⟩ k44_2) (.cond (Operand.tmp 23) (.seq (.reg r44_5) .ret) (.seq (.pre ⟨[2, 3, 4, 6], [.old 0, .old 1, .old 2], []⟩ k44_3) (.cond (Operand.tmp 33) (.seq (.reg r44_7) (.seq (.reg r44_8) (.seq (.reg r44_9) .ret))) (.seq (.reg r44_10) (.cond (Operand.tmp 47) (.seq (.reg r44_11) .ret) (.seq (.reg r44_12) (.cond (Operand.tmp 51) (.seq (.reg r44_13) .ret) (.seq (.pre ⟨[2, 3, 4], [.old 0, .old 1, .old 2], []⟩ k44_4) (.cond (Operand.tmp 57) (.seq (.reg r44_15) (.seq (.reg r44_16) (.seq (.reg r44_17) (.seq (.reg r44_18) .ret)))) (.seq (.pre ⟨[2, 3, 4], [.old 0, .old 1, .old 2], []⟩ k44_5) (.cond (Operand.tmp 88) (.seq (.reg r44_20) (.seq (.reg r44_21) .ret)) (.seq (.pre ⟨[2, 3, 4], [.old 0, .old 1, .old 2], []⟩ k44_6) (.cond (Operand.tmp 107) (.seq (.reg r44_23) (.seq (.reg r44_24) .ret)) (.seq (.reg r44_25) (.cond (Operand.tmp 125) (.seq (.reg r44_26) .ret) (.seq (.reg r44_27) (.cond (Operand.tmp 131) (.seq (.reg r44_28) .ret) .skip))))))))))))))))))))) (.seq (.reg r44_29) .ret))))
def i44 : FnI := ⟨142, [(ResultVar.cell 4 23), (ResultVar.tmp 5)], c44, 0, [[0, 0, 0, 0, 0], [0, 0]], [[0, 0, 0, 0, 0], [1]], false, false, 0⟩
-- (*loop.example/g00344/impl.side).do
def r53_0 : List PO := [⟨(some 5), (Op.box 39 (Operand.tmp 2)), none⟩]
attribute [go_sem] r53_0
def r53_1 : List PO := [⟨(some 9), (Op.move (Operand.tmp 0)), none⟩,
  ⟨(some 10), (Op.nilCheck (Operand.tmp 9)), none⟩,
  ⟨(some 11), (Op.fieldAddr 82 (Operand.tmp 10) 0), none⟩,
  ⟨(some 12), (Op.load 23 (Operand.tmp 11)), none⟩,
  ⟨(some 13), (Op.load 39 (Operand.tmp 5)), none⟩,
  ⟨(some 14), (Op.call { callee := (Callee.value (Operand.func 44)), args := #[(Operand.tmp 12), (Operand.tmp 13)], argTypes := #[23, 39] }), none⟩,
  ⟨(some 8), (Op.move (Operand.tmp 14)), none⟩,
  ⟨(some 15), (Op.extract (Operand.tmp 8) 0), none⟩,
  ⟨(some 16), (Op.extract (Operand.tmp 8) 1), none⟩,
  ⟨(some 6), (Op.alloc 23), none⟩,
  ⟨none, (Op.store 23 (Operand.tmp 6) (Operand.tmp 15)), none⟩,
  ⟨(some 7), (Op.assign (Operand.tmp 16)), none⟩]
attribute [go_sem] r53_1
def x53_1 : FxI := ⟨[5, 9, 10], [none, none, none, none, none, none, none, none, none, some 0, none, none], 1, [[], [5], [5, 9], [5, 9, 10], [9]], [(0, 9)], [(3, 4, 4), (4, 4, 4), (5, 4, 2), (9, 0, 4)]⟩
attribute [go_sem] x53_1
def r53_2 : List PO := [⟨(some 17), (Op.move (Operand.tmp 0)), none⟩,
  ⟨(some 18), (Op.load 23 (Operand.tmp 6)), none⟩,
  ⟨(some 19), (Op.nilCheck (Operand.tmp 17)), none⟩,
  ⟨(some 20), (Op.fieldAddr 82 (Operand.tmp 19) 0), none⟩,
  ⟨none, (Op.store 23 (Operand.tmp 20) (Operand.tmp 18)), none⟩]
attribute [go_sem] r53_2
def r53_3 : List PO := [⟨(some 21), (Op.move (Operand.tmp 1)), none⟩,
  ⟨(some 22), (Op.move (Operand.tmp 1)), none⟩,
  ⟨(some 23), (Op.nilCheck (Operand.tmp 22)), none⟩,
  ⟨(some 24), (Op.fieldAddr 82 (Operand.tmp 23) 2), none⟩,
  ⟨(some 25), (Op.load 36 (Operand.tmp 24)), none⟩,
  ⟨(some 26), (Op.move (Operand.tmp 7)), none⟩,
  ⟨(some 27), (Op.call { callee := (Callee.builtin Builtin.append), args := #[(Operand.tmp 25), (Operand.tmp 26)], argTypes := #[36, 36] }), none⟩,
  ⟨(some 28), (Op.nilCheck (Operand.tmp 21)), none⟩,
  ⟨(some 29), (Op.fieldAddr 82 (Operand.tmp 28) 2), none⟩,
  ⟨none, (Op.store 36 (Operand.tmp 29) (Operand.tmp 27)), none⟩]
attribute [go_sem] r53_3
def c53 : PC := (.seq (.reg r53_0) (.seq (.fx r53_1 x53_1) (.seq (.reg r53_2) (.post (.reg r53_3) ⟨[], [.old 1, .old 7], [1, 3]⟩))))
def i53 : FnI := ⟨30, [], c53, 3, [[0], [0], [0, 0]], [], false, true, 4⟩
-- (*loop.example/g00344/impl.side).hear
def r54_10 : List PO := [⟨(some 33), (Op.build 39 #[(0, (Operand.const (Value.int IntKind.i64 7)))]), none⟩,
  ⟨none, (Op.store 39 (Operand.tmp 4) (Operand.tmp 33)), none⟩]
attribute [go_sem] r54_10
def k54_4 : PC := (.cond (Operand.tmp 31) (.post (.reg r54_10) ⟨[0, 1, 4], [.old 4], []⟩) (.post .skip ⟨[0, 1, 4], [.old 4], []⟩))
def r54_8 : List PO := [⟨(some 30), (Op.build 39 #[(0, (Operand.const (Value.int IntKind.i64 9)))]), none⟩,
  ⟨none, (Op.store 39 (Operand.tmp 4) (Operand.tmp 30)), none⟩]
attribute [go_sem] r54_8
def r54_9 : List PO := [⟨(some 32), (Op.binOp BinOp.eql 3 (Operand.tmp 17) (Operand.const (Value.int IntKind.i64 4)) 3), none⟩,
  ⟨(some 31), (Op.assign (Operand.tmp 32)), none⟩]
attribute [go_sem] r54_9
def k54_3 : PC := (.cond (Operand.tmp 28) (.post (.reg r54_8) ⟨[0, 1, 4], [.old 4], []⟩) (.seq (.reg r54_9) (.post (.pre ⟨[0, 1, 4, 31], [.old 4], []⟩ k54_4) ⟨[0, 1, 4], [.old 4], []⟩)))
def r54_6 : List PO := [⟨(some 27), (Op.build 39 #[(0, (Operand.const (Value.int IntKind.i64 8)))]), none⟩,
  ⟨none, (Op.store 39 (Operand.tmp 4) (Operand.tmp 27)), none⟩]
attribute [go_sem] r54_6
def r54_7 : List PO := [⟨(some 29), (Op.binOp BinOp.eql 3 (Operand.tmp 17) (Operand.const (Value.int IntKind.i64 3)) 3), none⟩,
  ⟨(some 28), (Op.assign (Operand.tmp 29)), none⟩]
attribute [go_sem] r54_7
def k54_2 : PC := (.cond (Operand.tmp 25) (.post (.reg r54_6) ⟨[0, 1, 4], [.old 4], []⟩) (.seq (.reg r54_7) (.post (.pre ⟨[0, 1, 4, 17, 28], [.old 4], []⟩ k54_3) ⟨[0, 1, 4], [.old 4], []⟩)))
def r54_4 : List PO := [⟨(some 20), (Op.move (Operand.tmp 1)), none⟩,
  ⟨(some 21), (Op.nilCheck (Operand.tmp 20)), none⟩,
  ⟨(some 22), (Op.fieldAddr 82 (Operand.tmp 21) 1), none⟩,
  ⟨(some 23), (Op.load 3 (Operand.tmp 22)), none⟩,
  ⟨(some 24), (Op.build 39 #[(0, (Operand.const (Value.int IntKind.i64 5))), (1, (Operand.tmp 23))]), none⟩,
  ⟨none, (Op.store 39 (Operand.tmp 4) (Operand.tmp 24)), none⟩]
attribute [go_sem] r54_4
def r54_5 : List PO := [⟨(some 26), (Op.binOp BinOp.eql 3 (Operand.tmp 17) (Operand.const (Value.int IntKind.i64 2)) 3), none⟩,
  ⟨(some 25), (Op.assign (Operand.tmp 26)), none⟩]
attribute [go_sem] r54_5
def k54_1 : PC := (.cond (Operand.tmp 18) (.post (.reg r54_4) ⟨[0, 1, 4], [.old 4], []⟩) (.seq (.reg r54_5) (.post (.pre ⟨[0, 1, 4, 17, 25], [.old 4], []⟩ k54_2) ⟨[0, 1, 4], [.old 4], []⟩)))
def r54_0 : List PO := [⟨(some 5), (Op.move (Operand.tmp 0)), none⟩,
  ⟨(some 6), (Op.nilCheck (Operand.tmp 5)), none⟩,
  ⟨(some 7), (Op.fieldAddr 82 (Operand.tmp 6) 2), none⟩,
  ⟨(some 8), (Op.load 36 (Operand.tmp 7)), none⟩,
  ⟨(some 9), (Op.call { callee := (Callee.builtin Builtin.len), args := #[(Operand.tmp 8)], argTypes := #[36] }), none⟩,
  ⟨(some 10), (Op.binOp BinOp.eql 3 (Operand.tmp 9) (Operand.const (Value.int IntKind.i64 0)) 3), none⟩]
attribute [go_sem] r54_0
def r54_1 : List PO := [⟨(some 11), (Op.build 39 #[]), none⟩,
  ⟨(some 4), (Op.alloc 39), none⟩,
  ⟨none, (Op.store 39 (Operand.tmp 4) (Operand.tmp 11)), none⟩]
attribute [go_sem] r54_1
def r54_2 : List PO := [⟨(some 12), (Op.move (Operand.tmp 0)), none⟩,
  ⟨(some 13), (Op.nilCheck (Operand.tmp 12)), none⟩,
  ⟨(some 14), (Op.fieldAddr 82 (Operand.tmp 13) 2), none⟩,
  ⟨(some 15), (Op.load 36 (Operand.tmp 14)), none⟩,
  ⟨(some 16), (Op.indexAddr 36 (Operand.tmp 15) (Operand.const (Value.int IntKind.i64 0))), none⟩,
  ⟨(some 17), (Op.load 3 (Operand.tmp 16)), none⟩]
attribute [go_sem] r54_2
def r54_3 : List PO := [⟨(some 19), (Op.binOp BinOp.eql 3 (Operand.tmp 17) (Operand.const (Value.int IntKind.i64 1)) 3), none⟩,
  ⟨(some 18), (Op.assign (Operand.tmp 19)), none⟩]
attribute [go_sem] r54_3
def r54_11 : List PO := [⟨(some 34), (Op.move (Operand.tmp 0)), none⟩,
  ⟨(some 35), (Op.move (Operand.tmp 0)), none⟩,
  ⟨(some 36), (Op.nilCheck (Operand.tmp 35)), none⟩,
  ⟨(some 37), (Op.fieldAddr 82 (Operand.tmp 36) 2), none⟩,
  ⟨(some 38), (Op.load 36 (Operand.tmp 37)), none⟩,
  ⟨(some 39), (Op.slice 36 (Operand.tmp 38) (some (Operand.const (Value.int IntKind.i64 1))) none none), none⟩,
  ⟨(some 40), (Op.nilCheck (Operand.tmp 34)), none⟩,
  ⟨(some 41), (Op.fieldAddr 82 (Operand.tmp 40) 2), none⟩,
  ⟨none, (Op.store 36 (Operand.tmp 41) (Operand.tmp 39)), none⟩]
attribute [go_sem] r54_11
def r54_12 : List PO := [⟨(some 42), (Op.move (Operand.tmp 0)), none⟩,
  ⟨(some 43), (Op.move (Operand.tmp 1)), none⟩,
  ⟨(some 44), (Op.load 39 (Operand.tmp 4)), none⟩,
  ⟨(some 45), (Op.call { callee := (Callee.value (Operand.func 53)), args := #[(Operand.tmp 42), (Operand.tmp 43), (Operand.tmp 44)], argTypes := #[80, 80, 39] }), none⟩]
attribute [go_sem] r54_12
def c54 : PC := (.seq (.seq (.reg r54_0) (.cond (Operand.tmp 10) (.pre ⟨[], [.old 1, .old 3], [1, 3]⟩ .ret) .skip)) (.seq (.reg r54_1) (.seq (.seq (.reg r54_2) (.block 0 (.seq (.reg r54_3) (.pre ⟨[0, 1, 4, 17, 18], [.old 4], []⟩ k54_1)))) (.seq (.reg r54_11) (.post (.pre ⟨[0, 1, 4], [.winB 0 6, .old 4], []⟩ (.reg r54_12)) ⟨[], [.old 6, .old 7], [1, 3]⟩)))))
def i54 : FnI := ⟨46, [], c54, 3, [[0], [0]], [], false, true, 4⟩
-- loop.example/g00344/impl.PlayPair
def r33_3 : List PO := [⟨(some 29), (Op.move (Operand.tmp 10)), none⟩,
  ⟨(some 30), (Op.unOp UnOp.not 4 (Operand.tmp 29)), none⟩,
  ⟨(some 31), (Op.move (Operand.tmp 30)), none⟩,
  ⟨(some 32), (Op.move (Operand.tmp 12)), (some (31, false))⟩,
  ⟨(some 33), (Op.unOp UnOp.not 4 (Operand.tmp 32)), (some (31, false))⟩,
  ⟨(some 34), (Op.pick (Operand.tmp 31) (Operand.const (Value.bool true)) (Operand.tmp 33)), none⟩,
  ⟨(some 35), (Op.move (Operand.tmp 34)), none⟩,
  ⟨(some 36), (Op.move (Operand.tmp 2)), (some (35, false))⟩,
  ⟨(some 37), (Op.call { callee := (Callee.builtin Builtin.len), args := #[(Operand.tmp 36)], argTypes := #[36] }), (some (35, false))⟩,
  ⟨(some 38), (Op.binOp BinOp.gtr 3 (Operand.tmp 37) (Operand.const (Value.int IntKind.i64 100)) 3), (some (35, false))⟩,
  ⟨(some 39), (Op.pick (Operand.tmp 35) (Operand.const (Value.bool true)) (Operand.tmp 38)), none⟩,
  ⟨(some 40), (Op.move (Operand.tmp 39)), none⟩,
  ⟨(some 41), (Op.move (Operand.tmp 2)), (some (40, false))⟩,
  ⟨(some 42), (Op.call { callee := (Callee.value (Operand.func 51)), args := #[(Operand.tmp 41), (Operand.func 52)], argTypes := #[36, 27] }), (some (40, false))⟩,
  ⟨(some 43), (Op.pick (Operand.tmp 40) (Operand.const (Value.bool true)) (Operand.tmp 42)), none⟩]
attribute [go_sem] r33_3
def k33_1 : PC := (.post (.reg r33_3) ⟨[0, 1, 2, 6, 7, 9, 11, 43], [.old 0, .old 1, .old 2, .old 3], []⟩)
def r33_7 : List PO := [⟨(some 57), (Op.binOp BinOp.lss 3 (Operand.tmp 56) (Operand.tmp 55) 3), none⟩]
attribute [go_sem] r33_7
def r33_8 : List PO := [⟨(some 58), (Op.indexAddr 36 (Operand.tmp 54) (Operand.tmp 56)), none⟩,
  ⟨(some 59), (Op.load 3 (Operand.tmp 58)), none⟩,
  ⟨(some 16), (Op.assign (Operand.tmp 59)), none⟩]
attribute [go_sem] r33_8
def r33_9 : List PO := [⟨(some 60), (Op.move (Operand.tmp 13)), none⟩,
  ⟨(some 61), (Op.move (Operand.tmp 14)), none⟩,
  ⟨(some 62), (Op.move (Operand.tmp 16)), none⟩,
  ⟨(some 63), (Op.build 39 #[(0, (Operand.tmp 62))]), none⟩,
  ⟨(some 64), (Op.call { callee := (Callee.value (Operand.func 53)), args := #[(Operand.tmp 60), (Operand.tmp 61), (Operand.tmp 63)], argTypes := #[80, 80, 39] }), none⟩]
attribute [go_sem] r33_9
def r33_10 : List PO := [⟨(some 65), (Op.move (Operand.tmp 14)), none⟩,
  ⟨(some 66), (Op.move (Operand.tmp 13)), none⟩,
  ⟨(some 67), (Op.move (Operand.tmp 16)), none⟩,
  ⟨(some 68), (Op.build 39 #[(0, (Operand.tmp 67))]), none⟩,
  ⟨(some 69), (Op.call { callee := (Callee.value (Operand.func 53)), args := #[(Operand.tmp 65), (Operand.tmp 66), (Operand.tmp 68)], argTypes := #[80, 80, 39] }), none⟩]
attribute [go_sem] r33_10
def r33_11 : List PO := [⟨(some 70), (Op.binOp BinOp.add 3 (Operand.tmp 56) (Operand.const (Value.int IntKind.i64 1)) 3), none⟩,
  ⟨(some 56), (Op.move (Operand.tmp 70)), none⟩]
attribute [go_sem] r33_11
def k33_2b : PC := (.seq (.reg r33_7) (.seq (.cond (Operand.tmp 57) .skip (.pre ⟨[2, 6, 7, 13, 14], [.old 0, .old 1, .old 2, .old 3, .old 4, .old 5], []⟩ (.exit 0))) (.seq (.block 1 (.seq (.reg r33_8) (.seq (.reg r33_9) (.reg r33_10)))) (.post (.reg r33_11) ⟨[2, 6, 7, 13, 14, 54, 55, 56], [.old 0, .old 1, .old 2, .old 10, .old 4, .old 9, .old 6], []⟩))))
def r33_22 : List PO := [⟨(some 95), (Op.move (Operand.tmp 14)), none⟩,
  ⟨(some 96), (Op.move (Operand.tmp 13)), none⟩,
  ⟨(some 97), (Op.call { callee := (Callee.value (Operand.func 54)), args := #[(Operand.tmp 95), (Operand.tmp 96)], argTypes := #[80, 80] }), none⟩]
attribute [go_sem] r33_22
def k33_9 : PC := (.cond (Operand.tmp 93) (.post (.reg r33_22) ⟨[6, 7, 13, 14, 71, 72, 73], [.old 0, .old 1, .old 2, .old 7, .old 4, .old 6], []⟩) (.post .skip ⟨[6, 7, 13, 14, 71, 72, 73], [.old 0, .old 1, .old 2, .old 3, .old 4, .old 5], []⟩))
def r33_20 : List PO := [⟨(some 90), (Op.move (Operand.tmp 13)), none⟩,
  ⟨(some 91), (Op.move (Operand.tmp 14)), none⟩,
  ⟨(some 92), (Op.call { callee := (Callee.value (Operand.func 54)), args := #[(Operand.tmp 90), (Operand.tmp 91)], argTypes := #[80, 80] }), none⟩]
attribute [go_sem] r33_20
def r33_21 : List PO := [⟨(some 94), (Op.binOp BinOp.eql 3 (Operand.tmp 77) (Operand.const (Value.int IntKind.i64 2)) 3), none⟩,
  ⟨(some 93), (Op.assign (Operand.tmp 94)), none⟩]
attribute [go_sem] r33_21
def k33_8 : PC := (.cond (Operand.tmp 88) (.post (.reg r33_20) ⟨[6, 7, 13, 14, 71, 72, 73], [.old 0, .old 1, .old 2, .old 6, .old 4, .old 7], []⟩) (.seq (.reg r33_21) (.post (.pre ⟨[6, 7, 13, 14, 71, 72, 73, 93], [.old 0, .old 1, .old 2, .old 3, .old 4, .old 5], []⟩ k33_9) ⟨[6, 7, 13, 14, 71, 72, 73], [.old 0, .old 1, .old 2, .old 3, .old 4, .old 5], []⟩)))
def r33_17 : List PO := [⟨(some 80), (Op.move (Operand.tmp 13)), none⟩,
  ⟨(some 81), (Op.move (Operand.tmp 14)), none⟩,
  ⟨(some 82), (Op.build 39 #[(0, (Operand.const (Value.int IntKind.i64 10)))]), none⟩,
  ⟨(some 83), (Op.call { callee := (Callee.value (Operand.func 53)), args := #[(Operand.tmp 80), (Operand.tmp 81), (Operand.tmp 82)], argTypes := #[80, 80, 39] }), none⟩]
attribute [go_sem] r33_17
def r33_18 : List PO := [⟨(some 84), (Op.move (Operand.tmp 14)), none⟩,
  ⟨(some 85), (Op.move (Operand.tmp 13)), none⟩,
  ⟨(some 86), (Op.build 39 #[(0, (Operand.const (Value.int IntKind.i64 10)))]), none⟩,
  ⟨(some 87), (Op.call { callee := (Callee.value (Operand.func 53)), args := #[(Operand.tmp 84), (Operand.tmp 85), (Operand.tmp 86)], argTypes := #[80, 80, 39] }), none⟩]
attribute [go_sem] r33_18
def r33_19 : List PO := [⟨(some 89), (Op.binOp BinOp.eql 3 (Operand.tmp 77) (Operand.const (Value.int IntKind.i64 1)) 3), none⟩,
  ⟨(some 88), (Op.assign (Operand.tmp 89)), none⟩]
attribute [go_sem] r33_19
def k33_7 : PC := (.cond (Operand.tmp 78) (.seq (.reg r33_17) (.post (.reg r33_18) ⟨[6, 7, 13, 14, 71, 72, 73], [.old 0, .old 1, .old 2, .old 9, .old 4, .old 8], []⟩)) (.seq (.reg r33_19) (.post (.pre ⟨[6, 7, 13, 14, 71, 72, 73, 77, 88], [.old 0, .old 1, .old 2, .old 3, .old 4, .old 5], []⟩ k33_8) ⟨[6, 7, 13, 14, 71, 72, 73], [.old 0, .old 1, .old 2, .old 3, .old 4, .old 5], []⟩)))
def r33_13 : List PO := [⟨(some 74), (Op.binOp BinOp.lss 3 (Operand.tmp 73) (Operand.tmp 72) 3), none⟩]
attribute [go_sem] r33_13
def r33_14 : List PO := [⟨(some 75), (Op.indexAddr 36 (Operand.tmp 71) (Operand.tmp 73)), none⟩,
  ⟨(some 76), (Op.load 3 (Operand.tmp 75)), none⟩,
  ⟨(some 18), (Op.assign (Operand.tmp 76)), none⟩]
attribute [go_sem] r33_14
def r33_15 : List PO := [⟨(some 77), (Op.move (Operand.tmp 18)), none⟩]
attribute [go_sem] r33_15
def r33_16 : List PO := [⟨(some 79), (Op.binOp BinOp.eql 3 (Operand.tmp 77) (Operand.const (Value.int IntKind.i64 0)) 3), none⟩,
  ⟨(some 78), (Op.assign (Operand.tmp 79)), none⟩]
attribute [go_sem] r33_16
def r33_23 : List PO := [⟨(some 98), (Op.binOp BinOp.add 3 (Operand.tmp 73) (Operand.const (Value.int IntKind.i64 1)) 3), none⟩,
  ⟨(some 73), (Op.move (Operand.tmp 98)), none⟩]
attribute [go_sem] r33_23
def k33_3b : PC := (.seq (.reg r33_13) (.seq (.cond (Operand.tmp 74) .skip (.pre ⟨[6, 7, 13, 14], [.old 0, .old 1, .old 2, .old 3, .old 4, .old 5], []⟩ (.exit 2))) (.seq (.block 3 (.seq (.reg r33_14) (.seq (.reg r33_15) (.block 4 (.seq (.reg r33_16) (.pre ⟨[6, 7, 13, 14, 71, 72, 73, 77, 78], [.old 0, .old 1, .old 2, .old 3, .old 4, .old 5], []⟩ k33_7)))))) (.post (.reg r33_23) ⟨[6, 7, 13, 14, 71, 72, 73], [.old 0, .old 1, .old 2, .old 3, .old 4, .old 5], []⟩))))
def r33_0 : List PO := [⟨(some 6), (Op.alloc 23), none⟩,
  ⟨(some 7), (Op.alloc 23), none⟩,
  ⟨(some 8), (Op.assign (Operand.const (Value.bool false))), none⟩]
attribute [go_sem] r33_0
def r33_1 : List PO := [⟨(some 20), (Op.move (Operand.tmp 0)), none⟩,
  ⟨(some 21), (Op.call { callee := (Callee.value (Operand.func 12)), args := #[(Operand.tmp 20)], argTypes := #[3] }), none⟩,
  ⟨(some 19), (Op.move (Operand.tmp 21)), none⟩,
  ⟨(some 22), (Op.extract (Operand.tmp 19) 0), none⟩,
  ⟨(some 23), (Op.extract (Operand.tmp 19) 1), none⟩,
  ⟨(some 9), (Op.alloc 23), none⟩,
  ⟨none, (Op.store 23 (Operand.tmp 9) (Operand.tmp 22)), none⟩,
  ⟨(some 10), (Op.assign (Operand.tmp 23)), none⟩]
attribute [go_sem] r33_1
def r33_2 : List PO := [⟨(some 25), (Op.move (Operand.tmp 1)), none⟩,
  ⟨(some 26), (Op.call { callee := (Callee.value (Operand.func 12)), args := #[(Operand.tmp 25)], argTypes := #[3] }), none⟩,
  ⟨(some 24), (Op.move (Operand.tmp 26)), none⟩,
  ⟨(some 27), (Op.extract (Operand.tmp 24) 0), none⟩,
  ⟨(some 28), (Op.extract (Operand.tmp 24) 1), none⟩,
  ⟨(some 11), (Op.alloc 23), none⟩,
  ⟨none, (Op.store 23 (Operand.tmp 11) (Operand.tmp 27)), none⟩,
  ⟨(some 12), (Op.assign (Operand.tmp 28)), none⟩]
attribute [go_sem] r33_2
def r33_4 : List PO := [⟨(some 44), (Op.build 23 #[]), none⟩,
  ⟨(some 45), (Op.build 23 #[]), none⟩,
  ⟨none, (Op.store 23 (Operand.tmp 6) (Operand.tmp 44)), none⟩,
  ⟨none, (Op.store 23 (Operand.tmp 7) (Operand.tmp 45)), none⟩,
  ⟨(some 8), (Op.assign (Operand.const (Value.bool false))), none⟩]
attribute [go_sem] r33_4
def r33_5 : List PO := [⟨(some 46), (Op.load 23 (Operand.tmp 9)), none⟩,
  ⟨(some 47), (Op.move (Operand.tmp 0)), none⟩,
  ⟨(some 48), (Op.build 82 #[(0, (Operand.tmp 46)), (1, (Operand.tmp 47))]), none⟩,
  ⟨(some 49), (Op.box 82 (Operand.tmp 48)), none⟩,
  ⟨(some 50), (Op.load 23 (Operand.tmp 11)), none⟩,
  ⟨(some 51), (Op.move (Operand.tmp 1)), none⟩,
  ⟨(some 52), (Op.build 82 #[(0, (Operand.tmp 50)), (1, (Operand.tmp 51))]), none⟩,
  ⟨(some 53), (Op.box 82 (Operand.tmp 52)), none⟩,
  ⟨(some 13), (Op.assign (Operand.tmp 49)), none⟩,
  ⟨(some 14), (Op.assign (Operand.tmp 53)), none⟩]
attribute [go_sem] r33_5
def x33_5 : FxI := ⟨[3, 7], [none, none, none, some 0, none, none, none, some 1, none, none], 2, [[], [3], [3, 7], [7]], [(0, 7)], [(0, 3, 3), (2, 3, 3), (3, 3, 2), (4, 0, 0), (6, 0, 0), (7, 0, 3)]⟩
attribute [go_sem] x33_5
def r33_6 : List PO := [⟨(some 54), (Op.buildSlice 36 2 #[(0, (Operand.const (Value.int IntKind.i64 1))), (1, (Operand.const (Value.int IntKind.i64 3)))]), none⟩,
  ⟨(some 55), (Op.call { callee := (Callee.builtin Builtin.len), args := #[(Operand.tmp 54)], argTypes := #[36] }), none⟩,
  ⟨(some 56), (Op.move (Operand.const (Value.int IntKind.i64 0))), none⟩]
attribute [go_sem] r33_6
def r33_12 : List PO := [⟨(some 71), (Op.move (Operand.tmp 2)), none⟩,
  ⟨(some 72), (Op.call { callee := (Callee.builtin Builtin.len), args := #[(Operand.tmp 71)], argTypes := #[36] }), none⟩,
  ⟨(some 73), (Op.move (Operand.const (Value.int IntKind.i64 0))), none⟩]
attribute [go_sem] r33_12
def r33_24 : List PO := [⟨(some 99), (Op.move (Operand.tmp 13)), none⟩,
  ⟨(some 100), (Op.nilCheck (Operand.tmp 99)), none⟩,
  ⟨(some 101), (Op.fieldAddr 82 (Operand.tmp 100) 0), none⟩,
  ⟨(some 102), (Op.load 23 (Operand.tmp 101)), none⟩,
  ⟨(some 103), (Op.move (Operand.tmp 14)), none⟩,
  ⟨(some 104), (Op.nilCheck (Operand.tmp 103)), none⟩,
  ⟨(some 105), (Op.fieldAddr 82 (Operand.tmp 104) 0), none⟩,
  ⟨(some 106), (Op.load 23 (Operand.tmp 105)), none⟩,
  ⟨none, (Op.store 23 (Operand.tmp 6) (Operand.tmp 102)), none⟩,
  ⟨none, (Op.store 23 (Operand.tmp 7) (Operand.tmp 106)), none⟩,
  ⟨(some 8), (Op.assign (Operand.const (Value.bool true))), none⟩]
attribute [go_sem] r33_24
def x33_24 : FxI := ⟨[8, 9], [none, none, none, none, none, none, none, none, none, none, none], 0, [[], [8], [8, 9]], [], [(7, 1, 1)]⟩
attribute [go_sem] x33_24
def c33 : PC := (.seq (.reg r33_0) (.seq (.reg r33_1) (.seq (.reg r33_2) (.seq (.seq (.pre ⟨[0, 1, 2, 6, 7, 9, 10, 11, 12], [.old 0, .old 1, .old 2, .old 3], []⟩ k33_1) (.cond (Operand.tmp 43) (.seq (.reg r33_4) .ret) .skip)) (.seq (.fx r33_5 x33_5) (.seq (.seq (.reg r33_6) (.block 0 (.pre ⟨[2, 6, 7, 13, 14, 54, 55, 56], [.old 0, .old 1, .old 4, .nilB 4 6 1, .old 5, .nilB 5 6 1, .old 6], []⟩ (.loop k33_2b)))) (.seq (.seq (.reg r33_12) (.block 2 (.pre ⟨[6, 7, 13, 14, 71, 72, 73], [.old 0, .old 1, .old 2, .old 3, .old 4, .old 5], []⟩ (.loop k33_3b)))) (.seq (.fx r33_24 x33_24) .ret))))))))
def i33 : FnI := ⟨107, [(ResultVar.cell 6 23), (ResultVar.cell 7 23), (ResultVar.tmp 8)], c33, 0, [[0], [0], [1]], [[0, 0, 0, 0, 0], [0, 0, 0, 0, 0], [0]], false, false, 0⟩
-- loop.example/g00344/spec.l1In
def r39_1 : List PO := [⟨(some 7), (Op.move (Operand.tmp 0)), none⟩,
  ⟨(some 8), (Op.move (Operand.tmp 1)), none⟩,
  ⟨(some 9), (Op.binOp BinOp.geq 3 (Operand.tmp 7) (Operand.tmp 8) 3), none⟩,
  ⟨(some 10), (Op.move (Operand.tmp 9)), none⟩,
  ⟨(some 11), (Op.move (Operand.tmp 0)), (some (10, true))⟩,
  ⟨(some 12), (Op.move (Operand.tmp 2)), (some (10, true))⟩,
  ⟨(some 13), (Op.binOp BinOp.leq 3 (Operand.tmp 11) (Operand.tmp 12) 3), (some (10, true))⟩,
  ⟨(some 14), (Op.pick (Operand.tmp 10) (Operand.tmp 13) (Operand.const (Value.bool false))), none⟩,
  ⟨(some 6), (Op.assign (Operand.tmp 14)), none⟩]
attribute [go_sem] r39_1
def k39_1 : PC := (.post (.reg r39_1) ⟨[6], [], []⟩)
def r39_0 : List PO := [⟨(some 6), (Op.assign (Operand.const (Value.bool false))), none⟩]
attribute [go_sem] r39_0
def c39 : PC := (.seq (.reg r39_0) (.seq (.pre ⟨[0, 1, 2], [], []⟩ k39_1) .ret))
def i39 : FnI := ⟨15, [(ResultVar.tmp 6)], c39, 0, [[0], [0], [0]], [[0]], false, false, 0⟩
-- loop.example/g00344/spec.NewSession
def r11_0 : List PO := [⟨(some 2), (Op.alloc 23), none⟩,
  ⟨(some 3), (Op.assign (Operand.const (Value.bool false))), none⟩]
attribute [go_sem] r11_0
def r11_1 : List PO := [⟨(some 4), (Op.move (Operand.tmp 0)), none⟩,
  ⟨(some 5), (Op.call { callee := (Callee.value (Operand.func 39)), args := #[(Operand.tmp 4), (Operand.const (Value.int IntKind.i64 3)), (Operand.const (Value.int IntKind.i64 90))], argTypes := #[3, 3, 3] }), none⟩,
  ⟨(some 6), (Op.unOp UnOp.not 4 (Operand.tmp 5)), none⟩]
attribute [go_sem] r11_1
def r11_2 : List PO := [⟨(some 7), (Op.build 23 #[]), none⟩,
  ⟨none, (Op.store 23 (Operand.tmp 2) (Operand.tmp 7)), none⟩,
  ⟨(some 3), (Op.assign (Operand.const (Value.bool false))), none⟩]
attribute [go_sem] r11_2
def r11_3 : List PO := [⟨(some 8), (Op.move (Operand.tmp 0)), none⟩,
  ⟨(some 9), (Op.build 23 #[(1, (Operand.tmp 8))]), none⟩,
  ⟨none, (Op.store 23 (Operand.tmp 2) (Operand.tmp 9)), none⟩,
  ⟨(some 3), (Op.assign (Operand.const (Value.bool true))), none⟩]
attribute [go_sem] r11_3
def c11 : PC := (.seq (.reg r11_0) (.seq (.seq (.reg r11_1) (.cond (Operand.tmp 6) (.seq (.reg r11_2) .ret) .skip)) (.seq (.reg r11_3) .ret)))
def i11 : FnI := ⟨10, [(ResultVar.cell 2 23), (ResultVar.tmp 3)], c11, 0, [[0]], [[0, 0, 0, 0, 0], [0]], false, false, 0⟩
-- loop.example/g00344/spec.l12To
def r60_0 : List PO := [⟨(some 2), (Op.box 23 (Operand.tmp 0)), none⟩,
  ⟨(some 4), (Op.alloc 23), none⟩]
attribute [go_sem] r60_0
def r60_1 : List PO := [⟨(some 5), (Op.move (Operand.tmp 1)), none⟩,
  ⟨(some 6), (Op.fieldAddr 23 (Operand.tmp 2) 0), none⟩,
  ⟨none, (Op.store 3 (Operand.tmp 6) (Operand.tmp 5)), none⟩]
attribute [go_sem] r60_1
def r60_2 : List PO := [⟨(some 7), (Op.fieldAddr 23 (Operand.tmp 2) 2), none⟩,
  ⟨none, (Op.store 3 (Operand.tmp 7) (Operand.const (Value.int IntKind.i64 0))), none⟩]
attribute [go_sem] r60_2
def r60_3 : List PO := [⟨(some 8), (Op.fieldAddr 23 (Operand.tmp 2) 3), none⟩,
  ⟨none, (Op.store 3 (Operand.tmp 8) (Operand.const (Value.int IntKind.i64 0))), none⟩]
attribute [go_sem] r60_3
def r60_4 : List PO := [⟨(some 9), (Op.load 23 (Operand.tmp 2)), none⟩,
  ⟨none, (Op.store 23 (Operand.tmp 4) (Operand.tmp 9)), none⟩]
attribute [go_sem] r60_4
def c60 : PC := (.seq (.reg r60_0) (.seq (.reg r60_1) (.seq (.reg r60_2) (.seq (.reg r60_3) (.seq (.reg r60_4) .ret)))))
def i60 : FnI := ⟨10, [(ResultVar.cell 4 23)], c60, 0, [[0, 0, 0, 0, 0], [0]], [[0, 0, 0, 0, 0]], false, false, 0⟩
-- loop.example/g00344/spec.l12Tick
def r49_0 : List PO := [⟨(some 1), (Op.box 23 (Operand.tmp 0)), none⟩,
  ⟨(some 2), (Op.alloc 23), none⟩,
  ⟨(some 3), (Op.assign (Operand.const (Value.slice none 0 0))), none⟩]
attribute [go_sem] r49_0
def r49_1 : List PO := [⟨(some 4), (Op.fieldAddr 23 (Operand.tmp 1) 0), none⟩,
  ⟨(some 5), (Op.load 3 (Operand.tmp 4)), none⟩,
  ⟨(some 6), (Op.binOp BinOp.lss 3 (Operand.tmp 5) (Operand.const (Value.int IntKind.i64 2)) 3), none⟩]
attribute [go_sem] r49_1
def r49_2 : List PO := [⟨(some 7), (Op.load 23 (Operand.tmp 1)), none⟩,
  ⟨none, (Op.store 23 (Operand.tmp 2) (Operand.tmp 7)), none⟩,
  ⟨(some 3), (Op.assign (Operand.const (Value.slice none 0 0))), none⟩]
attribute [go_sem] r49_2
def r49_3 : List PO := [⟨(some 8), (Op.fieldAddr 23 (Operand.tmp 1) 2), none⟩,
  ⟨(some 9), (Op.load 3 (Operand.tmp 8)), none⟩,
  ⟨(some 10), (Op.binOp BinOp.sub 3 (Operand.tmp 9) (Operand.const (Value.int IntKind.i64 1)) 3), none⟩,
  ⟨(some 11), (Op.fieldAddr 23 (Operand.tmp 1) 2), none⟩,
  ⟨none, (Op.store 3 (Operand.tmp 11) (Operand.tmp 10)), none⟩]
attribute [go_sem] r49_3
def r49_4 : List PO := [⟨(some 12), (Op.fieldAddr 23 (Operand.tmp 1) 2), none⟩,
  ⟨(some 13), (Op.load 3 (Operand.tmp 12)), none⟩,
  ⟨(some 14), (Op.binOp BinOp.eql 3 (Operand.tmp 13) (Operand.const (Value.int IntKind.i64 0)) 3), none⟩]
attribute [go_sem] r49_4
def r49_5 : List PO := [⟨(some 15), (Op.load 23 (Operand.tmp 1)), none⟩,
  ⟨(some 16), (Op.call { callee := (Callee.value (Operand.func 60)), args := #[(Operand.tmp 15), (Operand.const (Value.int IntKind.i64 0))], argTypes := #[23, 3] }), none⟩,
  ⟨(some 17), (Op.buildSlice 36 1 #[(0, (Operand.const (Value.int IntKind.i64 3)))]), none⟩,
  ⟨none, (Op.store 23 (Operand.tmp 2) (Operand.tmp 16)), none⟩,
  ⟨(some 3), (Op.assign (Operand.tmp 17)), none⟩]
attribute [go_sem] r49_5
def r49_6 : List PO := [⟨(some 18), (Op.fieldAddr 23 (Operand.tmp 1) 0), none⟩,
  ⟨(some 19), (Op.load 3 (Operand.tmp 18)), none⟩,
  ⟨(some 20), (Op.binOp BinOp.eql 3 (Operand.tmp 19) (Operand.const (Value.int IntKind.i64 2)) 3), none⟩]
attribute [go_sem] r49_6
def r49_7 : List PO := [⟨(some 21), (Op.load 23 (Operand.tmp 1)), none⟩,
  ⟨none, (Op.store 23 (Operand.tmp 2) (Operand.tmp 21)), none⟩,
  ⟨(some 3), (Op.assign (Operand.const (Value.slice none 0 0))), none⟩]
attribute [go_sem] r49_7
def r49_8 : List PO := [⟨(some 22), (Op.fieldAddr 23 (Operand.tmp 1) 3), none⟩,
  ⟨(some 23), (Op.load 3 (Operand.tmp 22)), none⟩,
  ⟨(some 24), (Op.binOp BinOp.sub 3 (Operand.tmp 23) (Operand.const (Value.int IntKind.i64 1)) 3), none⟩,
  ⟨(some 25), (Op.fieldAddr 23 (Operand.tmp 1) 3), none⟩,
  ⟨none, (Op.store 3 (Operand.tmp 25) (Operand.tmp 24)), none⟩]
attribute [go_sem] r49_8
def r49_9 : List PO := [⟨(some 26), (Op.fieldAddr 23 (Operand.tmp 1) 3), none⟩,
  ⟨(some 27), (Op.load 3 (Operand.tmp 26)), none⟩,
  ⟨(some 28), (Op.binOp BinOp.eql 3 (Operand.tmp 27) (Operand.const (Value.int IntKind.i64 0)) 3), none⟩]
attribute [go_sem] r49_9
def r49_10 : List PO := [⟨(some 29), (Op.fieldAddr 23 (Operand.tmp 1) 1), none⟩,
  ⟨(some 30), (Op.load 3 (Operand.tmp 29)), none⟩,
  ⟨(some 31), (Op.binOp BinOp.quo 3 (Operand.tmp 30) (Operand.const (Value.int IntKind.i64 3)) 3), none⟩,
  ⟨(some 32), (Op.fieldAddr 23 (Operand.tmp 1) 3), none⟩,
  ⟨none, (Op.store 3 (Operand.tmp 32) (Operand.tmp 31)), none⟩]
attribute [go_sem] r49_10
def r49_11 : List PO := [⟨(some 33), (Op.load 23 (Operand.tmp 1)), none⟩,
  ⟨(some 34), (Op.buildSlice 36 1 #[(0, (Operand.const (Value.int IntKind.i64 4)))]), none⟩,
  ⟨none, (Op.store 23 (Operand.tmp 2) (Operand.tmp 33)), none⟩,
  ⟨(some 3), (Op.assign (Operand.tmp 34)), none⟩]
attribute [go_sem] r49_11
def r49_12 : List PO := [⟨(some 35), (Op.load 23 (Operand.tmp 1)), none⟩,
  ⟨none, (Op.store 23 (Operand.tmp 2) (Operand.tmp 35)), none⟩,
  ⟨(some 3), (Op.assign (Operand.const (Value.slice none 0 0))), none⟩]
attribute [go_sem] r49_12
def c49 : PC := (.seq (.reg r49_0) (.seq (.seq (.reg r49_1) (.cond (Operand.tmp 6) (.seq (.reg r49_2) .ret) .skip)) (.seq (.reg r49_3) (.seq (.seq (.reg r49_4) (.cond (Operand.tmp 14) (.seq (.reg r49_5) .ret) .skip)) (.seq (.seq (.reg r49_6) (.cond (Operand.tmp 20) (.seq (.reg r49_7) .ret) .skip)) (.seq (.reg r49_8) (.seq (.seq (.reg r49_9) (.cond (Operand.tmp 28) (.seq (.reg r49_10) (.seq (.reg r49_11) .ret)) .skip)) (.seq (.reg r49_12) .ret))))))))
def i49 : FnI := ⟨36, [(ResultVar.cell 2 23), (ResultVar.tmp 3)], c49, 0, [[0, 0, 0, 0, 0]], [[0, 0, 0, 0, 0], [1]], false, false, 0⟩
-- loop.example/g00344/spec.l12Step
def r42_4 : List PO := [⟨(some 19), (Op.fieldAddr 39 (Operand.tmp 3) 0), none⟩,
  ⟨(some 20), (Op.load 3 (Operand.tmp 19)), none⟩,
  ⟨(some 21), (Op.binOp BinOp.eql 3 (Operand.tmp 20) (Operand.const (Value.int IntKind.i64 1)) 3), none⟩,
  ⟨(some 22), (Op.move (Operand.tmp 21)), none⟩,
  ⟨(some 23), (Op.fieldAddr 23 (Operand.tmp 2) 0), (some (22, true))⟩,
  ⟨(some 24), (Op.load 3 (Operand.tmp 23)), (some (22, true))⟩,
  ⟨(some 25), (Op.binOp BinOp.eql 3 (Operand.tmp 24) (Operand.const (Value.int IntKind.i64 0)) 3), (some (22, true))⟩,
  ⟨(some 26), (Op.pick (Operand.tmp 22) (Operand.tmp 25) (Operand.const (Value.bool false))), none⟩,
  ⟨(some 18), (Op.assign (Operand.tmp 26)), none⟩]
attribute [go_sem] r42_4
def k42_1 : PC := (.post (.reg r42_4) ⟨[2, 3, 4, 6, 18], [.old 0, .old 1, .old 2], []⟩)
def r42_6 : List PO := [⟨(some 30), (Op.fieldAddr 39 (Operand.tmp 3) 0), none⟩,
  ⟨(some 31), (Op.load 3 (Operand.tmp 30)), none⟩,
  ⟨(some 32), (Op.binOp BinOp.eql 3 (Operand.tmp 31) (Operand.const (Value.int IntKind.i64 3)) 3), none⟩,
  ⟨(some 33), (Op.move (Operand.tmp 32)), none⟩,
  ⟨(some 34), (Op.fieldAddr 23 (Operand.tmp 2) 0), (some (33, true))⟩,
  ⟨(some 35), (Op.load 3 (Operand.tmp 34)), (some (33, true))⟩,
  ⟨(some 36), (Op.binOp BinOp.eql 3 (Operand.tmp 35) (Operand.const (Value.int IntKind.i64 1)) 3), (some (33, true))⟩,
  ⟨(some 37), (Op.pick (Operand.tmp 33) (Operand.tmp 36) (Operand.const (Value.bool false))), none⟩,
  ⟨(some 29), (Op.assign (Operand.tmp 37)), none⟩]
attribute [go_sem] r42_6
def k42_2 : PC := (.post (.reg r42_6) ⟨[2, 3, 4, 6, 29], [.old 0, .old 1, .old 2], []⟩)
def r42_10 : List PO := [⟨(some 44), (Op.fieldAddr 39 (Operand.tmp 3) 0), none⟩,
  ⟨(some 45), (Op.load 3 (Operand.tmp 44)), none⟩,
  ⟨(some 46), (Op.binOp BinOp.eql 3 (Operand.tmp 45) (Operand.const (Value.int IntKind.i64 4)) 3), none⟩,
  ⟨(some 47), (Op.move (Operand.tmp 46)), none⟩,
  ⟨(some 48), (Op.move (Operand.tmp 6)), (some (47, true))⟩,
  ⟨(some 49), (Op.pick (Operand.tmp 47) (Operand.tmp 48) (Operand.const (Value.bool false))), none⟩,
  ⟨(some 43), (Op.assign (Operand.tmp 49)), none⟩]
attribute [go_sem] r42_10
def k42_3 : PC := (.post (.reg r42_10) ⟨[2, 3, 4, 6, 43], [.old 0, .old 1, .old 2], []⟩)
def r42_12 : List PO := [⟨(some 53), (Op.fieldAddr 39 (Operand.tmp 3) 0), none⟩,
  ⟨(some 54), (Op.load 3 (Operand.tmp 53)), none⟩,
  ⟨(some 55), (Op.binOp BinOp.eql 3 (Operand.tmp 54) (Operand.const (Value.int IntKind.i64 9)) 3), none⟩,
  ⟨(some 56), (Op.move (Operand.tmp 55)), none⟩,
  ⟨(some 57), (Op.move (Operand.tmp 6)), (some (56, true))⟩,
  ⟨(some 58), (Op.pick (Operand.tmp 56) (Operand.tmp 57) (Operand.const (Value.bool false))), none⟩,
  ⟨(some 52), (Op.assign (Operand.tmp 58)), none⟩]
attribute [go_sem] r42_12
def k42_4 : PC := (.post (.reg r42_12) ⟨[2, 3, 4, 6, 52], [.old 0, .old 1, .old 2], []⟩)
def r42_14 : List PO := [⟨(some 62), (Op.fieldAddr 39 (Operand.tmp 3) 0), none⟩,
  ⟨(some 63), (Op.load 3 (Operand.tmp 62)), none⟩,
  ⟨(some 64), (Op.binOp BinOp.eql 3 (Operand.tmp 63) (Operand.const (Value.int IntKind.i64 2)) 3), none⟩,
  ⟨(some 65), (Op.move (Operand.tmp 64)), none⟩,
  ⟨(some 66), (Op.move (Operand.tmp 6)), (some (65, true))⟩,
  ⟨(some 67), (Op.unOp UnOp.not 4 (Operand.tmp 66)), (some (65, true))⟩,
  ⟨(some 68), (Op.pick (Operand.tmp 65) (Operand.tmp 67) (Operand.const (Value.bool false))), none⟩,
  ⟨(some 61), (Op.assign (Operand.tmp 68)), none⟩]
attribute [go_sem] r42_14
def k42_5 : PC := (.post (.reg r42_14) ⟨[2, 3, 4, 6, 61], [.old 0, .old 1, .old 2], []⟩)
def r42_18 : List PO := [⟨(some 76), (Op.fieldAddr 39 (Operand.tmp 3) 0), none⟩,
  ⟨(some 77), (Op.load 3 (Operand.tmp 76)), none⟩,
  ⟨(some 78), (Op.binOp BinOp.eql 3 (Operand.tmp 77) (Operand.const (Value.int IntKind.i64 5)) 3), none⟩,
  ⟨(some 79), (Op.move (Operand.tmp 78)), none⟩,
  ⟨(some 80), (Op.fieldAddr 23 (Operand.tmp 2) 0), (some (79, true))⟩,
  ⟨(some 81), (Op.load 3 (Operand.tmp 80)), (some (79, true))⟩,
  ⟨(some 82), (Op.binOp BinOp.eql 3 (Operand.tmp 81) (Operand.const (Value.int IntKind.i64 2)) 3), (some (79, true))⟩,
  ⟨(some 83), (Op.pick (Operand.tmp 79) (Operand.tmp 82) (Operand.const (Value.bool false))), none⟩,
  ⟨(some 84), (Op.move (Operand.tmp 83)), none⟩,
  ⟨(some 85), (Op.fieldAddr 39 (Operand.tmp 3) 1), (some (84, true))⟩,
  ⟨(some 86), (Op.load 3 (Operand.tmp 85)), (some (84, true))⟩,
  ⟨(some 87), (Op.binOp BinOp.geq 3 (Operand.tmp 86) (Operand.const (Value.int IntKind.i64 3)) 3), (some (84, true))⟩,
  ⟨(some 88), (Op.pick (Operand.tmp 84) (Operand.tmp 87) (Operand.const (Value.bool false))), none⟩,
  ⟨(some 75), (Op.assign (Operand.tmp 88)), none⟩]
attribute [go_sem] r42_18
def k42_6 : PC := (.post (.reg r42_18) ⟨[2, 3, 4, 75], [.old 0, .old 1, .old 2], []⟩)
def r42_21 : List PO := [⟨(some 95), (Op.fieldAddr 39 (Operand.tmp 3) 1), none⟩,
  ⟨(some 96), (Op.load 3 (Operand.tmp 95)), none⟩,
  ⟨(some 97), (Op.fieldAddr 23 (Operand.tmp 2) 1), none⟩,
  ⟨none, (Op.store 3 (Operand.tmp 97) (Operand.tmp 96)), none⟩]
attribute [go_sem] r42_21
def k42_7 : PC := (.cond (Operand.tmp 94) (.post (.reg r42_21) ⟨[2, 4], [.old 0, .old 2], []⟩) (.post .skip ⟨[2, 4], [.old 0, .old 2], []⟩))
def r42_25 : List PO := [⟨(some 108), (Op.fieldAddr 39 (Operand.tmp 3) 0), none⟩,
  ⟨(some 109), (Op.load 3 (Operand.tmp 108)), none⟩,
  ⟨(some 110), (Op.binOp BinOp.eql 3 (Operand.tmp 109) (Operand.const (Value.int IntKind.i64 7)) 3), none⟩,
  ⟨(some 111), (Op.move (Operand.tmp 110)), none⟩,
  ⟨(some 112), (Op.fieldAddr 23 (Operand.tmp 2) 0), (some (111, true))⟩,
  ⟨(some 113), (Op.load 3 (Operand.tmp 112)), (some (111, true))⟩,
  ⟨(some 114), (Op.binOp BinOp.geq 3 (Operand.tmp 113) (Operand.const (Value.int IntKind.i64 3)) 3), (some (111, true))⟩,
  ⟨(some 115), (Op.pick (Operand.tmp 111) (Operand.tmp 114) (Operand.const (Value.bool false))), none⟩,
  ⟨(some 107), (Op.assign (Operand.tmp 115)), none⟩]
attribute [go_sem] r42_25
def k42_8 : PC := (.post (.reg r42_25) ⟨[2, 3, 4, 107], [.old 0, .old 1, .old 2], []⟩)
def r42_26 : List PO := [⟨(some 116), (Op.fieldAddr 39 (Operand.tmp 3) 0), none⟩,
  ⟨(some 117), (Op.load 3 (Operand.tmp 116)), none⟩,
  ⟨(some 118), (Op.binOp BinOp.eql 3 (Operand.tmp 117) (Operand.const (Value.int IntKind.i64 8)) 3), none⟩,
  ⟨(some 119), (Op.move (Operand.tmp 118)), none⟩,
  ⟨(some 120), (Op.fieldAddr 23 (Operand.tmp 2) 0), (some (119, true))⟩,
  ⟨(some 121), (Op.load 3 (Operand.tmp 120)), (some (119, true))⟩,
  ⟨(some 122), (Op.binOp BinOp.eql 3 (Operand.tmp 121) (Operand.const (Value.int IntKind.i64 4)) 3), (some (119, true))⟩,
  ⟨(some 123), (Op.pick (Operand.tmp 119) (Operand.tmp 122) (Operand.const (Value.bool false))), none⟩,
  ⟨(some 107), (Op.assign (Operand.tmp 123)), none⟩]
attribute [go_sem] r42_26
def k42_10 : PC := (.post (.reg r42_26) ⟨[2, 4, 107], [.old 0, .old 2], []⟩)
def k42_9 : PC := (.cond (Operand.tmp 107) (.post .skip ⟨[2, 4, 107], [.old 0, .old 2], []⟩) (.post (.pre ⟨[2, 3, 4], [.old 0, .old 1, .old 2], []⟩ k42_10) ⟨[2, 4, 107], [.old 0, .old 1], []⟩))
def r42_27 : List PO := [⟨(some 124), (Op.fieldAddr 23 (Operand.tmp 2) 0), none⟩,
  ⟨(some 125), (Op.load 3 (Operand.tmp 124)), none⟩,
  ⟨(some 126), (Op.binOp BinOp.eql 3 (Operand.tmp 125) (Operand.const (Value.int IntKind.i64 3)) 3), none⟩,
  ⟨(some 127), (Op.move (Operand.tmp 126)), none⟩,
  ⟨(some 128), (Op.fieldAddr 23 (Operand.tmp 2) 4), (some (127, true))⟩,
  ⟨(some 129), (Op.load 3 (Operand.tmp 128)), (some (127, true))⟩,
  ⟨(some 130), (Op.binOp BinOp.lss 3 (Operand.tmp 129) (Operand.const (Value.int IntKind.i64 1000)) 3), (some (127, true))⟩,
  ⟨(some 131), (Op.pick (Operand.tmp 127) (Operand.tmp 130) (Operand.const (Value.bool false))), none⟩]
attribute [go_sem] r42_27
def k42_11 : PC := (.post (.reg r42_27) ⟨[2, 4, 131], [.old 0, .old 1], []⟩)
def r42_28 : List PO := [⟨(some 132), (Op.fieldAddr 23 (Operand.tmp 2) 4), none⟩,
  ⟨(some 133), (Op.load 3 (Operand.tmp 132)), none⟩,
  ⟨(some 134), (Op.binOp BinOp.add 3 (Operand.tmp 133) (Operand.const (Value.int IntKind.i64 1)) 3), none⟩,
  ⟨(some 135), (Op.fieldAddr 23 (Operand.tmp 2) 4), none⟩,
  ⟨none, (Op.store 3 (Operand.tmp 135) (Operand.tmp 134)), none⟩]
attribute [go_sem] r42_28
def k42_12 : PC := (.cond (Operand.tmp 131) (.post (.reg r42_28) ⟨[2, 4], [.old 0, .old 1], []⟩) (.post .skip ⟨[2, 4], [.old 0, .old 1], []⟩))
def r42_0 : List PO := [⟨(some 2), (Op.box 23 (Operand.tmp 0)), none⟩,
  ⟨(some 3), (Op.box 39 (Operand.tmp 1)), none⟩,
  ⟨(some 4), (Op.alloc 23), none⟩,
  ⟨(some 5), (Op.assign (Operand.const (Value.slice none 0 0))), none⟩]
attribute [go_sem] r42_0
def r42_1 : List PO := [⟨(some 7), (Op.fieldAddr 23 (Operand.tmp 2) 0), none⟩,
  ⟨(some 8), (Op.load 3 (Operand.tmp 7)), none⟩,
  ⟨(some 9), (Op.binOp BinOp.geq 3 (Operand.tmp 8) (Operand.const (Value.int IntKind.i64 2)) 3), none⟩,
  ⟨(some 6), (Op.assign (Operand.tmp 9)), none⟩]
attribute [go_sem] r42_1
def r42_2 : List PO := [⟨(some 11), (Op.fieldAddr 39 (Operand.tmp 3) 0), none⟩,
  ⟨(some 12), (Op.load 3 (Operand.tmp 11)), none⟩,
  ⟨(some 13), (Op.binOp BinOp.eql 3 (Operand.tmp 12) (Operand.const (Value.int IntKind.i64 10)) 3), none⟩,
  ⟨(some 10), (Op.assign (Operand.tmp 13)), none⟩]
attribute [go_sem] r42_2
def r42_3 : List PO := [⟨(some 14), (Op.load 23 (Operand.tmp 2)), none⟩,
  ⟨(some 15), (Op.call { callee := (Callee.value (Operand.func 49)), args := #[(Operand.tmp 14)], argTypes := #[23] }), none⟩,
  ⟨(some 16), (Op.extract (Operand.tmp 15) 0), none⟩,
  ⟨(some 17), (Op.extract (Operand.tmp 15) 1), none⟩,
  ⟨none, (Op.store 23 (Operand.tmp 4) (Operand.tmp 16)), none⟩,
  ⟨(some 5), (Op.assign (Operand.tmp 17)), none⟩]
attribute [go_sem] r42_3
def r42_5 : List PO := [⟨(some 27), (Op.load 23 (Operand.tmp 2)), none⟩,
  ⟨(some 28), (Op.call { callee := (Callee.value (Operand.func 60)), args := #[(Operand.tmp 27), (Operand.const (Value.int IntKind.i64 1))], argTypes := #[23, 3] }), none⟩,
  ⟨none, (Op.store 23 (Operand.tmp 4) (Operand.tmp 28)), none⟩,
  ⟨(some 5), (Op.assign (Operand.const (Value.slice none 0 0))), none⟩]
attribute [go_sem] r42_5
def r42_7 : List PO := [⟨(some 38), (Op.load 23 (Operand.tmp 2)), none⟩,
  ⟨(some 39), (Op.call { callee := (Callee.value (Operand.func 60)), args := #[(Operand.tmp 38), (Operand.const (Value.int IntKind.i64 2))], argTypes := #[23, 3] }), none⟩,
  ⟨none, (Op.store 23 (Operand.tmp 2) (Operand.tmp 39)), none⟩]
attribute [go_sem] r42_7
def r42_8 : List PO := [⟨(some 40), (Op.fieldAddr 23 (Operand.tmp 2) 2), none⟩,
  ⟨none, (Op.store 3 (Operand.tmp 40) (Operand.const (Value.int IntKind.i64 90))), none⟩]
attribute [go_sem] r42_8
def r42_9 : List PO := [⟨(some 41), (Op.load 23 (Operand.tmp 2)), none⟩,
  ⟨(some 42), (Op.buildSlice 36 1 #[(0, (Operand.const (Value.int IntKind.i64 1)))]), none⟩,
  ⟨none, (Op.store 23 (Operand.tmp 4) (Operand.tmp 41)), none⟩,
  ⟨(some 5), (Op.assign (Operand.tmp 42)), none⟩]
attribute [go_sem] r42_9
def r42_11 : List PO := [⟨(some 50), (Op.load 23 (Operand.tmp 2)), none⟩,
  ⟨(some 51), (Op.call { callee := (Callee.value (Operand.func 60)), args := #[(Operand.tmp 50), (Operand.const (Value.int IntKind.i64 1))], argTypes := #[23, 3] }), none⟩,
  ⟨none, (Op.store 23 (Operand.tmp 4) (Operand.tmp 51)), none⟩,
  ⟨(some 5), (Op.assign (Operand.const (Value.slice none 0 0))), none⟩]
attribute [go_sem] r42_11
def r42_13 : List PO := [⟨(some 59), (Op.load 23 (Operand.tmp 2)), none⟩,
  ⟨(some 60), (Op.call { callee := (Callee.value (Operand.func 60)), args := #[(Operand.tmp 59), (Operand.const (Value.int IntKind.i64 0))], argTypes := #[23, 3] }), none⟩,
  ⟨none, (Op.store 23 (Operand.tmp 4) (Operand.tmp 60)), none⟩,
  ⟨(some 5), (Op.assign (Operand.const (Value.slice none 0 0))), none⟩]
attribute [go_sem] r42_13
def r42_15 : List PO := [⟨(some 69), (Op.load 23 (Operand.tmp 2)), none⟩,
  ⟨(some 70), (Op.call { callee := (Callee.value (Operand.func 60)), args := #[(Operand.tmp 69), (Operand.const (Value.int IntKind.i64 0))], argTypes := #[23, 3] }), none⟩,
  ⟨none, (Op.store 23 (Operand.tmp 4) (Operand.tmp 70)), none⟩,
  ⟨(some 5), (Op.assign (Operand.const (Value.slice none 0 0))), none⟩]
attribute [go_sem] r42_15
def r42_16 : List PO := [⟨(some 72), (Op.move (Operand.tmp 6)), none⟩,
  ⟨(some 73), (Op.unOp UnOp.not 4 (Operand.tmp 72)), none⟩,
  ⟨(some 71), (Op.assign (Operand.tmp 73)), none⟩]
attribute [go_sem] r42_16
def r42_17 : List PO := [⟨(some 74), (Op.load 23 (Operand.tmp 2)), none⟩,
  ⟨none, (Op.store 23 (Operand.tmp 4) (Operand.tmp 74)), none⟩,
  ⟨(some 5), (Op.assign (Operand.const (Value.slice none 0 0))), none⟩]
attribute [go_sem] r42_17
def r42_19 : List PO := [⟨(some 89), (Op.fieldAddr 23 (Operand.tmp 2) 0), none⟩,
  ⟨none, (Op.store 3 (Operand.tmp 89) (Operand.const (Value.int IntKind.i64 3))), none⟩]
attribute [go_sem] r42_19
def r42_20 : List PO := [⟨(some 90), (Op.fieldAddr 39 (Operand.tmp 3) 1), none⟩,
  ⟨(some 91), (Op.load 3 (Operand.tmp 90)), none⟩,
  ⟨(some 92), (Op.fieldAddr 23 (Operand.tmp 2) 1), none⟩,
  ⟨(some 93), (Op.load 3 (Operand.tmp 92)), none⟩,
  ⟨(some 94), (Op.binOp BinOp.lss 3 (Operand.tmp 91) (Operand.tmp 93) 3), none⟩]
attribute [go_sem] r42_20
def r42_22 : List PO := [⟨(some 98), (Op.fieldAddr 23 (Operand.tmp 2) 1), none⟩,
  ⟨(some 99), (Op.load 3 (Operand.tmp 98)), none⟩,
  ⟨(some 100), (Op.fieldAddr 23 (Operand.tmp 2) 2), none⟩,
  ⟨none, (Op.store 3 (Operand.tmp 100) (Operand.tmp 99)), none⟩]
attribute [go_sem] r42_22
def r42_23 : List PO := [⟨(some 101), (Op.fieldAddr 23 (Operand.tmp 2) 1), none⟩,
  ⟨(some 102), (Op.load 3 (Operand.tmp 101)), none⟩,
  ⟨(some 103), (Op.binOp BinOp.quo 3 (Operand.tmp 102) (Operand.const (Value.int IntKind.i64 3)) 3), none⟩,
  ⟨(some 104), (Op.fieldAddr 23 (Operand.tmp 2) 3), none⟩,
  ⟨none, (Op.store 3 (Operand.tmp 104) (Operand.tmp 103)), none⟩]
attribute [go_sem] r42_23
def r42_24 : List PO := [⟨(some 105), (Op.load 23 (Operand.tmp 2)), none⟩,
  ⟨(some 106), (Op.buildSlice 36 1 #[(0, (Operand.const (Value.int IntKind.i64 4)))]), none⟩,
  ⟨none, (Op.store 23 (Operand.tmp 4) (Operand.tmp 105)), none⟩,
  ⟨(some 5), (Op.assign (Operand.tmp 106)), none⟩]
attribute [go_sem] r42_24
def r42_29 : List PO := [⟨(some 136), (Op.fieldAddr 23 (Operand.tmp 2) 0), none⟩,
  ⟨none, (Op.store 3 (Operand.tmp 136) (Operand.const (Value.int IntKind.i64 4))), none⟩]
attribute [go_sem] r42_29
def r42_30 : List PO := [⟨(some 137), (Op.fieldAddr 23 (Operand.tmp 2) 1), none⟩,
  ⟨(some 138), (Op.load 3 (Operand.tmp 137)), none⟩,
  ⟨(some 139), (Op.fieldAddr 23 (Operand.tmp 2) 2), none⟩,
  ⟨none, (Op.store 3 (Operand.tmp 139) (Operand.tmp 138)), none⟩]
attribute [go_sem] r42_30
def r42_31 : List PO := [⟨(some 140), (Op.load 23 (Operand.tmp 2)), none⟩,
  ⟨none, (Op.store 23 (Operand.tmp 4) (Operand.tmp 140)), none⟩,
  ⟨(some 5), (Op.assign (Operand.const (Value.slice none 0 0))), none⟩]
attribute [go_sem] r42_31
def r42_32 : List PO := [⟨(some 141), (Op.load 23 (Operand.tmp 2)), none⟩,
  ⟨(some 142), (Op.call { callee := (Callee.value (Operand.func 60)), args := #[(Operand.tmp 141), (Operand.const (Value.int IntKind.i64 0))], argTypes := #[23, 3] }), none⟩,
  ⟨(some 143), (Op.buildSlice 36 1 #[(0, (Operand.const (Value.int IntKind.i64 3)))]), none⟩,
  ⟨none, (Op.store 23 (Operand.tmp 4) (Operand.tmp 142)), none⟩,
  ⟨(some 5), (Op.assign (Operand.tmp 143)), none⟩]
attribute [go_sem] r42_32
def c42 : PC := (.seq (.reg r42_0) (.seq (.reg r42_1) (.seq (.block 0 (.seq (.reg r42_2) (.cond (Operand.tmp 10) (.seq (.reg r42_3) .ret) (.seq (.pre ⟨[2, 3, 4, 6], [.old 0, .old 1, .old 2], []⟩ k42_1) (.cond (Operand.tmp 18) (.seq (.reg r42_5) .ret) (.seq (.pre ⟨[2, 3, 4, 6], [.old 0, .old 1, .old 2], []⟩ k42_2) (.cond (Operand.tmp 29) (.seq (.reg r42_7) (.seq (.reg r42_8) (.seq (.reg r42_9) .ret))) (.seq (.pre ⟨[2, 3, 4, 6], [.old 0, .old 1, .old 2], []⟩ k42_3) (.cond (Operand.tmp 43) (.seq (.reg r42_11) .ret) (.seq (.pre ⟨[2, 3, 4, 6], [.old 0, .old 1, .old 2], []⟩ k42_4) (.cond (Operand.tmp 52) (.seq (.reg r42_13) .ret) (.seq (.pre ⟨[2, 3, 4, 6], [.old 0, .old 1, .old 2], []⟩ k42_5) (.cond (Operand.tmp 61) (.seq (.reg r42_15) .ret) (.seq (.reg r42_16) (.cond (Operand.tmp 71) (.seq (.reg r42_17) .ret) (.seq (.pre ⟨[2, 3, 4], [.old 0, .old 1, .old 2], []⟩ k42_6) (.cond (Operand.tmp 75) (.seq (.reg r42_19) (.seq (.seq (.reg r42_20) (.pre ⟨[2, 3, 4, 94], [.old 0, .old 1, .old 2], []⟩ k42_7)) (.seq (.reg r42_22) (.seq (.reg r42_23) (.seq (.reg r42_24) .ret))))) (.seq (.seq (.pre ⟨[2, 3, 4], [.old 0, .old 1, .old 2], []⟩ k42_8) (.pre ⟨[2, 3, 4, 107], [.old 0, .old 1, .old 2], []⟩ k42_9)) (.cond (Operand.tmp 107) (.seq (.seq (.pre ⟨[2, 4], [.old 0, .old 1], []⟩ k42_11) (.pre ⟨[2, 4, 131], [.old 0, .old 1], []⟩ k42_12)) (.seq (.reg r42_29) (.seq (.reg r42_30) (.seq (.reg r42_31) .ret)))) .skip))))))))))))))))))) (.seq (.reg r42_32) .ret))))
def i42 : FnI := ⟨144, [(ResultVar.cell 4 23), (ResultVar.tmp 5)], c42, 0, [[0, 0, 0, 0, 0], [0, 0]], [[0, 0, 0, 0, 0], [1]], false, false, 0⟩
-- loop.example/g00344/spec.l12Side1
def r48_0 : List PO := [⟨(some 2), (Op.alloc 74), none⟩]
attribute [go_sem] r48_0
def r48_1 : List PO := [⟨(some 6), (Op.move (Operand.tmp 0)), none⟩,
  ⟨(some 7), (Op.call { callee := (Callee.value (Operand.func 11)), args := #[(Operand.tmp 6)], argTypes := #[3] }), none⟩,
  ⟨(some 5), (Op.move (Operand.tmp 7)), none⟩,
  ⟨(some 8), (Op.extract (Operand.tmp 5) 0), none⟩,
  ⟨(some 9), (Op.extract (Operand.tmp 5) 1), none⟩,
  ⟨(some 3), (Op.alloc 23), none⟩,
  ⟨none, (Op.store 23 (Operand.tmp 3) (Operand.tmp 8)), none⟩,
  ⟨(some 4), (Op.assign (Operand.tmp 9)), none⟩]
attribute [go_sem] r48_1
def r48_2 : List PO := [⟨(some 11), (Op.load 23 (Operand.tmp 3)), none⟩,
  ⟨(some 12), (Op.build 39 #[(0, (Operand.const (Value.int IntKind.i64 1)))]), none⟩,
  ⟨(some 13), (Op.call { callee := (Callee.value (Operand.func 42)), args := #[(Operand.tmp 11), (Operand.tmp 12)], argTypes := #[23, 39] }), none⟩,
  ⟨(some 10), (Op.move (Operand.tmp 13)), none⟩,
  ⟨(some 14), (Op.extract (Operand.tmp 10) 0), none⟩,
  ⟨(some 15), (Op.extract (Operand.tmp 10) 1), none⟩,
  ⟨none, (Op.store 23 (Operand.tmp 3) (Operand.tmp 14)), none⟩]
attribute [go_sem] r48_2
def r48_3 : List PO := [⟨(some 17), (Op.load 23 (Operand.tmp 3)), none⟩,
  ⟨(some 18), (Op.build 39 #[(0, (Operand.const (Value.int IntKind.i64 3)))]), none⟩,
  ⟨(some 19), (Op.call { callee := (Callee.value (Operand.func 42)), args := #[(Operand.tmp 17), (Operand.tmp 18)], argTypes := #[23, 39] }), none⟩,
  ⟨(some 16), (Op.move (Operand.tmp 19)), none⟩,
  ⟨(some 20), (Op.extract (Operand.tmp 16) 0), none⟩,
  ⟨(some 21), (Op.extract (Operand.tmp 16) 1), none⟩,
  ⟨none, (Op.store 23 (Operand.tmp 3) (Operand.tmp 20)), none⟩]
attribute [go_sem] r48_3
def r48_4 : List PO := [⟨(some 22), (Op.load 23 (Operand.tmp 3)), none⟩,
  ⟨(some 23), (Op.move (Operand.tmp 0)), none⟩,
  ⟨(some 24), (Op.build 74 #[(0, (Operand.tmp 22)), (2, (Operand.tmp 23))]), none⟩,
  ⟨none, (Op.store 74 (Operand.tmp 2) (Operand.tmp 24)), none⟩]
attribute [go_sem] r48_4
def c48 : PC := (.seq (.reg r48_0) (.seq (.reg r48_1) (.seq (.reg r48_2) (.seq (.reg r48_3) (.seq (.reg r48_4) .ret)))))
def i48 : FnI := ⟨25, [(ResultVar.cell 2 74)], c48, 0, [[0]], [[0, 0, 0, 0, 0, 1, 0]], false, false, 0⟩
-- loop.example/g00344/spec.l12Come
def r50_12 : List PO := [⟨(some 36), (Op.fieldAddr 39 (Operand.tmp 7) 0), none⟩,
  ⟨none, (Op.store 3 (Operand.tmp 36) (Operand.const (Value.int IntKind.i64 8))), none⟩]
attribute [go_sem] r50_12
def k50_3 : PC := (.cond (Operand.tmp 34) (.post (.reg r50_12) ⟨[2, 4, 7], [.old 1, .old 2, .old 3, .old 4, .old 5], []⟩) (.post .skip ⟨[2, 4, 7], [.old 1, .old 2, .old 3, .old 4, .old 5], []⟩))
def r50_10 : List PO := [⟨(some 33), (Op.fieldAddr 39 (Operand.tmp 7) 0), none⟩,
  ⟨none, (Op.store 3 (Operand.tmp 33) (Operand.const (Value.int IntKind.i64 7))), none⟩]
attribute [go_sem] r50_10
def r50_11 : List PO := [⟨(some 35), (Op.binOp BinOp.eql 3 (Operand.tmp 26) (Operand.const (Value.int IntKind.i64 2)) 3), none⟩,
  ⟨(some 34), (Op.assign (Operand.tmp 35)), none⟩]
attribute [go_sem] r50_11
def k50_2 : PC := (.cond (Operand.tmp 31) (.post (.reg r50_10) ⟨[2, 4, 7], [.old 1, .old 2, .old 3, .old 4, .old 5], []⟩) (.seq (.reg r50_11) (.post (.pre ⟨[2, 4, 7, 34], [.old 1, .old 2, .old 3, .old 4, .old 5], []⟩ k50_3) ⟨[2, 4, 7], [.old 1, .old 2, .old 3, .old 4, .old 5], []⟩)))
def r50_8 : List PO := [⟨(some 29), (Op.move (Operand.tmp 1)), none⟩,
  ⟨(some 30), (Op.build 39 #[(0, (Operand.const (Value.int IntKind.i64 5))), (1, (Operand.tmp 29))]), none⟩,
  ⟨none, (Op.store 39 (Operand.tmp 7) (Operand.tmp 30)), none⟩]
attribute [go_sem] r50_8
def r50_9 : List PO := [⟨(some 32), (Op.binOp BinOp.eql 3 (Operand.tmp 26) (Operand.const (Value.int IntKind.i64 4)) 3), none⟩,
  ⟨(some 31), (Op.assign (Operand.tmp 32)), none⟩]
attribute [go_sem] r50_9
def k50_1 : PC := (.cond (Operand.tmp 27) (.post (.reg r50_8) ⟨[2, 4, 7], [.old 1, .old 2, .old 3, .old 4, .old 5], []⟩) (.seq (.reg r50_9) (.post (.pre ⟨[2, 4, 7, 26, 31], [.old 1, .old 2, .old 3, .old 4, .old 5], []⟩ k50_2) ⟨[2, 4, 7], [.old 1, .old 2, .old 3, .old 4, .old 5], []⟩)))
def r50_0 : List PO := [⟨(some 2), (Op.box 74 (Operand.tmp 0)), none⟩,
  ⟨(some 4), (Op.alloc 74), none⟩,
  ⟨(some 5), (Op.assign (Operand.const (Value.slice none 0 0))), none⟩]
attribute [go_sem] r50_0
def r50_1 : List PO := [⟨(some 10), (Op.fieldAddr 74 (Operand.tmp 2) 1), none⟩,
  ⟨(some 11), (Op.load 36 (Operand.tmp 10)), none⟩,
  ⟨(some 12), (Op.call { callee := (Callee.builtin Builtin.len), args := #[(Operand.tmp 11)], argTypes := #[36] }), none⟩,
  ⟨(some 13), (Op.binOp BinOp.eql 3 (Operand.tmp 12) (Operand.const (Value.int IntKind.i64 0)) 3), none⟩]
attribute [go_sem] r50_1
def r50_2 : List PO := [⟨(some 14), (Op.load 74 (Operand.tmp 2)), none⟩,
  ⟨none, (Op.store 74 (Operand.tmp 4) (Operand.tmp 14)), none⟩,
  ⟨(some 5), (Op.assign (Operand.const (Value.slice none 0 0))), none⟩]
attribute [go_sem] r50_2
def r50_3 : List PO := [⟨(some 15), (Op.fieldAddr 74 (Operand.tmp 2) 1), none⟩,
  ⟨(some 16), (Op.load 36 (Operand.tmp 15)), none⟩,
  ⟨(some 17), (Op.indexAddr 36 (Operand.tmp 16) (Operand.const (Value.int IntKind.i64 0))), none⟩,
  ⟨(some 18), (Op.load 3 (Operand.tmp 17)), none⟩,
  ⟨(some 6), (Op.assign (Operand.tmp 18)), none⟩]
attribute [go_sem] r50_3
def r50_4 : List PO := [⟨(some 19), (Op.buildSlice 36 0 #[]), none⟩,
  ⟨(some 20), (Op.fieldAddr 74 (Operand.tmp 2) 1), none⟩,
  ⟨(some 21), (Op.load 36 (Operand.tmp 20)), none⟩,
  ⟨(some 22), (Op.slice 36 (Operand.tmp 21) (some (Operand.const (Value.int IntKind.i64 1))) none none), none⟩,
  ⟨(some 23), (Op.call { callee := (Callee.builtin Builtin.append), args := #[(Operand.tmp 19), (Operand.tmp 22)], argTypes := #[36, 36] }), none⟩,
  ⟨(some 24), (Op.fieldAddr 74 (Operand.tmp 2) 1), none⟩,
  ⟨none, (Op.store 36 (Operand.tmp 24) (Operand.tmp 23)), none⟩]
attribute [go_sem] r50_4
def r50_5 : List PO := [⟨(some 25), (Op.build 39 #[(0, (Operand.const (Value.int IntKind.i64 9)))]), none⟩,
  ⟨(some 7), (Op.alloc 39), none⟩,
  ⟨none, (Op.store 39 (Operand.tmp 7) (Operand.tmp 25)), none⟩]
attribute [go_sem] r50_5
def r50_6 : List PO := [⟨(some 26), (Op.move (Operand.tmp 6)), none⟩]
attribute [go_sem] r50_6
def r50_7 : List PO := [⟨(some 28), (Op.binOp BinOp.eql 3 (Operand.tmp 26) (Operand.const (Value.int IntKind.i64 1)) 3), none⟩,
  ⟨(some 27), (Op.assign (Operand.tmp 28)), none⟩]
attribute [go_sem] r50_7
def r50_13 : List PO := [⟨(some 38), (Op.fieldAddr 74 (Operand.tmp 2) 0), none⟩,
  ⟨(some 39), (Op.load 23 (Operand.tmp 38)), none⟩,
  ⟨(some 40), (Op.load 39 (Operand.tmp 7)), none⟩,
  ⟨(some 41), (Op.call { callee := (Callee.value (Operand.func 42)), args := #[(Operand.tmp 39), (Operand.tmp 40)], argTypes := #[23, 39] }), none⟩,
  ⟨(some 37), (Op.move (Operand.tmp 41)), none⟩,
  ⟨(some 42), (Op.extract (Operand.tmp 37) 0), none⟩,
  ⟨(some 43), (Op.extract (Operand.tmp 37) 1), none⟩,
  ⟨(some 8), (Op.alloc 23), none⟩,
  ⟨none, (Op.store 23 (Operand.tmp 8) (Operand.tmp 42)), none⟩,
  ⟨(some 9), (Op.assign (Operand.tmp 43)), none⟩]
attribute [go_sem] r50_13
def r50_14 : List PO := [⟨(some 44), (Op.load 23 (Operand.tmp 8)), none⟩,
  ⟨(some 45), (Op.fieldAddr 74 (Operand.tmp 2) 0), none⟩,
  ⟨none, (Op.store 23 (Operand.tmp 45) (Operand.tmp 44)), none⟩]
attribute [go_sem] r50_14
def r50_15 : List PO := [⟨(some 46), (Op.load 74 (Operand.tmp 2)), none⟩,
  ⟨(some 47), (Op.move (Operand.tmp 9)), none⟩,
  ⟨none, (Op.store 74 (Operand.tmp 4) (Operand.tmp 46)), none⟩,
  ⟨(some 5), (Op.assign (Operand.tmp 47)), none⟩]
attribute [go_sem] r50_15
def c50 : PC := (.seq (.reg r50_0) (.seq (.seq (.reg r50_1) (.cond (Operand.tmp 13) (.seq (.reg r50_2) (.pre ⟨[4, 5], [.old 2, .old 0, .nilT 5 0 1], [0]⟩ .ret)) .skip)) (.seq (.reg r50_3) (.seq (.reg r50_4) (.seq (.reg r50_5) (.seq (.seq (.reg r50_6) (.block 0 (.seq (.reg r50_7) (.pre ⟨[1, 2, 4, 7, 26, 27], [.old 1, .old 4, .old 2, .nilB 2 5 1, .old 5], []⟩ k50_1)))) (.seq (.reg r50_13) (.seq (.reg r50_14) (.seq (.reg r50_15) (.pre ⟨[4, 5], [.old 3, .old 2, .old 6], [0]⟩ .ret))))))))))
def i50 : FnI := ⟨48, [(ResultVar.cell 4 74), (ResultVar.tmp 5)], c50, 3, [[0, 0, 0, 0, 0, 1, 0], [0]], [[0, 0, 0, 0, 0, 1, 0], [1]], false, true, 1⟩
-- loop.example/g00344/spec.PlayPair
def r31_1 : List PO := [⟨(some 15), (Op.move (Operand.tmp 0)), none⟩,
  ⟨(some 16), (Op.call { callee := (Callee.value (Operand.func 39)), args := #[(Operand.tmp 15), (Operand.const (Value.int IntKind.i64 3)), (Operand.const (Value.int IntKind.i64 90))], argTypes := #[3, 3, 3] }), none⟩,
  ⟨(some 17), (Op.unOp UnOp.not 4 (Operand.tmp 16)), none⟩,
  ⟨(some 18), (Op.move (Operand.tmp 17)), none⟩,
  ⟨(some 19), (Op.move (Operand.tmp 1)), (some (18, false))⟩,
  ⟨(some 20), (Op.call { callee := (Callee.value (Operand.func 39)), args := #[(Operand.tmp 19), (Operand.const (Value.int IntKind.i64 3)), (Operand.const (Value.int IntKind.i64 90))], argTypes := #[3, 3, 3] }), (some (18, false))⟩,
  ⟨(some 21), (Op.unOp UnOp.not 4 (Operand.tmp 20)), (some (18, false))⟩,
  ⟨(some 22), (Op.pick (Operand.tmp 18) (Operand.const (Value.bool true)) (Operand.tmp 21)), none⟩,
  ⟨(some 23), (Op.move (Operand.tmp 22)), none⟩,
  ⟨(some 24), (Op.move (Operand.tmp 2)), (some (23, false))⟩,
  ⟨(some 25), (Op.call { callee := (Callee.builtin Builtin.len), args := #[(Operand.tmp 24)], argTypes := #[36] }), (some (23, false))⟩,
  ⟨(some 26), (Op.binOp BinOp.gtr 3 (Operand.tmp 25) (Operand.const (Value.int IntKind.i64 100)) 3), (some (23, false))⟩,
  ⟨(some 27), (Op.pick (Operand.tmp 23) (Operand.const (Value.bool true)) (Operand.tmp 26)), none⟩]
attribute [go_sem] r31_1
def k31_1 : PC := (.post (.reg r31_1) ⟨[0, 1, 2, 6, 7, 27], [.old 0, .old 1], []⟩)
def r31_17 : List PO := [⟨(some 66), (Op.load 74 (Operand.tmp 9)), none⟩,
  ⟨(some 67), (Op.move (Operand.tmp 1)), none⟩,
  ⟨(some 68), (Op.call { callee := (Callee.value (Operand.func 50)), args := #[(Operand.tmp 66), (Operand.tmp 67)], argTypes := #[74, 3] }), none⟩,
  ⟨(some 65), (Op.move (Operand.tmp 68)), none⟩,
  ⟨(some 69), (Op.extract (Operand.tmp 65) 0), none⟩,
  ⟨(some 70), (Op.extract (Operand.tmp 65) 1), none⟩,
  ⟨none, (Op.store 74 (Operand.tmp 9) (Operand.tmp 69)), none⟩,
  ⟨(some 14), (Op.assign (Operand.tmp 70)), none⟩]
attribute [go_sem] r31_17
def r31_18 : List PO := [⟨(some 72), (Op.binOp BinOp.eql 3 (Operand.tmp 44) (Operand.const (Value.int IntKind.i64 2)) 3), none⟩,
  ⟨(some 71), (Op.assign (Operand.tmp 72)), none⟩]
attribute [go_sem] r31_18
def r31_19 : List PO := [⟨(some 74), (Op.load 74 (Operand.tmp 10)), none⟩,
  ⟨(some 75), (Op.move (Operand.tmp 0)), none⟩,
  ⟨(some 76), (Op.call { callee := (Callee.value (Operand.func 50)), args := #[(Operand.tmp 74), (Operand.tmp 75)], argTypes := #[74, 3] }), none⟩,
  ⟨(some 73), (Op.move (Operand.tmp 76)), none⟩,
  ⟨(some 77), (Op.extract (Operand.tmp 73) 0), none⟩,
  ⟨(some 78), (Op.extract (Operand.tmp 73) 1), none⟩,
  ⟨none, (Op.store 74 (Operand.tmp 10) (Operand.tmp 77)), none⟩,
  ⟨(some 13), (Op.assign (Operand.tmp 78)), none⟩]
attribute [go_sem] r31_19
def r31_12 : List PO := [⟨(some 45), (Op.build 23 #[]), none⟩,
  ⟨(some 46), (Op.build 23 #[]), none⟩,
  ⟨none, (Op.store 23 (Operand.tmp 6) (Operand.tmp 45)), none⟩,
  ⟨none, (Op.store 23 (Operand.tmp 7) (Operand.tmp 46)), none⟩,
  ⟨(some 8), (Op.assign (Operand.const (Value.bool false))), none⟩]
attribute [go_sem] r31_12
def k31_6 : PC := (.cond (Operand.tmp 63) (.post (.reg r31_17) ⟨[0, 1, 6, 7, 9, 10, 13, 14, 38, 39, 40], [.old 0, .old 1, .old 2, .old 9, .old 4, .old 5, .old 6, .old 10], []⟩) (.seq (.reg r31_18) (.cond (Operand.tmp 71) (.post (.reg r31_19) ⟨[0, 1, 6, 7, 9, 10, 13, 14, 38, 39, 40], [.old 0, .old 1, .old 2, .old 3, .old 4, .old 9, .old 10, .old 7], []⟩) (.seq (.reg r31_12) (.pre ⟨[6, 7, 8], [.old 0, .old 1], []⟩ .ret)))))
def r31_14 : List PO := [⟨(some 50), (Op.fieldAddr 74 (Operand.tmp 9) 0), none⟩,
  ⟨(some 51), (Op.load 23 (Operand.tmp 50)), none⟩,
  ⟨(some 52), (Op.call { callee := (Callee.value (Operand.func 49)), args := #[(Operand.tmp 51)], argTypes := #[23] }), none⟩,
  ⟨(some 49), (Op.move (Operand.tmp 52)), none⟩,
  ⟨(some 53), (Op.extract (Operand.tmp 49) 0), none⟩,
  ⟨(some 54), (Op.extract (Operand.tmp 49) 1), none⟩,
  ⟨(some 55), (Op.fieldAddr 74 (Operand.tmp 9) 0), none⟩,
  ⟨none, (Op.store 23 (Operand.tmp 55) (Operand.tmp 53)), none⟩,
  ⟨(some 14), (Op.assign (Operand.tmp 54)), none⟩]
attribute [go_sem] r31_14
def r31_15 : List PO := [⟨(some 57), (Op.fieldAddr 74 (Operand.tmp 10) 0), none⟩,
  ⟨(some 58), (Op.load 23 (Operand.tmp 57)), none⟩,
  ⟨(some 59), (Op.call { callee := (Callee.value (Operand.func 49)), args := #[(Operand.tmp 58)], argTypes := #[23] }), none⟩,
  ⟨(some 56), (Op.move (Operand.tmp 59)), none⟩,
  ⟨(some 60), (Op.extract (Operand.tmp 56) 0), none⟩,
  ⟨(some 61), (Op.extract (Operand.tmp 56) 1), none⟩,
  ⟨(some 62), (Op.fieldAddr 74 (Operand.tmp 10) 0), none⟩,
  ⟨none, (Op.store 23 (Operand.tmp 62) (Operand.tmp 60)), none⟩,
  ⟨(some 13), (Op.assign (Operand.tmp 61)), none⟩]
attribute [go_sem] r31_15
def r31_16 : List PO := [⟨(some 64), (Op.binOp BinOp.eql 3 (Operand.tmp 44) (Operand.const (Value.int IntKind.i64 1)) 3), none⟩,
  ⟨(some 63), (Op.assign (Operand.tmp 64)), none⟩]
attribute [go_sem] r31_16
def k31_5 : PC := (.cond (Operand.tmp 47) (.seq (.reg r31_14) (.post (.reg r31_15) ⟨[0, 1, 6, 7, 9, 10, 13, 14, 38, 39, 40], [.old 0, .old 1, .old 2, .old 3, .old 4, .old 5, .old 9, .old 8], []⟩)) (.seq (.reg r31_16) (.post (.pre ⟨[0, 1, 6, 7, 9, 10, 13, 14, 38, 39, 40, 44, 63], [.old 0, .old 1, .old 2, .old 3, .old 4, .old 5, .old 6, .old 7], []⟩ k31_6) ⟨[0, 1, 6, 7, 9, 10, 13, 14, 38, 39, 40], [.old 0, .old 1, .old 2, .old 3, .old 4, .old 5, .old 6, .old 7], []⟩)))
def r31_8 : List PO := [⟨(some 41), (Op.binOp BinOp.lss 3 (Operand.tmp 40) (Operand.tmp 39) 3), none⟩]
attribute [go_sem] r31_8
def r31_9 : List PO := [⟨(some 42), (Op.indexAddr 36 (Operand.tmp 38) (Operand.tmp 40)), none⟩,
  ⟨(some 43), (Op.load 3 (Operand.tmp 42)), none⟩,
  ⟨(some 12), (Op.assign (Operand.tmp 43)), none⟩]
attribute [go_sem] r31_9
def r31_10 : List PO := [⟨(some 13), (Op.assign (Operand.const (Value.slice none 0 0))), none⟩,
  ⟨(some 14), (Op.assign (Operand.const (Value.slice none 0 0))), none⟩]
attribute [go_sem] r31_10
def r31_11 : List PO := [⟨(some 44), (Op.move (Operand.tmp 12)), none⟩]
attribute [go_sem] r31_11
def r31_13 : List PO := [⟨(some 48), (Op.binOp BinOp.eql 3 (Operand.tmp 44) (Operand.const (Value.int IntKind.i64 0)) 3), none⟩,
  ⟨(some 47), (Op.assign (Operand.tmp 48)), none⟩]
attribute [go_sem] r31_13
def r31_20 : List PO := [⟨(some 79), (Op.fieldAddr 74 (Operand.tmp 9) 1), none⟩,
  ⟨(some 80), (Op.load 36 (Operand.tmp 79)), none⟩,
  ⟨(some 81), (Op.move (Operand.tmp 13)), none⟩,
  ⟨(some 82), (Op.call { callee := (Callee.builtin Builtin.append), args := #[(Operand.tmp 80), (Operand.tmp 81)], argTypes := #[36, 36] }), none⟩,
  ⟨(some 83), (Op.fieldAddr 74 (Operand.tmp 9) 1), none⟩,
  ⟨none, (Op.store 36 (Operand.tmp 83) (Operand.tmp 82)), none⟩]
attribute [go_sem] r31_20
def r31_21 : List PO := [⟨(some 84), (Op.fieldAddr 74 (Operand.tmp 10) 1), none⟩,
  ⟨(some 85), (Op.load 36 (Operand.tmp 84)), none⟩,
  ⟨(some 86), (Op.move (Operand.tmp 14)), none⟩,
  ⟨(some 87), (Op.call { callee := (Callee.builtin Builtin.append), args := #[(Operand.tmp 85), (Operand.tmp 86)], argTypes := #[36, 36] }), none⟩,
  ⟨(some 88), (Op.fieldAddr 74 (Operand.tmp 10) 1), none⟩,
  ⟨none, (Op.store 36 (Operand.tmp 88) (Operand.tmp 87)), none⟩]
attribute [go_sem] r31_21
def r31_22 : List PO := [⟨(some 89), (Op.binOp BinOp.add 3 (Operand.tmp 40) (Operand.const (Value.int IntKind.i64 1)) 3), none⟩,
  ⟨(some 40), (Op.move (Operand.tmp 89)), none⟩]
attribute [go_sem] r31_22
def k31_2b : PC := (.seq (.reg r31_8) (.seq (.cond (Operand.tmp 41) .skip (.pre ⟨[6, 7, 9, 10], [.old 0, .old 1, .old 2, .old 3, .old 4, .old 5], []⟩ (.exit 0))) (.seq (.block 1 (.seq (.reg r31_9) (.seq (.reg r31_10) (.seq (.seq (.reg r31_11) (.block 2 (.seq (.reg r31_13) (.pre ⟨[0, 1, 6, 7, 9, 10, 13, 14, 38, 39, 40, 44, 47], [.old 0, .old 1, .old 2, .old 3, .old 4, .old 5, .nilT 13 0 1, .nilT 14 0 1], []⟩ k31_5)))) (.seq (.reg r31_20) (.reg r31_21)))))) (.post (.reg r31_22) ⟨[0, 1, 6, 7, 9, 10, 38, 39, 40], [.old 0, .old 1, .old 2, .old 8, .old 4, .old 9], []⟩))))
def r31_0 : List PO := [⟨(some 6), (Op.alloc 23), none⟩,
  ⟨(some 7), (Op.alloc 23), none⟩,
  ⟨(some 8), (Op.assign (Operand.const (Value.bool false))), none⟩]
attribute [go_sem] r31_0
def r31_2 : List PO := [⟨(some 28), (Op.build 23 #[]), none⟩,
  ⟨(some 29), (Op.build 23 #[]), none⟩,
  ⟨none, (Op.store 23 (Operand.tmp 6) (Operand.tmp 28)), none⟩,
  ⟨none, (Op.store 23 (Operand.tmp 7) (Operand.tmp 29)), none⟩,
  ⟨(some 8), (Op.assign (Operand.const (Value.bool false))), none⟩]
attribute [go_sem] r31_2
def r31_3 : List PO := [⟨(some 30), (Op.move (Operand.tmp 0)), none⟩,
  ⟨(some 31), (Op.call { callee := (Callee.value (Operand.func 48)), args := #[(Operand.tmp 30)], argTypes := #[3] }), none⟩,
  ⟨(some 9), (Op.alloc 74), none⟩,
  ⟨none, (Op.store 74 (Operand.tmp 9) (Operand.tmp 31)), none⟩]
attribute [go_sem] r31_3
def r31_4 : List PO := [⟨(some 32), (Op.move (Operand.tmp 1)), none⟩,
  ⟨(some 33), (Op.call { callee := (Callee.value (Operand.func 48)), args := #[(Operand.tmp 32)], argTypes := #[3] }), none⟩,
  ⟨(some 10), (Op.alloc 74), none⟩,
  ⟨none, (Op.store 74 (Operand.tmp 10) (Operand.tmp 33)), none⟩]
attribute [go_sem] r31_4
def r31_5 : List PO := [⟨(some 34), (Op.buildSlice 36 1 #[(0, (Operand.const (Value.int IntKind.i64 1)))]), none⟩,
  ⟨(some 35), (Op.fieldAddr 74 (Operand.tmp 9) 1), none⟩,
  ⟨none, (Op.store 36 (Operand.tmp 35) (Operand.tmp 34)), none⟩]
attribute [go_sem] r31_5
def r31_6 : List PO := [⟨(some 36), (Op.buildSlice 36 1 #[(0, (Operand.const (Value.int IntKind.i64 1)))]), none⟩,
  ⟨(some 37), (Op.fieldAddr 74 (Operand.tmp 10) 1), none⟩,
  ⟨none, (Op.store 36 (Operand.tmp 37) (Operand.tmp 36)), none⟩]
attribute [go_sem] r31_6
def r31_7 : List PO := [⟨(some 38), (Op.move (Operand.tmp 2)), none⟩,
  ⟨(some 39), (Op.call { callee := (Callee.builtin Builtin.len), args := #[(Operand.tmp 38)], argTypes := #[36] }), none⟩,
  ⟨(some 40), (Op.move (Operand.const (Value.int IntKind.i64 0))), none⟩]
attribute [go_sem] r31_7
def r31_23 : List PO := [⟨(some 90), (Op.fieldAddr 74 (Operand.tmp 9) 0), none⟩,
  ⟨(some 91), (Op.load 23 (Operand.tmp 90)), none⟩,
  ⟨(some 92), (Op.fieldAddr 74 (Operand.tmp 10) 0), none⟩,
  ⟨(some 93), (Op.load 23 (Operand.tmp 92)), none⟩,
  ⟨none, (Op.store 23 (Operand.tmp 6) (Operand.tmp 91)), none⟩,
  ⟨none, (Op.store 23 (Operand.tmp 7) (Operand.tmp 93)), none⟩,
  ⟨(some 8), (Op.assign (Operand.const (Value.bool true))), none⟩]
attribute [go_sem] r31_23
def x31_23 : FxI := ⟨[4, 5], [none, none, none, none, none, none, none], 0, [[], [4], [4, 5]], [], [(3, 1, 1)]⟩
attribute [go_sem] x31_23
def c31 : PC := (.seq (.reg r31_0) (.seq (.seq (.pre ⟨[0, 1, 2, 6, 7], [.old 0, .old 1], []⟩ k31_1) (.cond (Operand.tmp 27) (.seq (.reg r31_2) .ret) .skip)) (.seq (.reg r31_3) (.seq (.reg r31_4) (.seq (.reg r31_5) (.seq (.reg r31_6) (.seq (.seq (.reg r31_7) (.block 0 (.pre ⟨[0, 1, 6, 7, 9, 10, 38, 39, 40], [.old 0, .old 1, .old 3, .old 6, .old 5, .old 7], []⟩ (.loop k31_2b)))) (.seq (.fx r31_23 x31_23) .ret))))))))
def i31 : FnI := ⟨94, [(ResultVar.cell 6 23), (ResultVar.cell 7 23), (ResultVar.tmp 8)], c31, 0, [[0], [0], [1]], [[0, 0, 0, 0, 0], [0, 0, 0, 0, 0], [0]], false, false, 0⟩
-- loop.example/g00344/impl.GoodSession
def r16_1 : List PO := [⟨(some 5), (Op.fieldAddr 23 (Operand.tmp 1) 0), none⟩,
  ⟨(some 6), (Op.load 3 (Operand.tmp 5)), none⟩,
  ⟨(some 7), (Op.call { callee := (Callee.value (Operand.func 40)), args := #[(Operand.tmp 6), (Operand.const (Value.int IntKind.i64 0)), (Operand.const (Value.int IntKind.i64 4))], argTypes := #[3, 3, 3] }), none⟩,
  ⟨(some 8), (Op.unOp UnOp.not 4 (Operand.tmp 7)), none⟩,
  ⟨(some 9), (Op.move (Operand.tmp 8)), none⟩,
  ⟨(some 10), (Op.fieldAddr 23 (Operand.tmp 1) 1), (some (9, false))⟩,
  ⟨(some 11), (Op.load 3 (Operand.tmp 10)), (some (9, false))⟩,
  ⟨(some 12), (Op.call { callee := (Callee.value (Operand.func 40)), args := #[(Operand.tmp 11), (Operand.const (Value.int IntKind.i64 3)), (Operand.const (Value.int IntKind.i64 90))], argTypes := #[3, 3, 3] }), (some (9, false))⟩,
  ⟨(some 13), (Op.unOp UnOp.not 4 (Operand.tmp 12)), (some (9, false))⟩,
  ⟨(some 14), (Op.pick (Operand.tmp 9) (Operand.const (Value.bool true)) (Operand.tmp 13)), none⟩,
  ⟨(some 15), (Op.move (Operand.tmp 14)), none⟩,
  ⟨(some 16), (Op.fieldAddr 23 (Operand.tmp 1) 4), (some (15, false))⟩,
  ⟨(some 17), (Op.load 3 (Operand.tmp 16)), (some (15, false))⟩,
  ⟨(some 18), (Op.call { callee := (Callee.value (Operand.func 40)), args := #[(Operand.tmp 17), (Operand.const (Value.int IntKind.i64 0)), (Operand.const (Value.int IntKind.i64 1000))], argTypes := #[3, 3, 3] }), (some (15, false))⟩,
  ⟨(some 19), (Op.unOp UnOp.not 4 (Operand.tmp 18)), (some (15, false))⟩,
  ⟨(some 20), (Op.pick (Operand.tmp 15) (Operand.const (Value.bool true)) (Operand.tmp 19)), none⟩]
attribute [go_sem] r16_1
def k16_1 : PC := (.post (.reg r16_1) ⟨[1, 20], [.old 0], []⟩)
def r16_5 : List PO := [⟨(some 30), (Op.fieldAddr 23 (Operand.tmp 1) 2), none⟩,
  ⟨(some 31), (Op.load 3 (Operand.tmp 30)), none⟩,
  ⟨(some 32), (Op.call { callee := (Callee.value (Operand.func 40)), args := #[(Operand.tmp 31), (Operand.const (Value.int IntKind.i64 1)), (Operand.const (Value.int IntKind.i64 90))], argTypes := #[3, 3, 3] }), none⟩,
  ⟨(some 3), (Op.assign (Operand.tmp 32)), none⟩]
attribute [go_sem] r16_5
def k16_2 : PC := (.cond (Operand.tmp 29) (.post (.reg r16_5) ⟨[1, 3, 4], [.old 0], []⟩) (.post .skip ⟨[1, 3, 4], [.old 0], []⟩))
def r16_7 : List PO := [⟨(some 36), (Op.fieldAddr 23 (Operand.tmp 1) 3), none⟩,
  ⟨(some 37), (Op.load 3 (Operand.tmp 36)), none⟩,
  ⟨(some 38), (Op.call { callee := (Callee.value (Operand.func 40)), args := #[(Operand.tmp 37), (Operand.const (Value.int IntKind.i64 1)), (Operand.const (Value.int IntKind.i64 30))], argTypes := #[3, 3, 3] }), none⟩,
  ⟨(some 4), (Op.assign (Operand.tmp 38)), none⟩]
attribute [go_sem] r16_7
def k16_3 : PC := (.cond (Operand.tmp 35) (.post (.reg r16_7) ⟨[3, 4], [], []⟩) (.post .skip ⟨[3, 4], [], []⟩))
def r16_8 : List PO := [⟨(some 39), (Op.move (Operand.tmp 3)), none⟩,
  ⟨(some 40), (Op.move (Operand.tmp 39)), none⟩,
  ⟨(some 41), (Op.move (Operand.tmp 4)), (some (40, true))⟩,
  ⟨(some 42), (Op.pick (Operand.tmp 40) (Operand.tmp 41) (Operand.const (Value.bool false))), none⟩,
  ⟨(some 2), (Op.assign (Operand.tmp 42)), none⟩]
attribute [go_sem] r16_8
def k16_4 : PC := (.post (.reg r16_8) ⟨[2], [], []⟩)
def r16_0 : List PO := [⟨(some 1), (Op.box 23 (Operand.tmp 0)), none⟩,
  ⟨(some 2), (Op.assign (Operand.const (Value.bool false))), none⟩]
attribute [go_sem] r16_0
def r16_2 : List PO := [⟨(some 2), (Op.assign (Operand.const (Value.bool false))), none⟩]
attribute [go_sem] r16_2
def r16_3 : List PO := [⟨(some 21), (Op.fieldAddr 23 (Operand.tmp 1) 2), none⟩,
  ⟨(some 22), (Op.load 3 (Operand.tmp 21)), none⟩,
  ⟨(some 23), (Op.binOp BinOp.eql 3 (Operand.tmp 22) (Operand.const (Value.int IntKind.i64 0)) 3), none⟩,
  ⟨(some 24), (Op.fieldAddr 23 (Operand.tmp 1) 3), none⟩,
  ⟨(some 25), (Op.load 3 (Operand.tmp 24)), none⟩,
  ⟨(some 26), (Op.binOp BinOp.eql 3 (Operand.tmp 25) (Operand.const (Value.int IntKind.i64 0)) 3), none⟩,
  ⟨(some 3), (Op.assign (Operand.tmp 23)), none⟩,
  ⟨(some 4), (Op.assign (Operand.tmp 26)), none⟩]
attribute [go_sem] r16_3
def r16_4 : List PO := [⟨(some 27), (Op.fieldAddr 23 (Operand.tmp 1) 0), none⟩,
  ⟨(some 28), (Op.load 3 (Operand.tmp 27)), none⟩,
  ⟨(some 29), (Op.binOp BinOp.geq 3 (Operand.tmp 28) (Operand.const (Value.int IntKind.i64 2)) 3), none⟩]
attribute [go_sem] r16_4
def r16_6 : List PO := [⟨(some 33), (Op.fieldAddr 23 (Operand.tmp 1) 0), none⟩,
  ⟨(some 34), (Op.load 3 (Operand.tmp 33)), none⟩,
  ⟨(some 35), (Op.binOp BinOp.geq 3 (Operand.tmp 34) (Operand.const (Value.int IntKind.i64 3)) 3), none⟩]
attribute [go_sem] r16_6
def c16 : PC := (.seq (.reg r16_0) (.seq (.seq (.pre ⟨[1], [.old 0], []⟩ k16_1) (.cond (Operand.tmp 20) (.seq (.reg r16_2) .ret) .skip)) (.seq (.fz r16_3) (.seq (.seq (.reg r16_4) (.pre ⟨[1, 3, 4, 29], [.old 0], []⟩ k16_2)) (.seq (.seq (.reg r16_6) (.pre ⟨[1, 3, 4, 35], [.old 0], []⟩ k16_3)) (.seq (.pre ⟨[3, 4], [], []⟩ k16_4) .ret))))))
def i16 : FnI := ⟨43, [(ResultVar.tmp 2)], c16, 0, [[0, 0, 0, 0, 0]], [[0]], false, false, 0⟩
-- loop.example/g00344/laws.FnPair
def r9_6 : List PO := [⟨(some 41), (Op.move (Operand.tmp 8)), none⟩,
  ⟨(some 42), (Op.move (Operand.tmp 11)), none⟩,
  ⟨(some 43), (Op.binOp BinOp.neq 4 (Operand.tmp 41) (Operand.tmp 42) 4), none⟩,
  ⟨(some 44), (Op.move (Operand.tmp 43)), none⟩,
  ⟨(some 45), (Op.load 23 (Operand.tmp 6)), (some (44, false))⟩,
  ⟨(some 46), (Op.load 23 (Operand.tmp 9)), (some (44, false))⟩,
  ⟨(some 47), (Op.binOp BinOp.neq 23 (Operand.tmp 45) (Operand.tmp 46) 23), (some (44, false))⟩,
  ⟨(some 48), (Op.pick (Operand.tmp 44) (Operand.const (Value.bool true)) (Operand.tmp 47)), none⟩,
  ⟨(some 49), (Op.move (Operand.tmp 48)), none⟩,
  ⟨(some 50), (Op.load 23 (Operand.tmp 7)), (some (49, false))⟩,
  ⟨(some 51), (Op.load 23 (Operand.tmp 10)), (some (49, false))⟩,
  ⟨(some 52), (Op.binOp BinOp.neq 23 (Operand.tmp 50) (Operand.tmp 51) 23), (some (49, false))⟩,
  ⟨(some 53), (Op.pick (Operand.tmp 49) (Operand.const (Value.bool true)) (Operand.tmp 52)), none⟩]
attribute [go_sem] r9_6
def k9_1 : PC := (.post (.reg r9_6) ⟨[3, 4, 6, 7, 8, 53], [.old 0, .old 1], []⟩)
def r9_12 : List PO := [⟨(some 63), (Op.move (Operand.tmp 4)), none⟩,
  ⟨(some 12), (Op.assign (Operand.tmp 63)), none⟩]
attribute [go_sem] r9_12
def k9_2 : PC := (.cond (Operand.tmp 62) (.post (.reg r9_12) ⟨[3, 4, 6, 7, 12], [.old 0, .old 1], []⟩) (.post .skip ⟨[3, 4, 6, 7, 12], [.old 0, .old 1], []⟩))
def r9_13 : List PO := [⟨(some 64), (Op.load 23 (Operand.tmp 6)), none⟩,
  ⟨(some 65), (Op.call { callee := (Callee.value (Operand.func 16)), args := #[(Operand.tmp 64)], argTypes := #[23] }), none⟩,
  ⟨(some 66), (Op.unOp UnOp.not 4 (Operand.tmp 65)), none⟩,
  ⟨(some 67), (Op.move (Operand.tmp 66)), none⟩,
  ⟨(some 68), (Op.load 23 (Operand.tmp 7)), (some (67, false))⟩,
  ⟨(some 69), (Op.call { callee := (Callee.value (Operand.func 16)), args := #[(Operand.tmp 68)], argTypes := #[23] }), (some (67, false))⟩,
  ⟨(some 70), (Op.unOp UnOp.not 4 (Operand.tmp 69)), (some (67, false))⟩,
  ⟨(some 71), (Op.pick (Operand.tmp 67) (Operand.const (Value.bool true)) (Operand.tmp 70)), none⟩,
  ⟨(some 72), (Op.move (Operand.tmp 71)), none⟩,
  ⟨(some 73), (Op.fieldAddr 23 (Operand.tmp 6) 0), (some (72, false))⟩,
  ⟨(some 74), (Op.load 3 (Operand.tmp 73)), (some (72, false))⟩,
  ⟨(some 75), (Op.binOp BinOp.eql 3 (Operand.tmp 74) (Operand.const (Value.int IntKind.i64 4)) 3), (some (72, false))⟩,
  ⟨(some 76), (Op.move (Operand.tmp 75)), (some (72, false))⟩,
  ⟨(some 77), (Op.fieldAddr 23 (Operand.tmp 6) 1), (some (76, true))⟩,
  ⟨(some 78), (Op.load 3 (Operand.tmp 77)), (some (76, true))⟩,
  ⟨(some 79), (Op.move (Operand.tmp 12)), (some (76, true))⟩,
  ⟨(some 80), (Op.binOp BinOp.neq 3 (Operand.tmp 78) (Operand.tmp 79) 3), (some (76, true))⟩,
  ⟨(some 81), (Op.pick (Operand.tmp 76) (Operand.tmp 80) (Operand.const (Value.bool false))), (some (72, false))⟩,
  ⟨(some 82), (Op.pick (Operand.tmp 72) (Operand.const (Value.bool true)) (Operand.tmp 81)), none⟩,
  ⟨(some 83), (Op.move (Operand.tmp 82)), none⟩,
  ⟨(some 84), (Op.fieldAddr 23 (Operand.tmp 7) 0), (some (83, false))⟩,
  ⟨(some 85), (Op.load 3 (Operand.tmp 84)), (some (83, false))⟩,
  ⟨(some 86), (Op.binOp BinOp.eql 3 (Operand.tmp 85) (Operand.const (Value.int IntKind.i64 4)) 3), (some (83, false))⟩,
  ⟨(some 87), (Op.move (Operand.tmp 86)), (some (83, false))⟩,
  ⟨(some 88), (Op.fieldAddr 23 (Operand.tmp 7) 1), (some (87, true))⟩,
  ⟨(some 89), (Op.load 3 (Operand.tmp 88)), (some (87, true))⟩,
  ⟨(some 90), (Op.move (Operand.tmp 12)), (some (87, true))⟩,
  ⟨(some 91), (Op.binOp BinOp.neq 3 (Operand.tmp 89) (Operand.tmp 90) 3), (some (87, true))⟩,
  ⟨(some 92), (Op.pick (Operand.tmp 87) (Operand.tmp 91) (Operand.const (Value.bool false))), (some (83, false))⟩,
  ⟨(some 93), (Op.pick (Operand.tmp 83) (Operand.const (Value.bool true)) (Operand.tmp 92)), none⟩]
attribute [go_sem] r9_13
def k9_3 : PC := (.post (.reg r9_13) ⟨[3, 4, 93], [], []⟩)
def r9_16 : List PO := [⟨(some 102), (Op.move (Operand.tmp 15)), none⟩,
  ⟨(some 103), (Op.move (Operand.tmp 102)), none⟩,
  ⟨(some 104), (Op.fieldAddr 23 (Operand.tmp 13) 0), (some (103, true))⟩,
  ⟨(some 105), (Op.load 3 (Operand.tmp 104)), (some (103, true))⟩,
  ⟨(some 106), (Op.binOp BinOp.eql 3 (Operand.tmp 105) (Operand.const (Value.int IntKind.i64 4)) 3), (some (103, true))⟩,
  ⟨(some 107), (Op.pick (Operand.tmp 103) (Operand.tmp 106) (Operand.const (Value.bool false))), none⟩,
  ⟨(some 108), (Op.move (Operand.tmp 107)), none⟩,
  ⟨(some 109), (Op.fieldAddr 23 (Operand.tmp 14) 0), (some (108, true))⟩,
  ⟨(some 110), (Op.load 3 (Operand.tmp 109)), (some (108, true))⟩,
  ⟨(some 111), (Op.binOp BinOp.eql 3 (Operand.tmp 110) (Operand.const (Value.int IntKind.i64 4)) 3), (some (108, true))⟩,
  ⟨(some 112), (Op.pick (Operand.tmp 108) (Operand.tmp 111) (Operand.const (Value.bool false))), none⟩,
  ⟨(some 113), (Op.move (Operand.tmp 112)), none⟩,
  ⟨(some 114), (Op.fieldAddr 23 (Operand.tmp 13) 4), (some (113, true))⟩,
  ⟨(some 115), (Op.load 3 (Operand.tmp 114)), (some (113, true))⟩,
  ⟨(some 116), (Op.binOp BinOp.eql 3 (Operand.tmp 115) (Operand.const (Value.int IntKind.i64 1)) 3), (some (113, true))⟩,
  ⟨(some 117), (Op.pick (Operand.tmp 113) (Operand.tmp 116) (Operand.const (Value.bool false))), none⟩,
  ⟨(some 118), (Op.move (Operand.tmp 117)), none⟩,
  ⟨(some 119), (Op.fieldAddr 23 (Operand.tmp 14) 4), (some (118, true))⟩,
  ⟨(some 120), (Op.load 3 (Operand.tmp 119)), (some (118, true))⟩,
  ⟨(some 121), (Op.binOp BinOp.eql 3 (Operand.tmp 120) (Operand.const (Value.int IntKind.i64 1)) 3), (some (118, true))⟩,
  ⟨(some 122), (Op.pick (Operand.tmp 118) (Operand.tmp 121) (Operand.const (Value.bool false))), none⟩,
  ⟨(some 2), (Op.assign (Operand.tmp 122)), none⟩]
attribute [go_sem] r9_16
def k9_4 : PC := (.post (.reg r9_16) ⟨[2], [], []⟩)
def r9_0 : List PO := [⟨(some 2), (Op.assign (Operand.const (Value.bool false))), none⟩]
attribute [go_sem] r9_0
def r9_1 : List PO := [⟨(some 16), (Op.move (Operand.tmp 0)), none⟩,
  ⟨(some 17), (Op.call { callee := (Callee.builtin Builtin.len), args := #[(Operand.tmp 16)], argTypes := #[56] }), none⟩,
  ⟨(some 18), (Op.binOp BinOp.gtr 3 (Operand.tmp 17) (Operand.const (Value.int IntKind.i64 1048576)) 3), none⟩]
attribute [go_sem] r9_1
def r9_2 : List PO := [⟨(some 2), (Op.assign (Operand.const (Value.bool true))), none⟩]
attribute [go_sem] r9_2
def r9_3 : List PO := [⟨(some 20), (Op.move (Operand.tmp 0)), none⟩,
  ⟨(some 21), (Op.call { callee := (Callee.value (Operand.func 34)), args := #[(Operand.tmp 20)], argTypes := #[56] }), none⟩,
  ⟨(some 19), (Op.move (Operand.tmp 21)), none⟩,
  ⟨(some 22), (Op.extract (Operand.tmp 19) 0), none⟩,
  ⟨(some 23), (Op.extract (Operand.tmp 19) 1), none⟩,
  ⟨(some 24), (Op.extract (Operand.tmp 19) 2), none⟩,
  ⟨(some 3), (Op.assign (Operand.tmp 22)), none⟩,
  ⟨(some 4), (Op.assign (Operand.tmp 23)), none⟩,
  ⟨(some 5), (Op.assign (Operand.tmp 24)), none⟩]
attribute [go_sem] r9_3
def r9_4 : List PO := [⟨(some 26), (Op.move (Operand.tmp 3)), none⟩,
  ⟨(some 27), (Op.move (Operand.tmp 4)), none⟩,
  ⟨(some 28), (Op.move (Operand.tmp 5)), none⟩,
  ⟨(some 29), (Op.call { callee := (Callee.value (Operand.func 33)), args := #[(Operand.tmp 26), (Operand.tmp 27), (Operand.tmp 28)], argTypes := #[3, 3, 36] }), none⟩,
  ⟨(some 25), (Op.move (Operand.tmp 29)), none⟩,
  ⟨(some 30), (Op.extract (Operand.tmp 25) 0), none⟩,
  ⟨(some 31), (Op.extract (Operand.tmp 25) 1), none⟩,
  ⟨(some 32), (Op.extract (Operand.tmp 25) 2), none⟩,
  ⟨(some 6), (Op.alloc 23), none⟩,
  ⟨(some 7), (Op.alloc 23), none⟩,
  ⟨none, (Op.store 23 (Operand.tmp 6) (Operand.tmp 30)), none⟩,
  ⟨none, (Op.store 23 (Operand.tmp 7) (Operand.tmp 31)), none⟩,
  ⟨(some 8), (Op.assign (Operand.tmp 32)), none⟩]
attribute [go_sem] r9_4
def r9_5 : List PO := [⟨(some 34), (Op.move (Operand.tmp 3)), none⟩,
  ⟨(some 35), (Op.move (Operand.tmp 4)), none⟩,
  ⟨(some 36), (Op.move (Operand.tmp 5)), none⟩,
  ⟨(some 37), (Op.call { callee := (Callee.value (Operand.func 31)), args := #[(Operand.tmp 34), (Operand.tmp 35), (Operand.tmp 36)], argTypes := #[3, 3, 36] }), none⟩,
  ⟨(some 33), (Op.move (Operand.tmp 37)), none⟩,
  ⟨(some 38), (Op.extract (Operand.tmp 33) 0), none⟩,
  ⟨(some 39), (Op.extract (Operand.tmp 33) 1), none⟩,
  ⟨(some 40), (Op.extract (Operand.tmp 33) 2), none⟩,
  ⟨(some 9), (Op.alloc 23), none⟩,
  ⟨(some 10), (Op.alloc 23), none⟩,
  ⟨none, (Op.store 23 (Operand.tmp 9) (Operand.tmp 38)), none⟩,
  ⟨none, (Op.store 23 (Operand.tmp 10) (Operand.tmp 39)), none⟩,
  ⟨(some 11), (Op.assign (Operand.tmp 40)), none⟩]
attribute [go_sem] r9_5
def r9_7 : List PO := [⟨(some 2), (Op.assign (Operand.const (Value.bool false))), none⟩]
attribute [go_sem] r9_7
def r9_8 : List PO := [⟨(some 54), (Op.move (Operand.tmp 8)), none⟩,
  ⟨(some 55), (Op.unOp UnOp.not 4 (Operand.tmp 54)), none⟩]
attribute [go_sem] r9_8
def r9_9 : List PO := [⟨(some 56), (Op.fieldAddr 23 (Operand.tmp 6) 1), none⟩,
  ⟨(some 57), (Op.load 3 (Operand.tmp 56)), none⟩,
  ⟨(some 58), (Op.binOp BinOp.eql 3 (Operand.tmp 57) (Operand.const (Value.int IntKind.i64 0)) 3), none⟩,
  ⟨(some 2), (Op.assign (Operand.tmp 58)), none⟩]
attribute [go_sem] r9_9
def r9_10 : List PO := [⟨(some 59), (Op.move (Operand.tmp 3)), none⟩,
  ⟨(some 12), (Op.assign (Operand.tmp 59)), none⟩]
attribute [go_sem] r9_10
def r9_11 : List PO := [⟨(some 60), (Op.move (Operand.tmp 4)), none⟩,
  ⟨(some 61), (Op.move (Operand.tmp 12)), none⟩,
  ⟨(some 62), (Op.binOp BinOp.lss 3 (Operand.tmp 60) (Operand.tmp 61) 3), none⟩]
attribute [go_sem] r9_11
def r9_14 : List PO := [⟨(some 2), (Op.assign (Operand.const (Value.bool false))), none⟩]
attribute [go_sem] r9_14
def r9_15 : List PO := [⟨(some 95), (Op.move (Operand.tmp 3)), none⟩,
  ⟨(some 96), (Op.move (Operand.tmp 4)), none⟩,
  ⟨(some 97), (Op.buildSlice 36 4 #[(0, (Operand.const (Value.int IntKind.i64 1))), (1, (Operand.const (Value.int IntKind.i64 2))), (2, (Operand.const (Value.int IntKind.i64 1))), (3, (Operand.const (Value.int IntKind.i64 2)))]), none⟩,
  ⟨(some 98), (Op.call { callee := (Callee.value (Operand.func 33)), args := #[(Operand.tmp 95), (Operand.tmp 96), (Operand.tmp 97)], argTypes := #[3, 3, 36] }), none⟩,
  ⟨(some 94), (Op.move (Operand.tmp 98)), none⟩,
  ⟨(some 99), (Op.extract (Operand.tmp 94) 0), none⟩,
  ⟨(some 100), (Op.extract (Operand.tmp 94) 1), none⟩,
  ⟨(some 101), (Op.extract (Operand.tmp 94) 2), none⟩,
  ⟨(some 13), (Op.alloc 23), none⟩,
  ⟨(some 14), (Op.alloc 23), none⟩,
  ⟨none, (Op.store 23 (Operand.tmp 13) (Operand.tmp 99)), none⟩,
  ⟨none, (Op.store 23 (Operand.tmp 14) (Operand.tmp 100)), none⟩,
  ⟨(some 15), (Op.assign (Operand.tmp 101)), none⟩]
attribute [go_sem] r9_15
def c9 : PC := (.seq (.reg r9_0) (.seq (.seq (.reg r9_1) (.cond (Operand.tmp 18) (.seq (.reg r9_2) .ret) .skip)) (.seq (.reg r9_3) (.seq (.reg r9_4) (.seq (.reg r9_5) (.seq (.seq (.pre ⟨[3, 4, 6, 7, 8, 9, 10, 11], [.old 1, .old 2, .old 3, .old 4], []⟩ k9_1) (.cond (Operand.tmp 53) (.seq (.reg r9_7) .ret) .skip)) (.seq (.seq (.reg r9_8) (.cond (Operand.tmp 55) (.seq (.reg r9_9) .ret) .skip)) (.seq (.reg r9_10) (.seq (.seq (.reg r9_11) (.pre ⟨[3, 4, 6, 7, 12, 62], [.old 0, .old 1], []⟩ k9_2)) (.seq (.seq (.pre ⟨[3, 4, 6, 7, 12], [.old 0, .old 1], []⟩ k9_3) (.cond (Operand.tmp 93) (.seq (.reg r9_14) .ret) .skip)) (.seq (.reg r9_15) (.seq (.pre ⟨[13, 14, 15], [.old 1, .old 2], []⟩ k9_4) .ret))))))))))))
def i9 : FnI := ⟨123, [(ResultVar.tmp 2)], c9, 0, [[1]], [[0]], false, false, 0⟩
def tys : List (Nat × TyI) := [(3, ⟨1, 8, false, [.int .i64 0], [0], 0, [], .int .i64, false⟩),
  (4, ⟨1, 1, false, [.bool false], [0], 0, [], .bool, false⟩),
  (5, ⟨1, 1, false, [.int .u8 0], [0], 0, [], .int .u8, false⟩),
  (23, ⟨5, 40, true, [.int .i64 0, .int .i64 0, .int .i64 0, .int .i64 0, .int .i64 0], [0, 0, 0, 0, 0], 0, [(0, 1, false), (1, 1, false), (2, 1, false), (3, 1, false), (4, 1, false)], .other, true⟩),
  (36, ⟨1, 24, false, [.nil], [1], 3, [], .other, false⟩),
  (39, ⟨2, 16, true, [.int .i64 0, .int .i64 0], [0, 0], 0, [(0, 1, false), (1, 1, false)], .other, true⟩),
  (56, ⟨1, 24, false, [.nil], [1], 5, [], .other, false⟩),
  (74, ⟨7, 72, true, [.int .i64 0, .int .i64 0, .int .i64 0, .int .i64 0, .int .i64 0, .nil, .int .i64 0], [0, 0, 0, 0, 0, 1, 0], 0, [(0, 5, true), (5, 1, false), (6, 1, false)], .other, false⟩),
  (80, ⟨1, 8, false, [.nilp], [0], 0, [], .other, false⟩),
  (82, ⟨7, 72, true, [.int .i64 0, .int .i64 0, .int .i64 0, .int .i64 0, .int .i64 0, .int .i64 0, .nil], [0, 0, 0, 0, 0, 0, 1], 0, [(0, 5, true), (5, 1, false), (6, 1, false)], .other, false⟩),
  (85, ⟨1, 8, false, [.nilp], [0], 0, [], .other, false⟩),
  (86, ⟨1, 8, false, [.int .u64 0], [0], 0, [], .int .u64, false⟩),
  (88, ⟨3, 40, true, [.nil, .int .i64 0, .int .u64 0], [1, 0, 0], 0, [(0, 1, false), (1, 1, false), (2, 1, false)], .other, false⟩),
  (99, ⟨1, 8, false, [.int .u64 0], [0], 0, [], .int .u64, false⟩)]
def fns : List (Nat × FnI) := [(9, i9), (11, i11), (12, i12), (16, i16), (31, i31), (33, i33), (34, i34), (39, i39), (40, i40), (42, i42), (44, i44), (48, i48), (49, i49), (50, i50), (51, i51), (52, i52), (53, i53), (54, i54), (55, i55), (56, i56), (57, i57), (60, i60), (61, i61), (62, i62), (64, i64), (65, i65)]
def T : Tab := mkTab tys fns
theorem ty3 : T.ty 3 = some ⟨1, 8, false, [.int .i64 0], [0], 0, [], .int .i64, false⟩ := rfl
theorem base3 : T.baseOf 3 = Bs.int .i64 := rfl
theorem ty4 : T.ty 4 = some ⟨1, 1, false, [.bool false], [0], 0, [], .bool, false⟩ := rfl
theorem base4 : T.baseOf 4 = Bs.bool := rfl
theorem ty5 : T.ty 5 = some ⟨1, 1, false, [.int .u8 0], [0], 0, [], .int .u8, false⟩ := rfl
theorem base5 : T.baseOf 5 = Bs.int .u8 := rfl
theorem ty23 : T.ty 23 = some ⟨5, 40, true, [.int .i64 0, .int .i64 0, .int .i64 0, .int .i64 0, .int .i64 0], [0, 0, 0, 0, 0], 0, [(0, 1, false), (1, 1, false), (2, 1, false), (3, 1, false), (4, 1, false)], .other, true⟩ := rfl
theorem base23 : T.baseOf 23 = Bs.other := rfl
theorem ty36 : T.ty 36 = some ⟨1, 24, false, [.nil], [1], 3, [], .other, false⟩ := rfl
theorem base36 : T.baseOf 36 = Bs.other := rfl
theorem elem36 : T.elemOf 36 = some ⟨1, 8, false, [.int .i64 0], [0], 0, [], .int .i64, false⟩ := rfl
theorem ty39 : T.ty 39 = some ⟨2, 16, true, [.int .i64 0, .int .i64 0], [0, 0], 0, [(0, 1, false), (1, 1, false)], .other, true⟩ := rfl
theorem base39 : T.baseOf 39 = Bs.other := rfl
theorem ty56 : T.ty 56 = some ⟨1, 24, false, [.nil], [1], 5, [], .other, false⟩ := rfl
theorem base56 : T.baseOf 56 = Bs.other := rfl
theorem elem56 : T.elemOf 56 = some ⟨1, 1, false, [.int .u8 0], [0], 0, [], .int .u8, false⟩ := rfl
theorem ty74 : T.ty 74 = some ⟨7, 72, true, [.int .i64 0, .int .i64 0, .int .i64 0, .int .i64 0, .int .i64 0, .nil, .int .i64 0], [0, 0, 0, 0, 0, 1, 0], 0, [(0, 5, true), (5, 1, false), (6, 1, false)], .other, false⟩ := rfl
theorem base74 : T.baseOf 74 = Bs.other := rfl
theorem ty80 : T.ty 80 = some ⟨1, 8, false, [.nilp], [0], 0, [], .other, false⟩ := rfl
theorem base80 : T.baseOf 80 = Bs.other := rfl
theorem ty82 : T.ty 82 = some ⟨7, 72, true, [.int .i64 0, .int .i64 0, .int .i64 0, .int .i64 0, .int .i64 0, .int .i64 0, .nil], [0, 0, 0, 0, 0, 0, 1], 0, [(0, 5, true), (5, 1, false), (6, 1, false)], .other, false⟩ := rfl
theorem base82 : T.baseOf 82 = Bs.other := rfl
theorem ty85 : T.ty 85 = some ⟨1, 8, false, [.nilp], [0], 0, [], .other, false⟩ := rfl
theorem base85 : T.baseOf 85 = Bs.other := rfl
theorem ty86 : T.ty 86 = some ⟨1, 8, false, [.int .u64 0], [0], 0, [], .int .u64, false⟩ := rfl
theorem base86 : T.baseOf 86 = Bs.int .u64 := rfl
theorem ty88 : T.ty 88 = some ⟨3, 40, true, [.nil, .int .i64 0, .int .u64 0], [1, 0, 0], 0, [(0, 1, false), (1, 1, false), (2, 1, false)], .other, false⟩ := rfl
theorem base88 : T.baseOf 88 = Bs.other := rfl
theorem ty99 : T.ty 99 = some ⟨1, 8, false, [.int .u64 0], [0], 0, [], .int .u64, false⟩ := rfl
theorem base99 : T.baseOf 99 = Bs.int .u64 := rfl
attribute [go_sem] ty3 base3 ty4 base4 ty5 base5 ty23 base23 ty36 base36 elem36 ty39 base39 ty56 base56 elem56 ty74 base74 ty80 base80 ty82 base82 ty85 base85 ty86 base86 ty88 base88 ty99 base99
theorem ok9 : FnOk Try.prog (9, i9) := ⟨Try.f9, _, Try.func9, rfl, by kernel_rfl, rfl, rfl, by kernel_rfl⟩
theorem ok11 : FnOk Try.prog (11, i11) := ⟨Try.f11, _, Try.func11, rfl, by kernel_rfl, rfl, rfl, by kernel_rfl⟩
theorem ok12 : FnOk Try.prog (12, i12) := ⟨Try.f12, _, Try.func12, rfl, by kernel_rfl, rfl, rfl, by kernel_rfl⟩
theorem ok16 : FnOk Try.prog (16, i16) := ⟨Try.f16, _, Try.func16, rfl, by kernel_rfl, rfl, rfl, by kernel_rfl⟩
theorem ok31 : FnOk Try.prog (31, i31) := ⟨Try.f31, _, Try.func31, rfl, by kernel_rfl, rfl, rfl, by kernel_rfl⟩
theorem ok33 : FnOk Try.prog (33, i33) := ⟨Try.f33, _, Try.func33, rfl, by kernel_rfl, rfl, rfl, by kernel_rfl⟩
theorem ok34 : FnOk Try.prog (34, i34) := ⟨Try.f34, _, Try.func34, rfl, by kernel_rfl, rfl, rfl, by kernel_rfl⟩
theorem ok39 : FnOk Try.prog (39, i39) := ⟨Try.f39, _, Try.func39, rfl, by kernel_rfl, rfl, rfl, by kernel_rfl⟩
theorem ok40 : FnOk Try.prog (40, i40) := ⟨Try.f40, _, Try.func40, rfl, by kernel_rfl, rfl, rfl, by kernel_rfl⟩
theorem ok42 : FnOk Try.prog (42, i42) := ⟨Try.f42, _, Try.func42, rfl, by kernel_rfl, rfl, rfl, by kernel_rfl⟩
theorem ok44 : FnOk Try.prog (44, i44) := ⟨Try.f44, _, Try.func44, rfl, by kernel_rfl, rfl, rfl, by kernel_rfl⟩
theorem ok48 : FnOk Try.prog (48, i48) := ⟨Try.f48, _, Try.func48, rfl, by kernel_rfl, rfl, rfl, by kernel_rfl⟩
theorem ok49 : FnOk Try.prog (49, i49) := ⟨Try.f49, _, Try.func49, rfl, by kernel_rfl, rfl, rfl, by kernel_rfl⟩
theorem ok50 : FnOk Try.prog (50, i50) := ⟨Try.f50, _, Try.func50, rfl, by kernel_rfl, rfl, rfl, by kernel_rfl⟩
theorem ok51 : FnOk Try.prog (51, i51) := ⟨Try.f51, _, Try.func51, rfl, by kernel_rfl, rfl, rfl, by kernel_rfl⟩
theorem ok52 : FnOk Try.prog (52, i52) := ⟨Try.f52, _, Try.func52, rfl, by kernel_rfl, rfl, rfl, by kernel_rfl⟩
theorem ok53 : FnOk Try.prog (53, i53) := ⟨Try.f53, _, Try.func53, rfl, by kernel_rfl, rfl, rfl, by kernel_rfl⟩
theorem ok54 : FnOk Try.prog (54, i54) := ⟨Try.f54, _, Try.func54, rfl, by kernel_rfl, rfl, rfl, by kernel_rfl⟩
theorem ok55 : FnOk Try.prog (55, i55) := ⟨Try.f55, _, Try.func55, rfl, by kernel_rfl, rfl, rfl, by kernel_rfl⟩
theorem ok56 : FnOk Try.prog (56, i56) := ⟨Try.f56, _, Try.func56, rfl, by kernel_rfl, rfl, rfl, by kernel_rfl⟩
theorem ok57 : FnOk Try.prog (57, i57) := ⟨Try.f57, _, Try.func57, rfl, by kernel_rfl, rfl, rfl, by kernel_rfl⟩
theorem ok60 : FnOk Try.prog (60, i60) := ⟨Try.f60, _, Try.func60, rfl, by kernel_rfl, rfl, rfl, by kernel_rfl⟩
theorem ok61 : FnOk Try.prog (61, i61) := ⟨Try.f61, _, Try.func61, rfl, by kernel_rfl, rfl, rfl, by kernel_rfl⟩
theorem ok62 : FnOk Try.prog (62, i62) := ⟨Try.f62, _, Try.func62, rfl, by kernel_rfl, rfl, rfl, by kernel_rfl⟩
theorem ok64 : FnOk Try.prog (64, i64) := ⟨Try.f64, _, Try.func64, rfl, by kernel_rfl, rfl, rfl, by kernel_rfl⟩
theorem ok65 : FnOk Try.prog (65, i65) := ⟨Try.f65, _, Try.func65, rfl, by kernel_rfl, rfl, rfl, by kernel_rfl⟩
theorem tab : TabOk Try.prog T := tabOk_of (by kernel_rfl) (.cons ok9 (.cons ok11 (.cons ok12 (.cons ok16 (.cons ok31 (.cons ok33 (.cons ok34 (.cons ok39 (.cons ok40 (.cons ok42 (.cons ok44 (.cons ok48 (.cons ok49 (.cons ok50 (.cons ok51 (.cons ok52 (.cons ok53 (.cons ok54 (.cons ok55 (.cons ok56 (.cons ok57 (.cons ok60 (.cons ok61 (.cons ok62 (.cons ok64 (.cons ok65 (.nil)))))))))))))))))))))))))))
theorem fn9 : T.fn 9 = some i9 := rfl
theorem fn11 : T.fn 11 = some i11 := rfl
theorem fn12 : T.fn 12 = some i12 := rfl
theorem fn16 : T.fn 16 = some i16 := rfl
theorem fn31 : T.fn 31 = some i31 := rfl
theorem fn33 : T.fn 33 = some i33 := rfl
theorem fn34 : T.fn 34 = some i34 := rfl
theorem fn39 : T.fn 39 = some i39 := rfl
theorem fn40 : T.fn 40 = some i40 := rfl
theorem fn42 : T.fn 42 = some i42 := rfl
theorem fn44 : T.fn 44 = some i44 := rfl
theorem fn48 : T.fn 48 = some i48 := rfl
theorem fn49 : T.fn 49 = some i49 := rfl
theorem fn50 : T.fn 50 = some i50 := rfl
theorem fn51 : T.fn 51 = some i51 := rfl
theorem fn52 : T.fn 52 = some i52 := rfl
theorem fn53 : T.fn 53 = some i53 := rfl
theorem fn54 : T.fn 54 = some i54 := rfl
theorem fn55 : T.fn 55 = some i55 := rfl
theorem fn56 : T.fn 56 = some i56 := rfl
theorem fn57 : T.fn 57 = some i57 := rfl
theorem fn60 : T.fn 60 = some i60 := rfl
theorem fn61 : T.fn 61 = some i61 := rfl
theorem fn62 : T.fn 62 = some i62 := rfl
theorem fn64 : T.fn 64 = some i64 := rfl
theorem fn65 : T.fn 65 = some i65 := rfl
end Go.Pi.Ytcihklkihglmjaa.Pair
