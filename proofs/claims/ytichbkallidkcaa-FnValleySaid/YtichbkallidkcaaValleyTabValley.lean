/- What functions of the program answer, and that the law answers true at every input; no condition -/
import Derived.Test.YtichbkallidkcaaProg
import Derived.Test.YtichbkallidkcaaPiD
import Derived.Test.YtichbkallidkcaaPiC
set_option linter.all false
/- The program's tables for Pi: types and functions, as they stand in the loaded program, with hints. -/
namespace Go.Pi.Ytichbkallidkcaa.Valley
open Go Go.Proofs Go.Pi
set_option maxRecDepth 100000

-- (*loop.example/g00344/spec.l1Cur).next
def r73_3 : List PO := [⟨(some 14), (Op.move (Operand.tmp 0)), none⟩,
  ⟨(some 15), (Op.nilCheck (Operand.tmp 14)), none⟩,
  ⟨(some 16), (Op.fieldAddr 79 (Operand.tmp 15) 0), none⟩,
  ⟨(some 17), (Op.load 41 (Operand.tmp 16)), none⟩,
  ⟨(some 18), (Op.move (Operand.tmp 0)), none⟩,
  ⟨(some 19), (Op.nilCheck (Operand.tmp 18)), none⟩,
  ⟨(some 20), (Op.fieldAddr 79 (Operand.tmp 19) 1), none⟩,
  ⟨(some 21), (Op.load 3 (Operand.tmp 20)), none⟩,
  ⟨(some 22), (Op.indexAddr 41 (Operand.tmp 17) (Operand.tmp 21)), none⟩,
  ⟨(some 23), (Op.load 5 (Operand.tmp 22)), none⟩,
  ⟨(some 24), (Op.convert 5 3 (Operand.tmp 23)), none⟩,
  ⟨(some 3), (Op.assign (Operand.tmp 24)), none⟩]
attribute [go_sem] r73_3
def k73_1 : PC := (.cond (Operand.tmp 13) (.post (.fz r73_3) ⟨[0, 3], [], []⟩) (.post .skip ⟨[0, 3], [], []⟩))
def r73_0 : List PO := [⟨(some 2), (Op.assign (Operand.const (Value.int IntKind.i64 0))), none⟩]
attribute [go_sem] r73_0
def r73_1 : List PO := [⟨(some 3), (Op.assign (Operand.const (Value.int IntKind.i64 0))), none⟩]
attribute [go_sem] r73_1
def r73_2 : List PO := [⟨(some 4), (Op.move (Operand.tmp 0)), none⟩,
  ⟨(some 5), (Op.nilCheck (Operand.tmp 4)), none⟩,
  ⟨(some 6), (Op.fieldAddr 79 (Operand.tmp 5) 1), none⟩,
  ⟨(some 7), (Op.load 3 (Operand.tmp 6)), none⟩,
  ⟨(some 8), (Op.move (Operand.tmp 0)), none⟩,
  ⟨(some 9), (Op.nilCheck (Operand.tmp 8)), none⟩,
  ⟨(some 10), (Op.fieldAddr 79 (Operand.tmp 9) 0), none⟩,
  ⟨(some 11), (Op.load 41 (Operand.tmp 10)), none⟩,
  ⟨(some 12), (Op.call { callee := (Callee.builtin Builtin.len), args := #[(Operand.tmp 11)], argTypes := #[41] }), none⟩,
  ⟨(some 13), (Op.binOp BinOp.lss 3 (Operand.tmp 7) (Operand.tmp 12) 3), none⟩]
attribute [go_sem] r73_2
def r73_4 : List PO := [⟨(some 25), (Op.move (Operand.tmp 0)), none⟩,
  ⟨(some 26), (Op.nilCheck (Operand.tmp 25)), none⟩,
  ⟨(some 27), (Op.fieldAddr 79 (Operand.tmp 26) 1), none⟩,
  ⟨(some 28), (Op.load 3 (Operand.tmp 27)), none⟩,
  ⟨(some 29), (Op.binOp BinOp.add 3 (Operand.tmp 28) (Operand.const (Value.int IntKind.i64 1)) 3), none⟩,
  ⟨(some 30), (Op.nilCheck (Operand.tmp 25)), none⟩,
  ⟨(some 31), (Op.fieldAddr 79 (Operand.tmp 30) 1), none⟩,
  ⟨none, (Op.store 3 (Operand.tmp 31) (Operand.tmp 29)), none⟩]
attribute [go_sem] r73_4
def r73_5 : List PO := [⟨(some 32), (Op.move (Operand.tmp 0)), none⟩,
  ⟨(some 33), (Op.move (Operand.tmp 0)), none⟩,
  ⟨(some 34), (Op.nilCheck (Operand.tmp 33)), none⟩,
  ⟨(some 35), (Op.fieldAddr 79 (Operand.tmp 34) 2), none⟩,
  ⟨(some 36), (Op.load 77 (Operand.tmp 35)), none⟩,
  ⟨(some 37), (Op.binOp BinOp.mul 77 (Operand.tmp 36) (Operand.const (Value.int IntKind.u64 6364136223846793005)) 77), none⟩,
  ⟨(some 38), (Op.move (Operand.tmp 3)), none⟩,
  ⟨(some 39), (Op.convert 3 77 (Operand.tmp 38)), none⟩,
  ⟨(some 40), (Op.binOp BinOp.add 77 (Operand.tmp 37) (Operand.tmp 39) 77), none⟩,
  ⟨(some 41), (Op.binOp BinOp.add 77 (Operand.tmp 40) (Operand.const (Value.int IntKind.u64 1442695040888963407)) 77), none⟩,
  ⟨(some 42), (Op.nilCheck (Operand.tmp 32)), none⟩,
  ⟨(some 43), (Op.fieldAddr 79 (Operand.tmp 42) 2), none⟩,
  ⟨none, (Op.store 77 (Operand.tmp 43) (Operand.tmp 41)), none⟩]
attribute [go_sem] r73_5
def r73_6 : List PO := [⟨(some 44), (Op.move (Operand.tmp 0)), none⟩,
  ⟨(some 45), (Op.nilCheck (Operand.tmp 44)), none⟩,
  ⟨(some 46), (Op.fieldAddr 79 (Operand.tmp 45) 1), none⟩,
  ⟨(some 47), (Op.load 3 (Operand.tmp 46)), none⟩,
  ⟨(some 48), (Op.move (Operand.tmp 0)), none⟩,
  ⟨(some 49), (Op.nilCheck (Operand.tmp 48)), none⟩,
  ⟨(some 50), (Op.fieldAddr 79 (Operand.tmp 49) 0), none⟩,
  ⟨(some 51), (Op.load 41 (Operand.tmp 50)), none⟩,
  ⟨(some 52), (Op.call { callee := (Callee.builtin Builtin.len), args := #[(Operand.tmp 51)], argTypes := #[41] }), none⟩,
  ⟨(some 53), (Op.binOp BinOp.leq 3 (Operand.tmp 47) (Operand.tmp 52) 3), none⟩]
attribute [go_sem] r73_6
def r73_7 : List PO := [⟨(some 54), (Op.move (Operand.tmp 3)), none⟩,
  ⟨(some 2), (Op.assign (Operand.tmp 54)), none⟩]
attribute [go_sem] r73_7
def r73_8 : List PO := [⟨(some 55), (Op.move (Operand.tmp 0)), none⟩,
  ⟨(some 56), (Op.nilCheck (Operand.tmp 55)), none⟩,
  ⟨(some 57), (Op.fieldAddr 79 (Operand.tmp 56) 2), none⟩,
  ⟨(some 58), (Op.load 77 (Operand.tmp 57)), none⟩,
  ⟨(some 59), (Op.binOp BinOp.shr 77 (Operand.tmp 58) (Operand.const (Value.int IntKind.u64 40)) 108), none⟩,
  ⟨(some 60), (Op.binOp BinOp.and 77 (Operand.tmp 59) (Operand.const (Value.int IntKind.u64 255)) 77), none⟩,
  ⟨(some 61), (Op.convert 77 3 (Operand.tmp 60)), none⟩,
  ⟨(some 2), (Op.assign (Operand.tmp 61)), none⟩]
attribute [go_sem] r73_8
def c73 : PC := (.seq (.reg r73_0) (.seq (.reg r73_1) (.seq (.seq (.fz r73_2) (.pre ⟨[0, 3, 13], [], []⟩ k73_1)) (.seq (.reg r73_4) (.seq (.reg r73_5) (.seq (.seq (.fz r73_6) (.cond (Operand.tmp 53) (.seq (.reg r73_7) (.pre ⟨[2], [], []⟩ .ret)) .skip)) (.seq (.reg r73_8) (.pre ⟨[2], [], []⟩ .ret))))))))
def i73 : FnI := ⟨62, [(ResultVar.tmp 2)], c73, 3, [[0]], [[0]], false, true, 1⟩
-- (*loop.example/g00344/spec.l1Cur).pick
def r58_5 : List PO := [⟨(some 12), (Op.move (Operand.tmp 5)), none⟩,
  ⟨(some 13), (Op.binOp BinOp.mul 3 (Operand.tmp 12) (Operand.const (Value.int IntKind.i64 256)) 3), none⟩,
  ⟨(some 14), (Op.move (Operand.tmp 0)), none⟩,
  ⟨(some 15), (Op.call { callee := (Callee.value (Operand.func 73)), args := #[(Operand.tmp 14)], argTypes := #[76] }), none⟩,
  ⟨(some 16), (Op.binOp BinOp.add 3 (Operand.tmp 13) (Operand.tmp 15) 3), none⟩,
  ⟨(some 5), (Op.assign (Operand.tmp 16)), none⟩]
attribute [go_sem] r58_5
def k58_1 : PC := (.cond (Operand.tmp 11) (.post (.reg r58_5) ⟨[1, 5], [], []⟩) (.post .skip ⟨[1, 5], [], []⟩))
def r58_0 : List PO := [⟨(some 4), (Op.assign (Operand.const (Value.int IntKind.i64 0))), none⟩]
attribute [go_sem] r58_0
def r58_1 : List PO := [⟨(some 6), (Op.move (Operand.tmp 1)), none⟩,
  ⟨(some 7), (Op.binOp BinOp.leq 3 (Operand.tmp 6) (Operand.const (Value.int IntKind.i64 1)) 3), none⟩]
attribute [go_sem] r58_1
def r58_2 : List PO := [⟨(some 4), (Op.assign (Operand.const (Value.int IntKind.i64 0))), none⟩]
attribute [go_sem] r58_2
def r58_3 : List PO := [⟨(some 8), (Op.move (Operand.tmp 0)), none⟩,
  ⟨(some 9), (Op.call { callee := (Callee.value (Operand.func 73)), args := #[(Operand.tmp 8)], argTypes := #[76] }), none⟩,
  ⟨(some 5), (Op.assign (Operand.tmp 9)), none⟩]
attribute [go_sem] r58_3
def r58_4 : List PO := [⟨(some 10), (Op.move (Operand.tmp 1)), none⟩,
  ⟨(some 11), (Op.binOp BinOp.gtr 3 (Operand.tmp 10) (Operand.const (Value.int IntKind.i64 200)) 3), none⟩]
attribute [go_sem] r58_4
def r58_6 : List PO := [⟨(some 17), (Op.move (Operand.tmp 5)), none⟩,
  ⟨(some 18), (Op.move (Operand.tmp 1)), none⟩,
  ⟨(some 19), (Op.binOp BinOp.rem 3 (Operand.tmp 17) (Operand.tmp 18) 3), none⟩,
  ⟨(some 4), (Op.assign (Operand.tmp 19)), none⟩]
attribute [go_sem] r58_6
def c58 : PC := (.seq (.reg r58_0) (.seq (.seq (.reg r58_1) (.cond (Operand.tmp 7) (.seq (.reg r58_2) (.pre ⟨[4], [], []⟩ .ret)) .skip)) (.seq (.reg r58_3) (.seq (.seq (.reg r58_4) (.pre ⟨[0, 1, 5, 11], [], []⟩ k58_1)) (.seq (.reg r58_6) (.pre ⟨[4], [], []⟩ .ret))))))
def i58 : FnI := ⟨20, [(ResultVar.tmp 4)], c58, 3, [[0], [0]], [[0]], false, true, 1⟩
-- (*loop.example/g00344/spec.l1Cur).one
def r59_0 : List PO := [⟨(some 4), (Op.assign (Operand.const (Value.bool false))), none⟩]
attribute [go_sem] r59_0
def r59_1 : List PO := [⟨(some 5), (Op.move (Operand.tmp 0)), none⟩,
  ⟨(some 6), (Op.move (Operand.tmp 1)), none⟩,
  ⟨(some 7), (Op.call { callee := (Callee.value (Operand.func 58)), args := #[(Operand.tmp 5), (Operand.tmp 6)], argTypes := #[76, 3] }), none⟩,
  ⟨(some 8), (Op.binOp BinOp.eql 3 (Operand.tmp 7) (Operand.const (Value.int IntKind.i64 0)) 3), none⟩,
  ⟨(some 4), (Op.assign (Operand.tmp 8)), none⟩]
attribute [go_sem] r59_1
def c59 : PC := (.seq (.reg r59_0) (.seq (.reg r59_1) (.pre ⟨[4], [], []⟩ .ret)))
def i59 : FnI := ⟨9, [(ResultVar.tmp 4)], c59, 3, [[0], [0]], [[0]], false, true, 1⟩
-- (*loop.example/g00344/spec.l1Cur).rels
def r57_15 : List PO := [⟨(some 8), (Op.assign (Operand.const (Value.int IntKind.i64 1))), none⟩]
attribute [go_sem] r57_15
def k57_15 : PC := (.cond (Operand.tmp 31) (.post (.reg r57_15) ⟨[0, 4, 5, 6, 7, 8], [.old 1], []⟩) (.post .skip ⟨[0, 4, 5, 6, 7, 8], [.old 1], []⟩))
def r57_13 : List PO := [⟨(some 8), (Op.assign (Operand.const (Value.int IntKind.i64 2))), none⟩]
attribute [go_sem] r57_13
def r57_14 : List PO := [⟨(some 32), (Op.binOp BinOp.eql 3 (Operand.tmp 28) (Operand.const (Value.int IntKind.i64 1)) 3), none⟩,
  ⟨(some 31), (Op.assign (Operand.tmp 32)), none⟩]
attribute [go_sem] r57_14
def k57_14 : PC := (.cond (Operand.tmp 29) (.post (.reg r57_13) ⟨[0, 4, 5, 6, 7, 8], [.old 1], []⟩) (.seq (.reg r57_14) (.post (.pre ⟨[0, 4, 5, 6, 7, 8, 31], [.old 1], []⟩ k57_15) ⟨[0, 4, 5, 6, 7, 8], [.old 1], []⟩)))
def r57_9 : List PO := [⟨(some 24), (Op.move (Operand.tmp 0)), none⟩,
  ⟨(some 25), (Op.call { callee := (Callee.value (Operand.func 59)), args := #[(Operand.tmp 24), (Operand.const (Value.int IntKind.i64 3))], argTypes := #[76, 3] }), none⟩,
  ⟨(some 26), (Op.unOp UnOp.not 4 (Operand.tmp 25)), none⟩]
attribute [go_sem] r57_9
def r57_10 : List PO := [⟨(some 8), (Op.assign (Operand.const (Value.int IntKind.i64 3))), none⟩]
attribute [go_sem] r57_10
def r57_11 : List PO := [⟨(some 27), (Op.move (Operand.tmp 0)), none⟩,
  ⟨(some 28), (Op.call { callee := (Callee.value (Operand.func 58)), args := #[(Operand.tmp 27), (Operand.const (Value.int IntKind.i64 5))], argTypes := #[76, 3] }), none⟩]
attribute [go_sem] r57_11
def r57_12 : List PO := [⟨(some 30), (Op.binOp BinOp.eql 3 (Operand.tmp 28) (Operand.const (Value.int IntKind.i64 0)) 3), none⟩,
  ⟨(some 29), (Op.assign (Operand.tmp 30)), none⟩]
attribute [go_sem] r57_12
def r57_16 : List PO := [⟨(some 33), (Op.move (Operand.tmp 5)), none⟩,
  ⟨(some 34), (Op.move (Operand.tmp 6)), none⟩,
  ⟨(some 35), (Op.move (Operand.tmp 7)), none⟩,
  ⟨(some 36), (Op.move (Operand.tmp 8)), none⟩,
  ⟨(some 37), (Op.build 63 #[(0, (Operand.tmp 34)), (1, (Operand.tmp 35)), (2, (Operand.tmp 36))]), none⟩,
  ⟨(some 38), (Op.buildSlice 25 1 #[(0, (Operand.tmp 37))]), none⟩,
  ⟨(some 39), (Op.call { callee := (Callee.builtin Builtin.append), args := #[(Operand.tmp 33), (Operand.tmp 38)], argTypes := #[25, 25] }), none⟩,
  ⟨(some 5), (Op.assign (Operand.tmp 39)), none⟩]
attribute [go_sem] r57_16
def k57_13 : PC := (.block 3 (.seq (.seq (.reg r57_9) (.cond (Operand.tmp 26) (.pre ⟨[0, 4, 5, 6, 7], [.old 1], []⟩ (.exit 3)) .skip)) (.seq (.reg r57_10) (.seq (.seq (.reg r57_11) (.block 4 (.seq (.reg r57_12) (.pre ⟨[0, 4, 5, 6, 7, 8, 28, 29], [.old 1], []⟩ k57_14)))) (.post (.reg r57_16) ⟨[0, 4, 5, 6, 7], [.old 3], []⟩)))))
def r57_7 : List PO := [⟨(some 19), (Op.move (Operand.tmp 7)), none⟩,
  ⟨(some 20), (Op.move (Operand.tmp 4)), none⟩,
  ⟨(some 21), (Op.binOp BinOp.leq 3 (Operand.tmp 19) (Operand.tmp 20) 3), none⟩]
attribute [go_sem] r57_7
def r57_8 : List PO := [⟨(some 22), (Op.move (Operand.tmp 7)), none⟩,
  ⟨(some 23), (Op.binOp BinOp.add 3 (Operand.tmp 22) (Operand.const (Value.int IntKind.i64 1)) 3), none⟩,
  ⟨(some 7), (Op.assign (Operand.tmp 23)), none⟩]
attribute [go_sem] r57_8
def k57_9b : PC := (.seq (.seq (.reg r57_7) (.cond (Operand.tmp 21) .skip (.pre ⟨[0, 4, 5, 6], [.old 1], []⟩ (.exit 2)))) (.seq (.pre ⟨[0, 4, 5, 6, 7], [.old 1], []⟩ k57_13) (.post (.reg r57_8) ⟨[0, 4, 5, 6, 7], [.old 1], []⟩)))
def r57_4 : List PO := [⟨(some 12), (Op.move (Operand.tmp 6)), none⟩,
  ⟨(some 13), (Op.move (Operand.tmp 4)), none⟩,
  ⟨(some 14), (Op.binOp BinOp.lss 3 (Operand.tmp 12) (Operand.tmp 13) 3), none⟩]
attribute [go_sem] r57_4
def r57_6 : List PO := [⟨(some 17), (Op.move (Operand.tmp 6)), none⟩,
  ⟨(some 18), (Op.binOp BinOp.add 3 (Operand.tmp 17) (Operand.const (Value.int IntKind.i64 1)) 3), none⟩,
  ⟨(some 7), (Op.assign (Operand.tmp 18)), none⟩]
attribute [go_sem] r57_6
def r57_5 : List PO := [⟨(some 15), (Op.move (Operand.tmp 6)), none⟩,
  ⟨(some 16), (Op.binOp BinOp.add 3 (Operand.tmp 15) (Operand.const (Value.int IntKind.i64 1)) 3), none⟩,
  ⟨(some 6), (Op.assign (Operand.tmp 16)), none⟩]
attribute [go_sem] r57_5
def k57_1b : PC := (.seq (.seq (.reg r57_4) (.cond (Operand.tmp 14) .skip (.pre ⟨[0, 4, 5], [.old 1], []⟩ (.exit 0)))) (.seq (.block 1 (.seq (.reg r57_6) (.block 2 (.pre ⟨[0, 4, 5, 6, 7], [.old 1], []⟩ (.loop k57_9b))))) (.post (.reg r57_5) ⟨[0, 4, 5, 6], [.old 1], []⟩)))
def r57_18 : List PO := [⟨(some 42), (Op.move (Operand.tmp 5)), none⟩,
  ⟨(some 43), (Op.move (Operand.tmp 0)), none⟩,
  ⟨(some 44), (Op.call { callee := (Callee.value (Operand.func 58)), args := #[(Operand.tmp 43), (Operand.const (Value.int IntKind.i64 3))], argTypes := #[76, 3] }), none⟩,
  ⟨(some 45), (Op.move (Operand.tmp 0)), none⟩,
  ⟨(some 46), (Op.call { callee := (Callee.value (Operand.func 58)), args := #[(Operand.tmp 45), (Operand.const (Value.int IntKind.i64 8))], argTypes := #[76, 3] }), none⟩,
  ⟨(some 47), (Op.move (Operand.tmp 0)), none⟩,
  ⟨(some 48), (Op.call { callee := (Callee.value (Operand.func 58)), args := #[(Operand.tmp 47), (Operand.const (Value.int IntKind.i64 5))], argTypes := #[76, 3] }), none⟩,
  ⟨(some 49), (Op.build 63 #[(0, (Operand.tmp 44)), (1, (Operand.tmp 46)), (2, (Operand.tmp 48))]), none⟩,
  ⟨(some 50), (Op.buildSlice 25 1 #[(0, (Operand.tmp 49))]), none⟩,
  ⟨(some 51), (Op.call { callee := (Callee.builtin Builtin.append), args := #[(Operand.tmp 42), (Operand.tmp 50)], argTypes := #[25, 25] }), none⟩,
  ⟨(some 5), (Op.assign (Operand.tmp 51)), none⟩]
attribute [go_sem] r57_18
def k57_16 : PC := (.cond (Operand.tmp 41) (.post (.reg r57_18) ⟨[4, 5], [.old 3], []⟩) (.post .skip ⟨[4, 5], [.old 1], []⟩))
def r57_0 : List PO := [⟨(some 2), (Op.assign (Operand.const (Value.int IntKind.i64 0))), none⟩,
  ⟨(some 3), (Op.assign (Operand.const (Value.slice none 0 0))), none⟩]
attribute [go_sem] r57_0
def r57_1 : List PO := [⟨(some 9), (Op.move (Operand.tmp 0)), none⟩,
  ⟨(some 10), (Op.call { callee := (Callee.value (Operand.func 58)), args := #[(Operand.tmp 9), (Operand.const (Value.int IntKind.i64 4))], argTypes := #[76, 3] }), none⟩,
  ⟨(some 11), (Op.binOp BinOp.add 3 (Operand.const (Value.int IntKind.i64 1)) (Operand.tmp 10) 3), none⟩,
  ⟨(some 4), (Op.assign (Operand.tmp 11)), none⟩]
attribute [go_sem] r57_1
def r57_2 : List PO := [⟨(some 5), (Op.assign (Operand.const (Value.slice none 0 0))), none⟩]
attribute [go_sem] r57_2
def r57_3 : List PO := [⟨(some 6), (Op.assign (Operand.const (Value.int IntKind.i64 0))), none⟩]
attribute [go_sem] r57_3
def r57_17 : List PO := [⟨(some 40), (Op.move (Operand.tmp 0)), none⟩,
  ⟨(some 41), (Op.call { callee := (Callee.value (Operand.func 59)), args := #[(Operand.tmp 40), (Operand.const (Value.int IntKind.i64 30))], argTypes := #[76, 3] }), none⟩]
attribute [go_sem] r57_17
def r57_19 : List PO := [⟨(some 52), (Op.move (Operand.tmp 4)), none⟩,
  ⟨(some 53), (Op.move (Operand.tmp 5)), none⟩,
  ⟨(some 2), (Op.assign (Operand.tmp 52)), none⟩,
  ⟨(some 3), (Op.assign (Operand.tmp 53)), none⟩]
attribute [go_sem] r57_19
def c57 : PC := (.seq (.reg r57_0) (.seq (.reg r57_1) (.seq (.reg r57_2) (.seq (.seq (.reg r57_3) (.block 0 (.pre ⟨[0, 4, 5, 6], [.nilT 5 0 3], []⟩ (.loop k57_1b)))) (.seq (.seq (.reg r57_17) (.pre ⟨[0, 4, 5, 41], [.old 1], []⟩ k57_16)) (.seq (.reg r57_19) (.pre ⟨[2, 3], [.old 1], []⟩ .ret)))))))
def i57 : FnI := ⟨54, [(ResultVar.tmp 2), (ResultVar.tmp 3)], c57, 3, [[0]], [[0], [3]], false, true, 1⟩
-- loop.example/g00344/spec.l11Kind
def r45_4 : List PO := [⟨(some 15), (Op.fieldAddr 63 (Operand.tmp 8) 0), none⟩,
  ⟨(some 16), (Op.load 3 (Operand.tmp 15)), none⟩,
  ⟨(some 17), (Op.move (Operand.tmp 1)), none⟩,
  ⟨(some 18), (Op.binOp BinOp.eql 3 (Operand.tmp 16) (Operand.tmp 17) 3), none⟩,
  ⟨(some 19), (Op.move (Operand.tmp 18)), none⟩,
  ⟨(some 20), (Op.fieldAddr 63 (Operand.tmp 8) 1), (some (19, true))⟩,
  ⟨(some 21), (Op.load 3 (Operand.tmp 20)), (some (19, true))⟩,
  ⟨(some 22), (Op.move (Operand.tmp 2)), (some (19, true))⟩,
  ⟨(some 23), (Op.binOp BinOp.eql 3 (Operand.tmp 21) (Operand.tmp 22) 3), (some (19, true))⟩,
  ⟨(some 24), (Op.pick (Operand.tmp 19) (Operand.tmp 23) (Operand.const (Value.bool false))), none⟩]
attribute [go_sem] r45_4
def k45_4 : PC := (.post (.reg r45_4) ⟨[1, 2, 8, 9, 10, 11, 24], [.old 0], []⟩)
def r45_6 : List PO := [⟨(some 27), (Op.fieldAddr 63 (Operand.tmp 8) 0), none⟩,
  ⟨(some 28), (Op.load 3 (Operand.tmp 27)), none⟩,
  ⟨(some 29), (Op.move (Operand.tmp 2)), none⟩,
  ⟨(some 30), (Op.binOp BinOp.eql 3 (Operand.tmp 28) (Operand.tmp 29) 3), none⟩,
  ⟨(some 31), (Op.move (Operand.tmp 30)), none⟩,
  ⟨(some 32), (Op.fieldAddr 63 (Operand.tmp 8) 1), (some (31, true))⟩,
  ⟨(some 33), (Op.load 3 (Operand.tmp 32)), (some (31, true))⟩,
  ⟨(some 34), (Op.move (Operand.tmp 1)), (some (31, true))⟩,
  ⟨(some 35), (Op.binOp BinOp.eql 3 (Operand.tmp 33) (Operand.tmp 34) 3), (some (31, true))⟩,
  ⟨(some 36), (Op.pick (Operand.tmp 31) (Operand.tmp 35) (Operand.const (Value.bool false))), none⟩]
attribute [go_sem] r45_6
def k45_5 : PC := (.post (.reg r45_6) ⟨[1, 2, 8, 9, 10, 11, 36], [.old 0], []⟩)
def r45_2 : List PO := [⟨(some 12), (Op.binOp BinOp.lss 3 (Operand.tmp 11) (Operand.tmp 10) 3), none⟩]
attribute [go_sem] r45_2
def r45_3 : List PO := [⟨(some 13), (Op.indexAddr 25 (Operand.tmp 9) (Operand.tmp 11)), none⟩,
  ⟨(some 14), (Op.load 63 (Operand.tmp 13)), none⟩,
  ⟨(some 8), (Op.alloc 63), none⟩,
  ⟨none, (Op.store 63 (Operand.tmp 8) (Operand.tmp 14)), none⟩]
attribute [go_sem] r45_3
def r45_5 : List PO := [⟨(some 25), (Op.fieldAddr 63 (Operand.tmp 8) 2), none⟩,
  ⟨(some 26), (Op.load 3 (Operand.tmp 25)), none⟩,
  ⟨(some 6), (Op.assign (Operand.tmp 26)), none⟩]
attribute [go_sem] r45_5
def r45_7 : List PO := [⟨(some 37), (Op.fieldAddr 63 (Operand.tmp 8) 2), none⟩,
  ⟨(some 38), (Op.load 3 (Operand.tmp 37)), none⟩,
  ⟨(some 39), (Op.binOp BinOp.sub 3 (Operand.const (Value.int IntKind.i64 4)) (Operand.tmp 38) 3), none⟩,
  ⟨(some 6), (Op.assign (Operand.tmp 39)), none⟩]
attribute [go_sem] r45_7
def r45_8 : List PO := [⟨(some 40), (Op.binOp BinOp.add 3 (Operand.tmp 11) (Operand.const (Value.int IntKind.i64 1)) 3), none⟩,
  ⟨(some 11), (Op.move (Operand.tmp 40)), none⟩]
attribute [go_sem] r45_8
def k45_1b : PC := (.seq (.reg r45_2) (.seq (.cond (Operand.tmp 12) .skip (.pre ⟨[], [], []⟩ (.exit 0))) (.seq (.block 1 (.seq (.reg r45_3) (.seq (.seq (.pre ⟨[1, 2, 8, 9, 10, 11], [.old 0], []⟩ k45_4) (.cond (Operand.tmp 24) (.seq (.reg r45_5) (.pre ⟨[6], [], []⟩ .ret)) .skip)) (.seq (.pre ⟨[1, 2, 8, 9, 10, 11], [.old 0], []⟩ k45_5) (.cond (Operand.tmp 36) (.seq (.reg r45_7) (.pre ⟨[6], [], []⟩ .ret)) .skip))))) (.post (.reg r45_8) ⟨[1, 2, 9, 10, 11], [], []⟩))))
def r45_0 : List PO := [⟨(some 6), (Op.assign (Operand.const (Value.int IntKind.i64 0))), none⟩]
attribute [go_sem] r45_0
def r45_1 : List PO := [⟨(some 9), (Op.move (Operand.tmp 0)), none⟩,
  ⟨(some 10), (Op.call { callee := (Callee.builtin Builtin.len), args := #[(Operand.tmp 9)], argTypes := #[25] }), none⟩,
  ⟨(some 11), (Op.move (Operand.const (Value.int IntKind.i64 0))), none⟩]
attribute [go_sem] r45_1
def r45_9 : List PO := [⟨(some 6), (Op.assign (Operand.const (Value.int IntKind.i64 0))), none⟩]
attribute [go_sem] r45_9
def c45 : PC := (.seq (.reg r45_0) (.seq (.seq (.reg r45_1) (.block 0 (.pre ⟨[1, 2, 9, 10, 11], [], []⟩ (.loop k45_1b)))) (.seq (.reg r45_9) .ret)))
def i45 : FnI := ⟨41, [(ResultVar.tmp 6)], c45, 0, [[3], [0], [0]], [[0]], false, false, 0⟩
-- loop.example/g00344/spec.l1Has
def r47_2 : List PO := [⟨(some 10), (Op.binOp BinOp.lss 3 (Operand.tmp 9) (Operand.tmp 8) 3), none⟩]
attribute [go_sem] r47_2
def r47_3 : List PO := [⟨(some 11), (Op.indexAddr 36 (Operand.tmp 7) (Operand.tmp 9)), none⟩,
  ⟨(some 12), (Op.load 3 (Operand.tmp 11)), none⟩,
  ⟨(some 6), (Op.assign (Operand.tmp 12)), none⟩]
attribute [go_sem] r47_3
def r47_4 : List PO := [⟨(some 13), (Op.move (Operand.tmp 6)), none⟩,
  ⟨(some 14), (Op.move (Operand.tmp 1)), none⟩,
  ⟨(some 15), (Op.binOp BinOp.eql 3 (Operand.tmp 13) (Operand.tmp 14) 3), none⟩]
attribute [go_sem] r47_4
def r47_5 : List PO := [⟨(some 4), (Op.assign (Operand.const (Value.bool true))), none⟩]
attribute [go_sem] r47_5
def r47_6 : List PO := [⟨(some 16), (Op.binOp BinOp.add 3 (Operand.tmp 9) (Operand.const (Value.int IntKind.i64 1)) 3), none⟩,
  ⟨(some 9), (Op.move (Operand.tmp 16)), none⟩]
attribute [go_sem] r47_6
def k47_1b : PC := (.seq (.reg r47_2) (.seq (.cond (Operand.tmp 10) .skip (.pre ⟨[], [], []⟩ (.exit 0))) (.seq (.block 1 (.seq (.reg r47_3) (.seq (.reg r47_4) (.cond (Operand.tmp 15) (.seq (.reg r47_5) (.pre ⟨[4], [], []⟩ .ret)) .skip)))) (.post (.reg r47_6) ⟨[1, 7, 8, 9], [], []⟩))))
def r47_0 : List PO := [⟨(some 4), (Op.assign (Operand.const (Value.bool false))), none⟩]
attribute [go_sem] r47_0
def r47_1 : List PO := [⟨(some 7), (Op.move (Operand.tmp 0)), none⟩,
  ⟨(some 8), (Op.call { callee := (Callee.builtin Builtin.len), args := #[(Operand.tmp 7)], argTypes := #[36] }), none⟩,
  ⟨(some 9), (Op.move (Operand.const (Value.int IntKind.i64 0))), none⟩]
attribute [go_sem] r47_1
def r47_7 : List PO := [⟨(some 4), (Op.assign (Operand.const (Value.bool false))), none⟩]
attribute [go_sem] r47_7
def c47 : PC := (.seq (.reg r47_0) (.seq (.seq (.reg r47_1) (.block 0 (.pre ⟨[1, 7, 8, 9], [], []⟩ (.loop k47_1b)))) (.seq (.reg r47_7) .ret)))
def i47 : FnI := ⟨17, [(ResultVar.tmp 4)], c47, 0, [[1], [0]], [[0]], false, false, 0⟩
-- loop.example/g00344/spec.DrawIsValleyFree
def r26_8 : List PO := [⟨(some 34), (Op.move (Operand.tmp 7)), none⟩,
  ⟨(some 35), (Op.move (Operand.tmp 8)), none⟩,
  ⟨(some 36), (Op.move (Operand.tmp 8)), none⟩,
  ⟨(some 37), (Op.call { callee := (Callee.builtin Builtin.len), args := #[(Operand.tmp 36)], argTypes := #[36] }), none⟩,
  ⟨(some 38), (Op.binOp BinOp.sub 3 (Operand.tmp 37) (Operand.const (Value.int IntKind.i64 1)) 3), none⟩,
  ⟨(some 39), (Op.indexAddr 36 (Operand.tmp 35) (Operand.tmp 38)), none⟩,
  ⟨(some 40), (Op.load 3 (Operand.tmp 39)), none⟩,
  ⟨(some 41), (Op.move (Operand.tmp 10)), none⟩,
  ⟨(some 42), (Op.call { callee := (Callee.value (Operand.func 45)), args := #[(Operand.tmp 34), (Operand.tmp 40), (Operand.tmp 41)], argTypes := #[25, 3, 3] }), none⟩,
  ⟨(some 43), (Op.binOp BinOp.neq 3 (Operand.tmp 42) (Operand.const (Value.int IntKind.i64 0)) 3), none⟩,
  ⟨(some 44), (Op.move (Operand.tmp 43)), none⟩,
  ⟨(some 45), (Op.move (Operand.tmp 8)), (some (44, true))⟩,
  ⟨(some 46), (Op.move (Operand.tmp 10)), (some (44, true))⟩,
  ⟨(some 47), (Op.call { callee := (Callee.value (Operand.func 47)), args := #[(Operand.tmp 45), (Operand.tmp 46)], argTypes := #[36, 3] }), (some (44, true))⟩,
  ⟨(some 48), (Op.unOp UnOp.not 4 (Operand.tmp 47)), (some (44, true))⟩,
  ⟨(some 49), (Op.pick (Operand.tmp 44) (Operand.tmp 48) (Operand.const (Value.bool false))), none⟩]
attribute [go_sem] r26_8
def k26_4 : PC := (.post (.reg r26_8) ⟨[5, 6, 7, 8, 9, 10, 49], [.old 0, .old 1, .old 2], []⟩)
def r26_9 : List PO := [⟨(some 50), (Op.move (Operand.tmp 8)), none⟩,
  ⟨(some 51), (Op.move (Operand.tmp 10)), none⟩,
  ⟨(some 52), (Op.buildSlice 36 1 #[(0, (Operand.tmp 51))]), none⟩,
  ⟨(some 53), (Op.call { callee := (Callee.builtin Builtin.append), args := #[(Operand.tmp 50), (Operand.tmp 52)], argTypes := #[36, 36] }), none⟩,
  ⟨(some 8), (Op.assign (Operand.tmp 53)), none⟩]
attribute [go_sem] r26_9
def k26_5 : PC := (.cond (Operand.tmp 49) (.post (.reg r26_9) ⟨[5, 6, 7, 8, 9], [.old 0, .old 1, .old 4], []⟩) (.post .skip ⟨[5, 6, 7, 8, 9], [.old 0, .old 1, .old 2], []⟩))
def r26_5 : List PO := [⟨(some 26), (Op.move (Operand.tmp 9)), none⟩,
  ⟨(some 27), (Op.binOp BinOp.gtr 3 (Operand.tmp 26) (Operand.const (Value.int IntKind.i64 0)) 3), none⟩]
attribute [go_sem] r26_5
def r26_7 : List PO := [⟨(some 30), (Op.move (Operand.tmp 5)), none⟩,
  ⟨(some 31), (Op.move (Operand.tmp 6)), none⟩,
  ⟨(some 32), (Op.binOp BinOp.add 3 (Operand.tmp 31) (Operand.const (Value.int IntKind.i64 1)) 3), none⟩,
  ⟨(some 33), (Op.call { callee := (Callee.value (Operand.func 58)), args := #[(Operand.tmp 30), (Operand.tmp 32)], argTypes := #[76, 3] }), none⟩,
  ⟨(some 10), (Op.assign (Operand.tmp 33)), none⟩]
attribute [go_sem] r26_7
def r26_6 : List PO := [⟨(some 28), (Op.move (Operand.tmp 9)), none⟩,
  ⟨(some 29), (Op.binOp BinOp.sub 3 (Operand.tmp 28) (Operand.const (Value.int IntKind.i64 1)) 3), none⟩,
  ⟨(some 9), (Op.assign (Operand.tmp 29)), none⟩]
attribute [go_sem] r26_6
def k26_1b : PC := (.seq (.seq (.reg r26_5) (.cond (Operand.tmp 27) .skip (.pre ⟨[5, 6, 7, 8], [.old 0, .old 1, .old 2], []⟩ (.exit 0)))) (.seq (.block 1 (.seq (.reg r26_7) (.seq (.pre ⟨[5, 6, 7, 8, 9, 10], [.old 0, .old 1, .old 2], []⟩ k26_4) (.pre ⟨[5, 6, 7, 8, 9, 10, 49], [.old 0, .old 1, .old 2], []⟩ k26_5)))) (.post (.reg r26_6) ⟨[5, 6, 7, 8, 9], [.old 0, .old 1, .old 2], []⟩)))
def r26_11 : List PO := [⟨(some 56), (Op.move (Operand.tmp 8)), none⟩,
  ⟨(some 57), (Op.move (Operand.tmp 5)), none⟩,
  ⟨(some 58), (Op.call { callee := (Callee.value (Operand.func 58)), args := #[(Operand.tmp 57), (Operand.const (Value.int IntKind.i64 7))], argTypes := #[76, 3] }), none⟩,
  ⟨(some 59), (Op.buildSlice 36 1 #[(0, (Operand.tmp 58))]), none⟩,
  ⟨(some 60), (Op.call { callee := (Callee.builtin Builtin.append), args := #[(Operand.tmp 56), (Operand.tmp 59)], argTypes := #[36, 36] }), none⟩,
  ⟨(some 8), (Op.assign (Operand.tmp 60)), none⟩]
attribute [go_sem] r26_11
def k26_6 : PC := (.cond (Operand.tmp 55) (.post (.reg r26_11) ⟨[6, 7, 8], [.old 1, .old 4], []⟩) (.post .skip ⟨[6, 7, 8], [.old 1, .old 2], []⟩))
def r26_0 : List PO := [⟨(some 2), (Op.assign (Operand.const (Value.int IntKind.i64 0))), none⟩,
  ⟨(some 3), (Op.assign (Operand.const (Value.slice none 0 0))), none⟩,
  ⟨(some 4), (Op.assign (Operand.const (Value.slice none 0 0))), none⟩]
attribute [go_sem] r26_0
def r26_1 : List PO := [⟨(some 11), (Op.move (Operand.tmp 0)), none⟩,
  ⟨(some 12), (Op.build 79 #[(0, (Operand.tmp 11))]), none⟩,
  ⟨(some 13), (Op.box 79 (Operand.tmp 12)), none⟩,
  ⟨(some 5), (Op.assign (Operand.tmp 13)), none⟩]
attribute [go_sem] r26_1
def r26_2 : List PO := [⟨(some 15), (Op.move (Operand.tmp 5)), none⟩,
  ⟨(some 16), (Op.call { callee := (Callee.value (Operand.func 57)), args := #[(Operand.tmp 15)], argTypes := #[76] }), none⟩,
  ⟨(some 14), (Op.move (Operand.tmp 16)), none⟩,
  ⟨(some 17), (Op.extract (Operand.tmp 14) 0), none⟩,
  ⟨(some 18), (Op.extract (Operand.tmp 14) 1), none⟩,
  ⟨(some 6), (Op.assign (Operand.tmp 17)), none⟩,
  ⟨(some 7), (Op.assign (Operand.tmp 18)), none⟩]
attribute [go_sem] r26_2
def r26_3 : List PO := [⟨(some 19), (Op.move (Operand.tmp 5)), none⟩,
  ⟨(some 20), (Op.move (Operand.tmp 6)), none⟩,
  ⟨(some 21), (Op.binOp BinOp.add 3 (Operand.tmp 20) (Operand.const (Value.int IntKind.i64 1)) 3), none⟩,
  ⟨(some 22), (Op.call { callee := (Callee.value (Operand.func 58)), args := #[(Operand.tmp 19), (Operand.tmp 21)], argTypes := #[76, 3] }), none⟩,
  ⟨(some 23), (Op.buildSlice 36 1 #[(0, (Operand.tmp 22))]), none⟩,
  ⟨(some 8), (Op.assign (Operand.tmp 23)), none⟩]
attribute [go_sem] r26_3
def r26_4 : List PO := [⟨(some 24), (Op.move (Operand.tmp 5)), none⟩,
  ⟨(some 25), (Op.call { callee := (Callee.value (Operand.func 58)), args := #[(Operand.tmp 24), (Operand.const (Value.int IntKind.i64 5))], argTypes := #[76, 3] }), none⟩,
  ⟨(some 9), (Op.assign (Operand.tmp 25)), none⟩]
attribute [go_sem] r26_4
def r26_10 : List PO := [⟨(some 54), (Op.move (Operand.tmp 5)), none⟩,
  ⟨(some 55), (Op.call { callee := (Callee.value (Operand.func 59)), args := #[(Operand.tmp 54), (Operand.const (Value.int IntKind.i64 20))], argTypes := #[76, 3] }), none⟩]
attribute [go_sem] r26_10
def r26_12 : List PO := [⟨(some 61), (Op.move (Operand.tmp 6)), none⟩,
  ⟨(some 62), (Op.move (Operand.tmp 7)), none⟩,
  ⟨(some 63), (Op.move (Operand.tmp 8)), none⟩,
  ⟨(some 2), (Op.assign (Operand.tmp 61)), none⟩,
  ⟨(some 3), (Op.assign (Operand.tmp 62)), none⟩,
  ⟨(some 4), (Op.assign (Operand.tmp 63)), none⟩]
attribute [go_sem] r26_12
def c26 : PC := (.seq (.reg r26_0) (.seq (.reg r26_1) (.seq (.reg r26_2) (.seq (.reg r26_3) (.seq (.seq (.reg r26_4) (.block 0 (.pre ⟨[5, 6, 7, 8, 9], [.old 0, .old 1, .old 2], []⟩ (.loop k26_1b)))) (.seq (.seq (.reg r26_10) (.pre ⟨[5, 6, 7, 8, 55], [.old 0, .old 1, .old 2], []⟩ k26_6)) (.seq (.reg r26_12) .ret)))))))
def i26 : FnI := ⟨64, [(ResultVar.tmp 2), (ResultVar.tmp 3), (ResultVar.tmp 4)], c26, 0, [[1]], [[0], [3], [1]], false, false, 0⟩
-- loop.example/g00344/impl.within
def r41_1 : List PO := [⟨(some 7), (Op.move (Operand.tmp 0)), none⟩,
  ⟨(some 8), (Op.move (Operand.tmp 1)), none⟩,
  ⟨(some 9), (Op.binOp BinOp.geq 3 (Operand.tmp 7) (Operand.tmp 8) 3), none⟩,
  ⟨(some 10), (Op.move (Operand.tmp 9)), none⟩,
  ⟨(some 11), (Op.move (Operand.tmp 0)), (some (10, true))⟩,
  ⟨(some 12), (Op.move (Operand.tmp 2)), (some (10, true))⟩,
  ⟨(some 13), (Op.binOp BinOp.leq 3 (Operand.tmp 11) (Operand.tmp 12) 3), (some (10, true))⟩,
  ⟨(some 14), (Op.pick (Operand.tmp 10) (Operand.tmp 13) (Operand.const (Value.bool false))), none⟩,
  ⟨(some 6), (Op.assign (Operand.tmp 14)), none⟩]
attribute [go_sem] r41_1
def k41_1 : PC := (.post (.reg r41_1) ⟨[6], [], []⟩)
def r41_0 : List PO := [⟨(some 6), (Op.assign (Operand.const (Value.bool false))), none⟩]
attribute [go_sem] r41_0
def c41 : PC := (.seq (.reg r41_0) (.seq (.pre ⟨[0, 1, 2], [], []⟩ k41_1) .ret))
def i41 : FnI := ⟨15, [(ResultVar.tmp 6)], c41, 0, [[0], [0], [0]], [[0]], false, false, 0⟩
-- slices.IndexFunc[[]loop.example/g00344/impl.Rel,loop.example/g00344/impl.Rel]
def r70_2 : List PO := [⟨(some 9), (Op.binOp BinOp.lss 3 (Operand.tmp 8) (Operand.tmp 7) 3), none⟩]
attribute [go_sem] r70_2
def r70_3 : List PO := [⟨(some 10), (Op.move (Operand.tmp 8)), none⟩,
  ⟨(some 5), (Op.assign (Operand.tmp 10)), none⟩]
attribute [go_sem] r70_3
def r70_4 : List PO := [⟨(some 11), (Op.move (Operand.tmp 1)), none⟩,
  ⟨(some 12), (Op.move (Operand.tmp 0)), none⟩,
  ⟨(some 13), (Op.move (Operand.tmp 5)), none⟩,
  ⟨(some 14), (Op.indexAddr 25 (Operand.tmp 12) (Operand.tmp 13)), none⟩,
  ⟨(some 15), (Op.load 63 (Operand.tmp 14)), none⟩,
  ⟨(some 16), (Op.call { callee := (Callee.value (Operand.tmp 11)), args := #[(Operand.tmp 15)], argTypes := #[63] }), none⟩]
attribute [go_sem] r70_4
def r70_5 : List PO := [⟨(some 17), (Op.move (Operand.tmp 5)), none⟩,
  ⟨(some 4), (Op.assign (Operand.tmp 17)), none⟩]
attribute [go_sem] r70_5
def r70_6 : List PO := [⟨(some 18), (Op.binOp BinOp.add 3 (Operand.tmp 8) (Operand.const (Value.int IntKind.i64 1)) 3), none⟩,
  ⟨(some 8), (Op.move (Operand.tmp 18)), none⟩]
attribute [go_sem] r70_6
def k70_1b : PC := (.seq (.reg r70_2) (.seq (.cond (Operand.tmp 9) .skip (.pre ⟨[], [], []⟩ (.exit 0))) (.seq (.block 1 (.seq (.reg r70_3) (.seq (.reg r70_4) (.cond (Operand.tmp 16) (.seq (.reg r70_5) (.pre ⟨[4], [], []⟩ .ret)) .skip)))) (.post (.reg r70_6) ⟨[0, 1, 7, 8], [], []⟩))))
def r70_0 : List PO := [⟨(some 4), (Op.assign (Operand.const (Value.int IntKind.i64 0))), none⟩]
attribute [go_sem] r70_0
def r70_1 : List PO := [⟨(some 6), (Op.move (Operand.tmp 0)), none⟩,
  ⟨(some 7), (Op.call { callee := (Callee.builtin Builtin.len), args := #[(Operand.tmp 6)], argTypes := #[25] }), none⟩,
  ⟨(some 8), (Op.move (Operand.const (Value.int IntKind.i64 0))), none⟩]
attribute [go_sem] r70_1
def r70_7 : List PO := [⟨(some 4), (Op.assign (Operand.const (Value.int IntKind.i64 (-1)))), none⟩]
attribute [go_sem] r70_7
def c70 : PC := (.seq (.reg r70_0) (.seq (.seq (.reg r70_1) (.block 0 (.pre ⟨[0, 1, 7, 8], [], []⟩ (.loop k70_1b)))) (.seq (.reg r70_7) .ret)))
def i70 : FnI := ⟨19, [(ResultVar.tmp 4)], c70, 0, [[3], [0]], [[0]], false, false, 0⟩
-- slices.ContainsFunc[[]loop.example/g00344/impl.Rel,loop.example/g00344/impl.Rel]
def r42_0 : List PO := [⟨(some 4), (Op.assign (Operand.const (Value.bool false))), none⟩]
attribute [go_sem] r42_0
def r42_1 : List PO := [⟨(some 5), (Op.move (Operand.tmp 0)), none⟩,
  ⟨(some 6), (Op.move (Operand.tmp 1)), none⟩,
  ⟨(some 7), (Op.call { callee := (Callee.value (Operand.func 70)), args := #[(Operand.tmp 5), (Operand.tmp 6)], argTypes := #[25, 67] }), none⟩,
  ⟨(some 8), (Op.binOp BinOp.geq 3 (Operand.tmp 7) (Operand.const (Value.int IntKind.i64 0)) 3), none⟩,
  ⟨(some 4), (Op.assign (Operand.tmp 8)), none⟩]
attribute [go_sem] r42_1
def c42 : PC := (.seq (.reg r42_0) (.seq (.reg r42_1) .ret))
def i42 : FnI := ⟨9, [(ResultVar.tmp 4)], c42, 0, [[3], [0]], [[0]], false, false, 0⟩
-- loop.example/g00344/impl.GoodRels$1
def r43_1 : List PO := [⟨(some 4), (Op.fieldAddr 63 (Operand.tmp 1) 0), none⟩,
  ⟨(some 5), (Op.load 3 (Operand.tmp 4)), none⟩,
  ⟨(some 6), (Op.fieldAddr 63 (Operand.tmp 2) 0), none⟩,
  ⟨(some 7), (Op.load 3 (Operand.tmp 6)), none⟩,
  ⟨(some 8), (Op.binOp BinOp.eql 3 (Operand.tmp 5) (Operand.tmp 7) 3), none⟩,
  ⟨(some 9), (Op.move (Operand.tmp 8)), none⟩,
  ⟨(some 10), (Op.fieldAddr 63 (Operand.tmp 1) 1), (some (9, true))⟩,
  ⟨(some 11), (Op.load 3 (Operand.tmp 10)), (some (9, true))⟩,
  ⟨(some 12), (Op.fieldAddr 63 (Operand.tmp 2) 1), (some (9, true))⟩,
  ⟨(some 13), (Op.load 3 (Operand.tmp 12)), (some (9, true))⟩,
  ⟨(some 14), (Op.binOp BinOp.eql 3 (Operand.tmp 11) (Operand.tmp 13) 3), (some (9, true))⟩,
  ⟨(some 15), (Op.pick (Operand.tmp 9) (Operand.tmp 14) (Operand.const (Value.bool false))), none⟩,
  ⟨(some 3), (Op.assign (Operand.tmp 15)), none⟩]
attribute [go_sem] r43_1
def k43_1 : PC := (.post (.reg r43_1) ⟨[3], [], []⟩)
def r43_0 : List PO := [⟨(some 2), (Op.box 63 (Operand.tmp 0)), none⟩,
  ⟨(some 3), (Op.assign (Operand.const (Value.bool false))), none⟩]
attribute [go_sem] r43_0
def c43 : PC := (.seq (.reg r43_0) (.seq (.pre ⟨[1, 2], [.old 0], []⟩ k43_1) .ret))
def i43 : FnI := ⟨16, [(ResultVar.tmp 3)], c43, 0, [[0, 0, 0], [0]], [[0]], false, false, 0⟩
-- loop.example/g00344/impl.GoodRels
def r14_1 : List PO := [⟨(some 7), (Op.move (Operand.tmp 0)), none⟩,
  ⟨(some 8), (Op.call { callee := (Callee.value (Operand.func 41)), args := #[(Operand.tmp 7), (Operand.const (Value.int IntKind.i64 1)), (Operand.const (Value.int IntKind.i64 5))], argTypes := #[3, 3, 3] }), none⟩,
  ⟨(some 9), (Op.unOp UnOp.not 4 (Operand.tmp 8)), none⟩,
  ⟨(some 10), (Op.move (Operand.tmp 9)), none⟩,
  ⟨(some 11), (Op.move (Operand.tmp 1)), (some (10, false))⟩,
  ⟨(some 12), (Op.call { callee := (Callee.builtin Builtin.len), args := #[(Operand.tmp 11)], argTypes := #[25] }), (some (10, false))⟩,
  ⟨(some 13), (Op.binOp BinOp.gtr 3 (Operand.tmp 12) (Operand.const (Value.int IntKind.i64 15)) 3), (some (10, false))⟩,
  ⟨(some 14), (Op.pick (Operand.tmp 10) (Operand.const (Value.bool true)) (Operand.tmp 13)), none⟩]
attribute [go_sem] r14_1
def k14_1 : PC := (.post (.reg r14_1) ⟨[0, 1, 14], [], []⟩)
def r14_6 : List PO := [⟨(some 22), (Op.fieldAddr 63 (Operand.tmp 6) 1), none⟩,
  ⟨(some 23), (Op.load 3 (Operand.tmp 22)), none⟩,
  ⟨(some 24), (Op.move (Operand.tmp 0)), none⟩,
  ⟨(some 25), (Op.call { callee := (Callee.value (Operand.func 41)), args := #[(Operand.tmp 23), (Operand.const (Value.int IntKind.i64 1)), (Operand.tmp 24)], argTypes := #[3, 3, 3] }), none⟩,
  ⟨(some 26), (Op.unOp UnOp.not 4 (Operand.tmp 25)), none⟩,
  ⟨(some 27), (Op.move (Operand.tmp 26)), none⟩,
  ⟨(some 28), (Op.fieldAddr 63 (Operand.tmp 6) 0), (some (27, false))⟩,
  ⟨(some 29), (Op.load 3 (Operand.tmp 28)), (some (27, false))⟩,
  ⟨(some 30), (Op.fieldAddr 63 (Operand.tmp 6) 1), (some (27, false))⟩,
  ⟨(some 31), (Op.load 3 (Operand.tmp 30)), (some (27, false))⟩,
  ⟨(some 32), (Op.binOp BinOp.sub 3 (Operand.tmp 31) (Operand.const (Value.int IntKind.i64 1)) 3), (some (27, false))⟩,
  ⟨(some 33), (Op.call { callee := (Callee.value (Operand.func 41)), args := #[(Operand.tmp 29), (Operand.const (Value.int IntKind.i64 0)), (Operand.tmp 32)], argTypes := #[3, 3, 3] }), (some (27, false))⟩,
  ⟨(some 34), (Op.unOp UnOp.not 4 (Operand.tmp 33)), (some (27, false))⟩,
  ⟨(some 35), (Op.pick (Operand.tmp 27) (Operand.const (Value.bool true)) (Operand.tmp 34)), none⟩,
  ⟨(some 36), (Op.move (Operand.tmp 35)), none⟩,
  ⟨(some 37), (Op.fieldAddr 63 (Operand.tmp 6) 2), (some (36, false))⟩,
  ⟨(some 38), (Op.load 3 (Operand.tmp 37)), (some (36, false))⟩,
  ⟨(some 39), (Op.call { callee := (Callee.value (Operand.func 41)), args := #[(Operand.tmp 38), (Operand.const (Value.int IntKind.i64 1)), (Operand.const (Value.int IntKind.i64 3))], argTypes := #[3, 3, 3] }), (some (36, false))⟩,
  ⟨(some 40), (Op.unOp UnOp.not 4 (Operand.tmp 39)), (some (36, false))⟩,
  ⟨(some 41), (Op.pick (Operand.tmp 36) (Operand.const (Value.bool true)) (Operand.tmp 40)), none⟩,
  ⟨(some 42), (Op.move (Operand.tmp 41)), none⟩,
  ⟨(some 43), (Op.move (Operand.tmp 1)), (some (42, false))⟩,
  ⟨(some 44), (Op.move (Operand.tmp 5)), (some (42, false))⟩,
  ⟨(some 45), (Op.slice 25 (Operand.tmp 43) none (some (Operand.tmp 44)) none), (some (42, false))⟩,
  ⟨(some 46), (Op.makeFunc (Fn.func 43) #[] #[(Operand.tmp 6)]), (some (42, false))⟩,
  ⟨(some 47), (Op.call { callee := (Callee.value (Operand.func 42)), args := #[(Operand.tmp 45), (Operand.tmp 46)], argTypes := #[25, 67] }), (some (42, false))⟩,
  ⟨(some 48), (Op.pick (Operand.tmp 42) (Operand.const (Value.bool true)) (Operand.tmp 47)), none⟩]
attribute [go_sem] r14_6
def k14_4 : PC := (.post (.reg r14_6) ⟨[0, 1, 15, 16, 17, 48], [], []⟩)
def r14_4 : List PO := [⟨(some 18), (Op.binOp BinOp.lss 3 (Operand.tmp 17) (Operand.tmp 16) 3), none⟩]
attribute [go_sem] r14_4
def r14_5 : List PO := [⟨(some 19), (Op.move (Operand.tmp 17)), none⟩,
  ⟨(some 20), (Op.indexAddr 25 (Operand.tmp 15) (Operand.tmp 17)), none⟩,
  ⟨(some 21), (Op.load 63 (Operand.tmp 20)), none⟩,
  ⟨(some 6), (Op.alloc 63), none⟩,
  ⟨(some 5), (Op.assign (Operand.tmp 19)), none⟩,
  ⟨none, (Op.store 63 (Operand.tmp 6) (Operand.tmp 21)), none⟩]
attribute [go_sem] r14_5
def r14_7 : List PO := [⟨(some 4), (Op.assign (Operand.const (Value.bool false))), none⟩]
attribute [go_sem] r14_7
def r14_8 : List PO := [⟨(some 49), (Op.binOp BinOp.add 3 (Operand.tmp 17) (Operand.const (Value.int IntKind.i64 1)) 3), none⟩,
  ⟨(some 17), (Op.move (Operand.tmp 49)), none⟩]
attribute [go_sem] r14_8
def k14_2b : PC := (.seq (.reg r14_4) (.seq (.cond (Operand.tmp 18) .skip (.pre ⟨[], [], []⟩ (.exit 0))) (.seq (.block 1 (.seq (.reg r14_5) (.seq (.pre ⟨[0, 1, 5, 6, 15, 16, 17], [.old 0], []⟩ k14_4) (.cond (Operand.tmp 48) (.seq (.reg r14_7) (.pre ⟨[4], [], []⟩ .ret)) .skip)))) (.post (.reg r14_8) ⟨[0, 1, 15, 16, 17], [], []⟩))))
def r14_0 : List PO := [⟨(some 4), (Op.assign (Operand.const (Value.bool false))), none⟩]
attribute [go_sem] r14_0
def r14_2 : List PO := [⟨(some 4), (Op.assign (Operand.const (Value.bool false))), none⟩]
attribute [go_sem] r14_2
def r14_3 : List PO := [⟨(some 15), (Op.move (Operand.tmp 1)), none⟩,
  ⟨(some 16), (Op.call { callee := (Callee.builtin Builtin.len), args := #[(Operand.tmp 15)], argTypes := #[25] }), none⟩,
  ⟨(some 17), (Op.move (Operand.const (Value.int IntKind.i64 0))), none⟩]
attribute [go_sem] r14_3
def r14_9 : List PO := [⟨(some 4), (Op.assign (Operand.const (Value.bool true))), none⟩]
attribute [go_sem] r14_9
def c14 : PC := (.seq (.reg r14_0) (.seq (.seq (.pre ⟨[0, 1], [], []⟩ k14_1) (.cond (Operand.tmp 14) (.seq (.reg r14_2) .ret) .skip)) (.seq (.seq (.reg r14_3) (.block 0 (.pre ⟨[0, 1, 15, 16, 17], [], []⟩ (.loop k14_2b)))) (.seq (.reg r14_9) .ret))))
def i14 : FnI := ⟨50, [(ResultVar.tmp 4)], c14, 0, [[0], [3]], [[0]], false, false, 0⟩
-- slices.Index[[]int,int]
def r72_2 : List PO := [⟨(some 9), (Op.binOp BinOp.lss 3 (Operand.tmp 8) (Operand.tmp 7) 3), none⟩]
attribute [go_sem] r72_2
def r72_3 : List PO := [⟨(some 10), (Op.move (Operand.tmp 8)), none⟩,
  ⟨(some 5), (Op.assign (Operand.tmp 10)), none⟩]
attribute [go_sem] r72_3
def r72_4 : List PO := [⟨(some 11), (Op.move (Operand.tmp 1)), none⟩,
  ⟨(some 12), (Op.move (Operand.tmp 0)), none⟩,
  ⟨(some 13), (Op.move (Operand.tmp 5)), none⟩,
  ⟨(some 14), (Op.indexAddr 36 (Operand.tmp 12) (Operand.tmp 13)), none⟩,
  ⟨(some 15), (Op.load 3 (Operand.tmp 14)), none⟩,
  ⟨(some 16), (Op.binOp BinOp.eql 3 (Operand.tmp 11) (Operand.tmp 15) 3), none⟩]
attribute [go_sem] r72_4
def r72_5 : List PO := [⟨(some 17), (Op.move (Operand.tmp 5)), none⟩,
  ⟨(some 4), (Op.assign (Operand.tmp 17)), none⟩]
attribute [go_sem] r72_5
def r72_6 : List PO := [⟨(some 18), (Op.binOp BinOp.add 3 (Operand.tmp 8) (Operand.const (Value.int IntKind.i64 1)) 3), none⟩,
  ⟨(some 8), (Op.move (Operand.tmp 18)), none⟩]
attribute [go_sem] r72_6
def k72_1b : PC := (.seq (.reg r72_2) (.seq (.cond (Operand.tmp 9) .skip (.pre ⟨[], [], []⟩ (.exit 0))) (.seq (.block 1 (.seq (.reg r72_3) (.seq (.reg r72_4) (.cond (Operand.tmp 16) (.seq (.reg r72_5) (.pre ⟨[4], [], []⟩ .ret)) .skip)))) (.post (.reg r72_6) ⟨[0, 1, 7, 8], [], []⟩))))
def r72_0 : List PO := [⟨(some 4), (Op.assign (Operand.const (Value.int IntKind.i64 0))), none⟩]
attribute [go_sem] r72_0
def r72_1 : List PO := [⟨(some 6), (Op.move (Operand.tmp 0)), none⟩,
  ⟨(some 7), (Op.call { callee := (Callee.builtin Builtin.len), args := #[(Operand.tmp 6)], argTypes := #[36] }), none⟩,
  ⟨(some 8), (Op.move (Operand.const (Value.int IntKind.i64 0))), none⟩]
attribute [go_sem] r72_1
def r72_7 : List PO := [⟨(some 4), (Op.assign (Operand.const (Value.int IntKind.i64 (-1)))), none⟩]
attribute [go_sem] r72_7
def c72 : PC := (.seq (.reg r72_0) (.seq (.seq (.reg r72_1) (.block 0 (.pre ⟨[0, 1, 7, 8], [], []⟩ (.loop k72_1b)))) (.seq (.reg r72_7) .ret)))
def i72 : FnI := ⟨19, [(ResultVar.tmp 4)], c72, 0, [[1], [0]], [[0]], false, false, 0⟩
-- slices.Contains[[]int,int]
def r55_0 : List PO := [⟨(some 4), (Op.assign (Operand.const (Value.bool false))), none⟩]
attribute [go_sem] r55_0
def r55_1 : List PO := [⟨(some 5), (Op.move (Operand.tmp 0)), none⟩,
  ⟨(some 6), (Op.move (Operand.tmp 1)), none⟩,
  ⟨(some 7), (Op.call { callee := (Callee.value (Operand.func 72)), args := #[(Operand.tmp 5), (Operand.tmp 6)], argTypes := #[36, 3] }), none⟩,
  ⟨(some 8), (Op.binOp BinOp.geq 3 (Operand.tmp 7) (Operand.const (Value.int IntKind.i64 0)) 3), none⟩,
  ⟨(some 4), (Op.assign (Operand.tmp 8)), none⟩]
attribute [go_sem] r55_1
def c55 : PC := (.seq (.reg r55_0) (.seq (.reg r55_1) .ret))
def i55 : FnI := ⟨9, [(ResultVar.tmp 4)], c55, 0, [[1], [0]], [[0]], false, false, 0⟩
-- loop.example/g00344/impl.kindTo
def r46_4 : List PO := [⟨(some 15), (Op.fieldAddr 63 (Operand.tmp 8) 0), none⟩,
  ⟨(some 16), (Op.load 3 (Operand.tmp 15)), none⟩,
  ⟨(some 17), (Op.move (Operand.tmp 1)), none⟩,
  ⟨(some 18), (Op.binOp BinOp.eql 3 (Operand.tmp 16) (Operand.tmp 17) 3), none⟩,
  ⟨(some 19), (Op.move (Operand.tmp 18)), none⟩,
  ⟨(some 20), (Op.fieldAddr 63 (Operand.tmp 8) 1), (some (19, true))⟩,
  ⟨(some 21), (Op.load 3 (Operand.tmp 20)), (some (19, true))⟩,
  ⟨(some 22), (Op.move (Operand.tmp 2)), (some (19, true))⟩,
  ⟨(some 23), (Op.binOp BinOp.eql 3 (Operand.tmp 21) (Operand.tmp 22) 3), (some (19, true))⟩,
  ⟨(some 24), (Op.pick (Operand.tmp 19) (Operand.tmp 23) (Operand.const (Value.bool false))), none⟩]
attribute [go_sem] r46_4
def k46_4 : PC := (.post (.reg r46_4) ⟨[1, 2, 8, 9, 10, 11, 24], [.old 0], []⟩)
def r46_6 : List PO := [⟨(some 27), (Op.fieldAddr 63 (Operand.tmp 8) 0), none⟩,
  ⟨(some 28), (Op.load 3 (Operand.tmp 27)), none⟩,
  ⟨(some 29), (Op.move (Operand.tmp 2)), none⟩,
  ⟨(some 30), (Op.binOp BinOp.eql 3 (Operand.tmp 28) (Operand.tmp 29) 3), none⟩,
  ⟨(some 31), (Op.move (Operand.tmp 30)), none⟩,
  ⟨(some 32), (Op.fieldAddr 63 (Operand.tmp 8) 1), (some (31, true))⟩,
  ⟨(some 33), (Op.load 3 (Operand.tmp 32)), (some (31, true))⟩,
  ⟨(some 34), (Op.move (Operand.tmp 1)), (some (31, true))⟩,
  ⟨(some 35), (Op.binOp BinOp.eql 3 (Operand.tmp 33) (Operand.tmp 34) 3), (some (31, true))⟩,
  ⟨(some 36), (Op.pick (Operand.tmp 31) (Operand.tmp 35) (Operand.const (Value.bool false))), none⟩]
attribute [go_sem] r46_6
def k46_5 : PC := (.post (.reg r46_6) ⟨[1, 2, 8, 9, 10, 11, 36], [.old 0], []⟩)
def r46_2 : List PO := [⟨(some 12), (Op.binOp BinOp.lss 3 (Operand.tmp 11) (Operand.tmp 10) 3), none⟩]
attribute [go_sem] r46_2
def r46_3 : List PO := [⟨(some 13), (Op.indexAddr 25 (Operand.tmp 9) (Operand.tmp 11)), none⟩,
  ⟨(some 14), (Op.load 63 (Operand.tmp 13)), none⟩,
  ⟨(some 8), (Op.alloc 63), none⟩,
  ⟨none, (Op.store 63 (Operand.tmp 8) (Operand.tmp 14)), none⟩]
attribute [go_sem] r46_3
def r46_5 : List PO := [⟨(some 25), (Op.fieldAddr 63 (Operand.tmp 8) 2), none⟩,
  ⟨(some 26), (Op.load 3 (Operand.tmp 25)), none⟩,
  ⟨(some 6), (Op.assign (Operand.tmp 26)), none⟩]
attribute [go_sem] r46_5
def r46_7 : List PO := [⟨(some 37), (Op.fieldAddr 63 (Operand.tmp 8) 2), none⟩,
  ⟨(some 38), (Op.load 3 (Operand.tmp 37)), none⟩,
  ⟨(some 39), (Op.binOp BinOp.sub 3 (Operand.const (Value.int IntKind.i64 4)) (Operand.tmp 38) 3), none⟩,
  ⟨(some 6), (Op.assign (Operand.tmp 39)), none⟩]
attribute [go_sem] r46_7
def r46_8 : List PO := [⟨(some 40), (Op.binOp BinOp.add 3 (Operand.tmp 11) (Operand.const (Value.int IntKind.i64 1)) 3), none⟩,
  ⟨(some 11), (Op.move (Operand.tmp 40)), none⟩]
attribute [go_sem] r46_8
def k46_1b : PC := (.seq (.reg r46_2) (.seq (.cond (Operand.tmp 12) .skip (.pre ⟨[], [], []⟩ (.exit 0))) (.seq (.block 1 (.seq (.reg r46_3) (.seq (.seq (.pre ⟨[1, 2, 8, 9, 10, 11], [.old 0], []⟩ k46_4) (.cond (Operand.tmp 24) (.seq (.reg r46_5) (.pre ⟨[6], [], []⟩ .ret)) .skip)) (.seq (.pre ⟨[1, 2, 8, 9, 10, 11], [.old 0], []⟩ k46_5) (.cond (Operand.tmp 36) (.seq (.reg r46_7) (.pre ⟨[6], [], []⟩ .ret)) .skip))))) (.post (.reg r46_8) ⟨[1, 2, 9, 10, 11], [], []⟩))))
def r46_0 : List PO := [⟨(some 6), (Op.assign (Operand.const (Value.int IntKind.i64 0))), none⟩]
attribute [go_sem] r46_0
def r46_1 : List PO := [⟨(some 9), (Op.move (Operand.tmp 0)), none⟩,
  ⟨(some 10), (Op.call { callee := (Callee.builtin Builtin.len), args := #[(Operand.tmp 9)], argTypes := #[25] }), none⟩,
  ⟨(some 11), (Op.move (Operand.const (Value.int IntKind.i64 0))), none⟩]
attribute [go_sem] r46_1
def r46_9 : List PO := [⟨(some 6), (Op.assign (Operand.const (Value.int IntKind.i64 0))), none⟩]
attribute [go_sem] r46_9
def c46 : PC := (.seq (.reg r46_0) (.seq (.seq (.reg r46_1) (.block 0 (.pre ⟨[1, 2, 9, 10, 11], [], []⟩ (.loop k46_1b)))) (.seq (.reg r46_9) .ret)))
def i46 : FnI := ⟨41, [(ResultVar.tmp 6)], c46, 0, [[3], [0], [0]], [[0]], false, false, 0⟩
-- loop.example/g00344/impl.isValleyFree
def r56_6 : List PO := [⟨(some 25), (Op.move (Operand.tmp 7)), none⟩,
  ⟨(some 26), (Op.binOp BinOp.eql 3 (Operand.tmp 25) (Operand.const (Value.int IntKind.i64 0)) 3), none⟩,
  ⟨(some 27), (Op.move (Operand.tmp 26)), none⟩,
  ⟨(some 28), (Op.move (Operand.tmp 5)), (some (27, false))⟩,
  ⟨(some 29), (Op.move (Operand.tmp 28)), (some (27, false))⟩,
  ⟨(some 30), (Op.move (Operand.tmp 7)), (some (29, true))⟩,
  ⟨(some 31), (Op.binOp BinOp.neq 3 (Operand.tmp 30) (Operand.const (Value.int IntKind.i64 1)) 3), (some (29, true))⟩,
  ⟨(some 32), (Op.pick (Operand.tmp 29) (Operand.tmp 31) (Operand.const (Value.bool false))), (some (27, false))⟩,
  ⟨(some 33), (Op.pick (Operand.tmp 27) (Operand.const (Value.bool true)) (Operand.tmp 32)), none⟩]
attribute [go_sem] r56_6
def k56_4 : PC := (.post (.reg r56_6) ⟨[0, 1, 5, 6, 7, 33], [], []⟩)
def r56_8 : List PO := [⟨(some 34), (Op.move (Operand.tmp 5)), none⟩,
  ⟨(some 35), (Op.move (Operand.tmp 34)), none⟩,
  ⟨(some 36), (Op.move (Operand.tmp 7)), (some (35, false))⟩,
  ⟨(some 37), (Op.binOp BinOp.neq 3 (Operand.tmp 36) (Operand.const (Value.int IntKind.i64 3)) 3), (some (35, false))⟩,
  ⟨(some 38), (Op.pick (Operand.tmp 35) (Operand.const (Value.bool true)) (Operand.tmp 37)), none⟩,
  ⟨(some 5), (Op.assign (Operand.tmp 38)), none⟩]
attribute [go_sem] r56_8
def k56_5 : PC := (.post (.reg r56_8) ⟨[0, 1, 5, 6], [], []⟩)
def r56_3 : List PO := [⟨(some 8), (Op.move (Operand.tmp 6)), none⟩,
  ⟨(some 9), (Op.move (Operand.tmp 1)), none⟩,
  ⟨(some 10), (Op.call { callee := (Callee.builtin Builtin.len), args := #[(Operand.tmp 9)], argTypes := #[36] }), none⟩,
  ⟨(some 11), (Op.binOp BinOp.lss 3 (Operand.tmp 8) (Operand.tmp 10) 3), none⟩]
attribute [go_sem] r56_3
def r56_5 : List PO := [⟨(some 14), (Op.move (Operand.tmp 0)), none⟩,
  ⟨(some 15), (Op.move (Operand.tmp 1)), none⟩,
  ⟨(some 16), (Op.move (Operand.tmp 6)), none⟩,
  ⟨(some 17), (Op.binOp BinOp.sub 3 (Operand.tmp 16) (Operand.const (Value.int IntKind.i64 1)) 3), none⟩,
  ⟨(some 18), (Op.indexAddr 36 (Operand.tmp 15) (Operand.tmp 17)), none⟩,
  ⟨(some 19), (Op.load 3 (Operand.tmp 18)), none⟩,
  ⟨(some 20), (Op.move (Operand.tmp 1)), none⟩,
  ⟨(some 21), (Op.move (Operand.tmp 6)), none⟩,
  ⟨(some 22), (Op.indexAddr 36 (Operand.tmp 20) (Operand.tmp 21)), none⟩,
  ⟨(some 23), (Op.load 3 (Operand.tmp 22)), none⟩,
  ⟨(some 24), (Op.call { callee := (Callee.value (Operand.func 46)), args := #[(Operand.tmp 14), (Operand.tmp 19), (Operand.tmp 23)], argTypes := #[25, 3, 3] }), none⟩,
  ⟨(some 7), (Op.assign (Operand.tmp 24)), none⟩]
attribute [go_sem] r56_5
def r56_7 : List PO := [⟨(some 4), (Op.assign (Operand.const (Value.bool false))), none⟩]
attribute [go_sem] r56_7
def r56_4 : List PO := [⟨(some 12), (Op.move (Operand.tmp 6)), none⟩,
  ⟨(some 13), (Op.binOp BinOp.add 3 (Operand.tmp 12) (Operand.const (Value.int IntKind.i64 1)) 3), none⟩,
  ⟨(some 6), (Op.assign (Operand.tmp 13)), none⟩]
attribute [go_sem] r56_4
def k56_1b : PC := (.seq (.seq (.reg r56_3) (.cond (Operand.tmp 11) .skip (.pre ⟨[], [], []⟩ (.exit 0)))) (.seq (.block 1 (.seq (.fz r56_5) (.seq (.seq (.pre ⟨[0, 1, 5, 6, 7], [], []⟩ k56_4) (.cond (Operand.tmp 33) (.seq (.reg r56_7) (.pre ⟨[4], [], []⟩ .ret)) .skip)) (.pre ⟨[0, 1, 5, 6, 7], [], []⟩ k56_5)))) (.post (.reg r56_4) ⟨[0, 1, 5, 6], [], []⟩)))
def r56_0 : List PO := [⟨(some 4), (Op.assign (Operand.const (Value.bool false))), none⟩]
attribute [go_sem] r56_0
def r56_1 : List PO := [⟨(some 5), (Op.assign (Operand.const (Value.bool false))), none⟩]
attribute [go_sem] r56_1
def r56_2 : List PO := [⟨(some 6), (Op.assign (Operand.const (Value.int IntKind.i64 1))), none⟩]
attribute [go_sem] r56_2
def r56_9 : List PO := [⟨(some 4), (Op.assign (Operand.const (Value.bool true))), none⟩]
attribute [go_sem] r56_9
def c56 : PC := (.seq (.reg r56_0) (.seq (.reg r56_1) (.seq (.seq (.reg r56_2) (.block 0 (.pre ⟨[0, 1, 5, 6], [], []⟩ (.loop k56_1b)))) (.seq (.reg r56_9) .ret))))
def i56 : FnI := ⟨39, [(ResultVar.tmp 4)], c56, 0, [[3], [1]], [[0]], false, false, 0⟩
-- loop.example/g00344/impl.IsValleyFree
def r24_1 : List PO := [⟨(some 10), (Op.move (Operand.tmp 0)), none⟩,
  ⟨(some 11), (Op.move (Operand.tmp 1)), none⟩,
  ⟨(some 12), (Op.call { callee := (Callee.value (Operand.func 14)), args := #[(Operand.tmp 10), (Operand.tmp 11)], argTypes := #[3, 25] }), none⟩,
  ⟨(some 13), (Op.unOp UnOp.not 4 (Operand.tmp 12)), none⟩,
  ⟨(some 14), (Op.move (Operand.tmp 13)), none⟩,
  ⟨(some 15), (Op.move (Operand.tmp 2)), (some (14, false))⟩,
  ⟨(some 16), (Op.call { callee := (Callee.builtin Builtin.len), args := #[(Operand.tmp 15)], argTypes := #[36] }), (some (14, false))⟩,
  ⟨(some 17), (Op.call { callee := (Callee.value (Operand.func 41)), args := #[(Operand.tmp 16), (Operand.const (Value.int IntKind.i64 2)), (Operand.const (Value.int IntKind.i64 6))], argTypes := #[3, 3, 3] }), (some (14, false))⟩,
  ⟨(some 18), (Op.unOp UnOp.not 4 (Operand.tmp 17)), (some (14, false))⟩,
  ⟨(some 19), (Op.pick (Operand.tmp 14) (Operand.const (Value.bool true)) (Operand.tmp 18)), none⟩]
attribute [go_sem] r24_1
def k24_1 : PC := (.post (.reg r24_1) ⟨[0, 1, 2, 19], [], []⟩)
def r24_6 : List PO := [⟨(some 27), (Op.move (Operand.tmp 9)), none⟩,
  ⟨(some 28), (Op.move (Operand.tmp 0)), none⟩,
  ⟨(some 29), (Op.call { callee := (Callee.value (Operand.func 41)), args := #[(Operand.tmp 27), (Operand.const (Value.int IntKind.i64 0)), (Operand.tmp 28)], argTypes := #[3, 3, 3] }), none⟩,
  ⟨(some 30), (Op.unOp UnOp.not 4 (Operand.tmp 29)), none⟩,
  ⟨(some 31), (Op.move (Operand.tmp 30)), none⟩,
  ⟨(some 32), (Op.move (Operand.tmp 2)), (some (31, false))⟩,
  ⟨(some 33), (Op.move (Operand.tmp 8)), (some (31, false))⟩,
  ⟨(some 34), (Op.slice 36 (Operand.tmp 32) none (some (Operand.tmp 33)) none), (some (31, false))⟩,
  ⟨(some 35), (Op.move (Operand.tmp 9)), (some (31, false))⟩,
  ⟨(some 36), (Op.call { callee := (Callee.value (Operand.func 55)), args := #[(Operand.tmp 34), (Operand.tmp 35)], argTypes := #[36, 3] }), (some (31, false))⟩,
  ⟨(some 37), (Op.pick (Operand.tmp 31) (Operand.const (Value.bool true)) (Operand.tmp 36)), none⟩,
  ⟨(some 38), (Op.move (Operand.tmp 37)), none⟩,
  ⟨(some 39), (Op.move (Operand.tmp 8)), (some (38, false))⟩,
  ⟨(some 40), (Op.binOp BinOp.gtr 3 (Operand.tmp 39) (Operand.const (Value.int IntKind.i64 0)) 3), (some (38, false))⟩,
  ⟨(some 41), (Op.move (Operand.tmp 40)), (some (38, false))⟩,
  ⟨(some 42), (Op.move (Operand.tmp 1)), (some (41, true))⟩,
  ⟨(some 43), (Op.move (Operand.tmp 2)), (some (41, true))⟩,
  ⟨(some 44), (Op.move (Operand.tmp 8)), (some (41, true))⟩,
  ⟨(some 45), (Op.binOp BinOp.sub 3 (Operand.tmp 44) (Operand.const (Value.int IntKind.i64 1)) 3), (some (41, true))⟩,
  ⟨(some 46), (Op.indexAddr 36 (Operand.tmp 43) (Operand.tmp 45)), (some (41, true))⟩,
  ⟨(some 47), (Op.load 3 (Operand.tmp 46)), (some (41, true))⟩,
  ⟨(some 48), (Op.move (Operand.tmp 9)), (some (41, true))⟩,
  ⟨(some 49), (Op.call { callee := (Callee.value (Operand.func 46)), args := #[(Operand.tmp 42), (Operand.tmp 47), (Operand.tmp 48)], argTypes := #[25, 3, 3] }), (some (41, true))⟩,
  ⟨(some 50), (Op.binOp BinOp.eql 3 (Operand.tmp 49) (Operand.const (Value.int IntKind.i64 0)) 3), (some (41, true))⟩,
  ⟨(some 51), (Op.pick (Operand.tmp 41) (Operand.tmp 50) (Operand.const (Value.bool false))), (some (38, false))⟩,
  ⟨(some 52), (Op.pick (Operand.tmp 38) (Operand.const (Value.bool true)) (Operand.tmp 51)), none⟩]
attribute [go_sem] r24_6
def k24_4 : PC := (.post (.reg r24_6) ⟨[0, 1, 2, 20, 21, 22, 52], [], []⟩)
def r24_4 : List PO := [⟨(some 23), (Op.binOp BinOp.lss 3 (Operand.tmp 22) (Operand.tmp 21) 3), none⟩]
attribute [go_sem] r24_4
def r24_5 : List PO := [⟨(some 24), (Op.move (Operand.tmp 22)), none⟩,
  ⟨(some 25), (Op.indexAddr 36 (Operand.tmp 20) (Operand.tmp 22)), none⟩,
  ⟨(some 26), (Op.load 3 (Operand.tmp 25)), none⟩,
  ⟨(some 8), (Op.assign (Operand.tmp 24)), none⟩,
  ⟨(some 9), (Op.assign (Operand.tmp 26)), none⟩]
attribute [go_sem] r24_5
def r24_7 : List PO := [⟨(some 6), (Op.assign (Operand.const (Value.bool false))), none⟩,
  ⟨(some 7), (Op.assign (Operand.const (Value.bool false))), none⟩]
attribute [go_sem] r24_7
def r24_8 : List PO := [⟨(some 53), (Op.binOp BinOp.add 3 (Operand.tmp 22) (Operand.const (Value.int IntKind.i64 1)) 3), none⟩,
  ⟨(some 22), (Op.move (Operand.tmp 53)), none⟩]
attribute [go_sem] r24_8
def k24_2b : PC := (.seq (.reg r24_4) (.seq (.cond (Operand.tmp 23) .skip (.pre ⟨[1, 2], [], []⟩ (.exit 0))) (.seq (.block 1 (.seq (.reg r24_5) (.seq (.pre ⟨[0, 1, 2, 8, 9, 20, 21, 22], [], []⟩ k24_4) (.cond (Operand.tmp 52) (.seq (.reg r24_7) (.pre ⟨[6, 7], [], []⟩ .ret)) .skip)))) (.post (.reg r24_8) ⟨[0, 1, 2, 20, 21, 22], [], []⟩))))
def r24_0 : List PO := [⟨(some 6), (Op.assign (Operand.const (Value.bool false))), none⟩,
  ⟨(some 7), (Op.assign (Operand.const (Value.bool false))), none⟩]
attribute [go_sem] r24_0
def r24_2 : List PO := [⟨(some 6), (Op.assign (Operand.const (Value.bool false))), none⟩,
  ⟨(some 7), (Op.assign (Operand.const (Value.bool false))), none⟩]
attribute [go_sem] r24_2
def r24_3 : List PO := [⟨(some 20), (Op.move (Operand.tmp 2)), none⟩,
  ⟨(some 21), (Op.call { callee := (Callee.builtin Builtin.len), args := #[(Operand.tmp 20)], argTypes := #[36] }), none⟩,
  ⟨(some 22), (Op.move (Operand.const (Value.int IntKind.i64 0))), none⟩]
attribute [go_sem] r24_3
def r24_9 : List PO := [⟨(some 54), (Op.move (Operand.tmp 1)), none⟩,
  ⟨(some 55), (Op.move (Operand.tmp 2)), none⟩,
  ⟨(some 56), (Op.call { callee := (Callee.value (Operand.func 56)), args := #[(Operand.tmp 54), (Operand.tmp 55)], argTypes := #[25, 36] }), none⟩,
  ⟨(some 6), (Op.assign (Operand.tmp 56)), none⟩,
  ⟨(some 7), (Op.assign (Operand.const (Value.bool true))), none⟩]
attribute [go_sem] r24_9
def c24 : PC := (.seq (.reg r24_0) (.seq (.seq (.pre ⟨[0, 1, 2], [], []⟩ k24_1) (.cond (Operand.tmp 19) (.seq (.reg r24_2) .ret) .skip)) (.seq (.seq (.reg r24_3) (.block 0 (.pre ⟨[0, 1, 2, 20, 21, 22], [], []⟩ (.loop k24_2b)))) (.seq (.reg r24_9) .ret))))
def i24 : FnI := ⟨57, [(ResultVar.tmp 6), (ResultVar.tmp 7)], c24, 0, [[0], [3], [1]], [[0], [0]], false, false, 0⟩
-- loop.example/g00344/spec.l1In
def r39_1 : List PO := [⟨(some 7), (Op.move (Operand.tmp 0)), none⟩,
  ⟨(some 8), (Op.move (Operand.tmp 1)), none⟩,
  ⟨(some 9), (Op.binOp BinOp.geq 3 (Operand.tmp 7) (Operand.tmp 8) 3), none⟩,
  ⟨(some 10), (Op.move (Operand.tmp 9)), none⟩,
  ⟨(some 11), (Op.move (Operand.tmp 0)), (some (10, true))⟩,
  ⟨(some 12), (Op.move (Operand.tmp 2)), (some (10, true))⟩,
  ⟨(some 13), (Op.binOp BinOp.leq 3 (Operand.tmp 11) (Operand.tmp 12) 3), (some (10, true))⟩,
  ⟨(some 14), (Op.pick (Operand.tmp 10) (Operand.tmp 13) (Operand.const (Value.bool false))), none⟩,
  ⟨(some 6), (Op.assign (Operand.tmp 14)), none⟩]
attribute [go_sem] r39_1
def k39_1 : PC := (.post (.reg r39_1) ⟨[6], [], []⟩)
def r39_0 : List PO := [⟨(some 6), (Op.assign (Operand.const (Value.bool false))), none⟩]
attribute [go_sem] r39_0
def c39 : PC := (.seq (.reg r39_0) (.seq (.pre ⟨[0, 1, 2], [], []⟩ k39_1) .ret))
def i39 : FnI := ⟨15, [(ResultVar.tmp 6)], c39, 0, [[0], [0], [0]], [[0]], false, false, 0⟩
-- loop.example/g00344/spec.GoodRels
def r12_1 : List PO := [⟨(some 9), (Op.move (Operand.tmp 0)), none⟩,
  ⟨(some 10), (Op.call { callee := (Callee.value (Operand.func 39)), args := #[(Operand.tmp 9), (Operand.const (Value.int IntKind.i64 1)), (Operand.const (Value.int IntKind.i64 5))], argTypes := #[3, 3, 3] }), none⟩,
  ⟨(some 11), (Op.unOp UnOp.not 4 (Operand.tmp 10)), none⟩,
  ⟨(some 12), (Op.move (Operand.tmp 11)), none⟩,
  ⟨(some 13), (Op.move (Operand.tmp 1)), (some (12, false))⟩,
  ⟨(some 14), (Op.call { callee := (Callee.builtin Builtin.len), args := #[(Operand.tmp 13)], argTypes := #[25] }), (some (12, false))⟩,
  ⟨(some 15), (Op.binOp BinOp.gtr 3 (Operand.tmp 14) (Operand.const (Value.int IntKind.i64 15)) 3), (some (12, false))⟩,
  ⟨(some 16), (Op.pick (Operand.tmp 12) (Operand.const (Value.bool true)) (Operand.tmp 15)), none⟩]
attribute [go_sem] r12_1
def k12_1 : PC := (.post (.reg r12_1) ⟨[0, 1, 16], [], []⟩)
def r12_6 : List PO := [⟨(some 24), (Op.fieldAddr 63 (Operand.tmp 6) 0), none⟩,
  ⟨(some 25), (Op.load 3 (Operand.tmp 24)), none⟩,
  ⟨(some 26), (Op.binOp BinOp.lss 3 (Operand.tmp 25) (Operand.const (Value.int IntKind.i64 0)) 3), none⟩,
  ⟨(some 27), (Op.move (Operand.tmp 26)), none⟩,
  ⟨(some 28), (Op.fieldAddr 63 (Operand.tmp 6) 0), (some (27, false))⟩,
  ⟨(some 29), (Op.load 3 (Operand.tmp 28)), (some (27, false))⟩,
  ⟨(some 30), (Op.fieldAddr 63 (Operand.tmp 6) 1), (some (27, false))⟩,
  ⟨(some 31), (Op.load 3 (Operand.tmp 30)), (some (27, false))⟩,
  ⟨(some 32), (Op.binOp BinOp.geq 3 (Operand.tmp 29) (Operand.tmp 31) 3), (some (27, false))⟩,
  ⟨(some 33), (Op.pick (Operand.tmp 27) (Operand.const (Value.bool true)) (Operand.tmp 32)), none⟩,
  ⟨(some 34), (Op.move (Operand.tmp 33)), none⟩,
  ⟨(some 35), (Op.fieldAddr 63 (Operand.tmp 6) 1), (some (34, false))⟩,
  ⟨(some 36), (Op.load 3 (Operand.tmp 35)), (some (34, false))⟩,
  ⟨(some 37), (Op.move (Operand.tmp 0)), (some (34, false))⟩,
  ⟨(some 38), (Op.binOp BinOp.gtr 3 (Operand.tmp 36) (Operand.tmp 37) 3), (some (34, false))⟩,
  ⟨(some 39), (Op.pick (Operand.tmp 34) (Operand.const (Value.bool true)) (Operand.tmp 38)), none⟩,
  ⟨(some 40), (Op.move (Operand.tmp 39)), none⟩,
  ⟨(some 41), (Op.fieldAddr 63 (Operand.tmp 6) 2), (some (40, false))⟩,
  ⟨(some 42), (Op.load 3 (Operand.tmp 41)), (some (40, false))⟩,
  ⟨(some 43), (Op.call { callee := (Callee.value (Operand.func 39)), args := #[(Operand.tmp 42), (Operand.const (Value.int IntKind.i64 1)), (Operand.const (Value.int IntKind.i64 3))], argTypes := #[3, 3, 3] }), (some (40, false))⟩,
  ⟨(some 44), (Op.unOp UnOp.not 4 (Operand.tmp 43)), (some (40, false))⟩,
  ⟨(some 45), (Op.pick (Operand.tmp 40) (Operand.const (Value.bool true)) (Operand.tmp 44)), none⟩]
attribute [go_sem] r12_6
def k12_7 : PC := (.post (.reg r12_6) ⟨[0, 1, 5, 6, 17, 18, 19, 45], [.old 0], []⟩)
def r12_11 : List PO := [⟨(some 54), (Op.fieldAddr 63 (Operand.tmp 8) 0), none⟩,
  ⟨(some 55), (Op.load 3 (Operand.tmp 54)), none⟩,
  ⟨(some 56), (Op.fieldAddr 63 (Operand.tmp 6) 0), none⟩,
  ⟨(some 57), (Op.load 3 (Operand.tmp 56)), none⟩,
  ⟨(some 58), (Op.binOp BinOp.eql 3 (Operand.tmp 55) (Operand.tmp 57) 3), none⟩,
  ⟨(some 59), (Op.move (Operand.tmp 58)), none⟩,
  ⟨(some 60), (Op.fieldAddr 63 (Operand.tmp 8) 1), (some (59, true))⟩,
  ⟨(some 61), (Op.load 3 (Operand.tmp 60)), (some (59, true))⟩,
  ⟨(some 62), (Op.fieldAddr 63 (Operand.tmp 6) 1), (some (59, true))⟩,
  ⟨(some 63), (Op.load 3 (Operand.tmp 62)), (some (59, true))⟩,
  ⟨(some 64), (Op.binOp BinOp.eql 3 (Operand.tmp 61) (Operand.tmp 63) 3), (some (59, true))⟩,
  ⟨(some 65), (Op.pick (Operand.tmp 59) (Operand.tmp 64) (Operand.const (Value.bool false))), none⟩]
attribute [go_sem] r12_11
def k12_10 : PC := (.post (.reg r12_11) ⟨[0, 1, 6, 17, 18, 19, 48, 49, 50, 65], [.old 0], []⟩)
def r12_9 : List PO := [⟨(some 51), (Op.binOp BinOp.lss 3 (Operand.tmp 50) (Operand.tmp 49) 3), none⟩]
attribute [go_sem] r12_9
def r12_10 : List PO := [⟨(some 52), (Op.indexAddr 25 (Operand.tmp 48) (Operand.tmp 50)), none⟩,
  ⟨(some 53), (Op.load 63 (Operand.tmp 52)), none⟩,
  ⟨(some 8), (Op.alloc 63), none⟩,
  ⟨none, (Op.store 63 (Operand.tmp 8) (Operand.tmp 53)), none⟩]
attribute [go_sem] r12_10
def r12_12 : List PO := [⟨(some 4), (Op.assign (Operand.const (Value.bool false))), none⟩]
attribute [go_sem] r12_12
def r12_13 : List PO := [⟨(some 66), (Op.binOp BinOp.add 3 (Operand.tmp 50) (Operand.const (Value.int IntKind.i64 1)) 3), none⟩,
  ⟨(some 50), (Op.move (Operand.tmp 66)), none⟩]
attribute [go_sem] r12_13
def k12_8b : PC := (.seq (.reg r12_9) (.seq (.cond (Operand.tmp 51) .skip (.pre ⟨[0, 1, 17, 18, 19], [], []⟩ (.exit 2))) (.seq (.block 3 (.seq (.reg r12_10) (.seq (.pre ⟨[0, 1, 6, 8, 17, 18, 19, 48, 49, 50], [.old 0, .old 1], []⟩ k12_10) (.cond (Operand.tmp 65) (.seq (.reg r12_12) (.pre ⟨[4], [], []⟩ .ret)) .skip)))) (.post (.reg r12_13) ⟨[0, 1, 6, 17, 18, 19, 48, 49, 50], [.old 0], []⟩))))
def r12_4 : List PO := [⟨(some 20), (Op.binOp BinOp.lss 3 (Operand.tmp 19) (Operand.tmp 18) 3), none⟩]
attribute [go_sem] r12_4
def r12_5 : List PO := [⟨(some 21), (Op.move (Operand.tmp 19)), none⟩,
  ⟨(some 22), (Op.indexAddr 25 (Operand.tmp 17) (Operand.tmp 19)), none⟩,
  ⟨(some 23), (Op.load 63 (Operand.tmp 22)), none⟩,
  ⟨(some 6), (Op.alloc 63), none⟩,
  ⟨(some 5), (Op.assign (Operand.tmp 21)), none⟩,
  ⟨none, (Op.store 63 (Operand.tmp 6) (Operand.tmp 23)), none⟩]
attribute [go_sem] r12_5
def r12_7 : List PO := [⟨(some 4), (Op.assign (Operand.const (Value.bool false))), none⟩]
attribute [go_sem] r12_7
def r12_8 : List PO := [⟨(some 46), (Op.move (Operand.tmp 1)), none⟩,
  ⟨(some 47), (Op.move (Operand.tmp 5)), none⟩,
  ⟨(some 48), (Op.slice 25 (Operand.tmp 46) none (some (Operand.tmp 47)) none), none⟩,
  ⟨(some 49), (Op.call { callee := (Callee.builtin Builtin.len), args := #[(Operand.tmp 48)], argTypes := #[25] }), none⟩,
  ⟨(some 50), (Op.move (Operand.const (Value.int IntKind.i64 0))), none⟩]
attribute [go_sem] r12_8
def r12_14 : List PO := [⟨(some 67), (Op.binOp BinOp.add 3 (Operand.tmp 19) (Operand.const (Value.int IntKind.i64 1)) 3), none⟩,
  ⟨(some 19), (Op.move (Operand.tmp 67)), none⟩]
attribute [go_sem] r12_14
def k12_2b : PC := (.seq (.reg r12_4) (.seq (.cond (Operand.tmp 20) .skip (.pre ⟨[], [], []⟩ (.exit 0))) (.seq (.block 1 (.seq (.reg r12_5) (.seq (.seq (.pre ⟨[0, 1, 5, 6, 17, 18, 19], [.old 0], []⟩ k12_7) (.cond (Operand.tmp 45) (.seq (.reg r12_7) (.pre ⟨[4], [], []⟩ .ret)) .skip)) (.seq (.reg r12_8) (.block 2 (.pre ⟨[0, 1, 6, 17, 18, 19, 48, 49, 50], [.old 0], []⟩ (.loop k12_8b))))))) (.post (.reg r12_14) ⟨[0, 1, 17, 18, 19], [], []⟩))))
def r12_0 : List PO := [⟨(some 4), (Op.assign (Operand.const (Value.bool false))), none⟩]
attribute [go_sem] r12_0
def r12_2 : List PO := [⟨(some 4), (Op.assign (Operand.const (Value.bool false))), none⟩]
attribute [go_sem] r12_2
def r12_3 : List PO := [⟨(some 17), (Op.move (Operand.tmp 1)), none⟩,
  ⟨(some 18), (Op.call { callee := (Callee.builtin Builtin.len), args := #[(Operand.tmp 17)], argTypes := #[25] }), none⟩,
  ⟨(some 19), (Op.move (Operand.const (Value.int IntKind.i64 0))), none⟩]
attribute [go_sem] r12_3
def r12_15 : List PO := [⟨(some 4), (Op.assign (Operand.const (Value.bool true))), none⟩]
attribute [go_sem] r12_15
def c12 : PC := (.seq (.reg r12_0) (.seq (.seq (.pre ⟨[0, 1], [], []⟩ k12_1) (.cond (Operand.tmp 16) (.seq (.reg r12_2) .ret) .skip)) (.seq (.seq (.reg r12_3) (.block 0 (.pre ⟨[0, 1, 17, 18, 19], [], []⟩ (.loop k12_2b)))) (.seq (.reg r12_15) .ret))))
def i12 : FnI := ⟨68, [(ResultVar.tmp 4)], c12, 0, [[0], [3]], [[0]], false, false, 0⟩
-- loop.example/g00344/spec.l11Row
def r53_4 : List PO := [⟨(some 16), (Op.move (Operand.tmp 8)), none⟩,
  ⟨(some 17), (Op.binOp BinOp.lss 3 (Operand.tmp 16) (Operand.const (Value.int IntKind.i64 0)) 3), none⟩,
  ⟨(some 18), (Op.move (Operand.tmp 17)), none⟩,
  ⟨(some 19), (Op.move (Operand.tmp 8)), (some (18, false))⟩,
  ⟨(some 20), (Op.move (Operand.tmp 0)), (some (18, false))⟩,
  ⟨(some 21), (Op.binOp BinOp.gtr 3 (Operand.tmp 19) (Operand.tmp 20) 3), (some (18, false))⟩,
  ⟨(some 22), (Op.pick (Operand.tmp 18) (Operand.const (Value.bool true)) (Operand.tmp 21)), none⟩,
  ⟨(some 23), (Op.move (Operand.tmp 22)), none⟩,
  ⟨(some 24), (Op.move (Operand.tmp 2)), (some (23, false))⟩,
  ⟨(some 25), (Op.move (Operand.tmp 7)), (some (23, false))⟩,
  ⟨(some 26), (Op.slice 36 (Operand.tmp 24) none (some (Operand.tmp 25)) none), (some (23, false))⟩,
  ⟨(some 27), (Op.move (Operand.tmp 8)), (some (23, false))⟩,
  ⟨(some 28), (Op.call { callee := (Callee.value (Operand.func 47)), args := #[(Operand.tmp 26), (Operand.tmp 27)], argTypes := #[36, 3] }), (some (23, false))⟩,
  ⟨(some 29), (Op.pick (Operand.tmp 23) (Operand.const (Value.bool true)) (Operand.tmp 28)), none⟩,
  ⟨(some 30), (Op.move (Operand.tmp 29)), none⟩,
  ⟨(some 31), (Op.move (Operand.tmp 7)), (some (30, false))⟩,
  ⟨(some 32), (Op.binOp BinOp.gtr 3 (Operand.tmp 31) (Operand.const (Value.int IntKind.i64 0)) 3), (some (30, false))⟩,
  ⟨(some 33), (Op.move (Operand.tmp 32)), (some (30, false))⟩,
  ⟨(some 34), (Op.move (Operand.tmp 1)), (some (33, true))⟩,
  ⟨(some 35), (Op.move (Operand.tmp 2)), (some (33, true))⟩,
  ⟨(some 36), (Op.move (Operand.tmp 7)), (some (33, true))⟩,
  ⟨(some 37), (Op.binOp BinOp.sub 3 (Operand.tmp 36) (Operand.const (Value.int IntKind.i64 1)) 3), (some (33, true))⟩,
  ⟨(some 38), (Op.indexAddr 36 (Operand.tmp 35) (Operand.tmp 37)), (some (33, true))⟩,
  ⟨(some 39), (Op.load 3 (Operand.tmp 38)), (some (33, true))⟩,
  ⟨(some 40), (Op.move (Operand.tmp 8)), (some (33, true))⟩,
  ⟨(some 41), (Op.call { callee := (Callee.value (Operand.func 45)), args := #[(Operand.tmp 34), (Operand.tmp 39), (Operand.tmp 40)], argTypes := #[25, 3, 3] }), (some (33, true))⟩,
  ⟨(some 42), (Op.binOp BinOp.eql 3 (Operand.tmp 41) (Operand.const (Value.int IntKind.i64 0)) 3), (some (33, true))⟩,
  ⟨(some 43), (Op.pick (Operand.tmp 33) (Operand.tmp 42) (Operand.const (Value.bool false))), (some (30, false))⟩,
  ⟨(some 44), (Op.pick (Operand.tmp 30) (Operand.const (Value.bool true)) (Operand.tmp 43)), none⟩]
attribute [go_sem] r53_4
def k53_3 : PC := (.post (.reg r53_4) ⟨[0, 1, 2, 9, 10, 11, 44], [], []⟩)
def r53_2 : List PO := [⟨(some 12), (Op.binOp BinOp.lss 3 (Operand.tmp 11) (Operand.tmp 10) 3), none⟩]
attribute [go_sem] r53_2
def r53_3 : List PO := [⟨(some 13), (Op.move (Operand.tmp 11)), none⟩,
  ⟨(some 14), (Op.indexAddr 36 (Operand.tmp 9) (Operand.tmp 11)), none⟩,
  ⟨(some 15), (Op.load 3 (Operand.tmp 14)), none⟩,
  ⟨(some 7), (Op.assign (Operand.tmp 13)), none⟩,
  ⟨(some 8), (Op.assign (Operand.tmp 15)), none⟩]
attribute [go_sem] r53_3
def r53_5 : List PO := [⟨(some 6), (Op.assign (Operand.const (Value.bool false))), none⟩]
attribute [go_sem] r53_5
def r53_6 : List PO := [⟨(some 45), (Op.binOp BinOp.add 3 (Operand.tmp 11) (Operand.const (Value.int IntKind.i64 1)) 3), none⟩,
  ⟨(some 11), (Op.move (Operand.tmp 45)), none⟩]
attribute [go_sem] r53_6
def k53_1b : PC := (.seq (.reg r53_2) (.seq (.cond (Operand.tmp 12) .skip (.pre ⟨[2], [], []⟩ (.exit 0))) (.seq (.block 1 (.seq (.reg r53_3) (.seq (.pre ⟨[0, 1, 2, 7, 8, 9, 10, 11], [], []⟩ k53_3) (.cond (Operand.tmp 44) (.seq (.reg r53_5) (.pre ⟨[6], [], []⟩ .ret)) .skip)))) (.post (.reg r53_6) ⟨[0, 1, 2, 9, 10, 11], [], []⟩))))
def r53_0 : List PO := [⟨(some 6), (Op.assign (Operand.const (Value.bool false))), none⟩]
attribute [go_sem] r53_0
def r53_1 : List PO := [⟨(some 9), (Op.move (Operand.tmp 2)), none⟩,
  ⟨(some 10), (Op.call { callee := (Callee.builtin Builtin.len), args := #[(Operand.tmp 9)], argTypes := #[36] }), none⟩,
  ⟨(some 11), (Op.move (Operand.const (Value.int IntKind.i64 0))), none⟩]
attribute [go_sem] r53_1
def r53_7 : List PO := [⟨(some 46), (Op.move (Operand.tmp 2)), none⟩,
  ⟨(some 47), (Op.call { callee := (Callee.builtin Builtin.len), args := #[(Operand.tmp 46)], argTypes := #[36] }), none⟩,
  ⟨(some 48), (Op.call { callee := (Callee.value (Operand.func 39)), args := #[(Operand.tmp 47), (Operand.const (Value.int IntKind.i64 2)), (Operand.const (Value.int IntKind.i64 6))], argTypes := #[3, 3, 3] }), none⟩,
  ⟨(some 6), (Op.assign (Operand.tmp 48)), none⟩]
attribute [go_sem] r53_7
def c53 : PC := (.seq (.reg r53_0) (.seq (.seq (.reg r53_1) (.block 0 (.pre ⟨[0, 1, 2, 9, 10, 11], [], []⟩ (.loop k53_1b)))) (.seq (.reg r53_7) .ret)))
def i53 : FnI := ⟨49, [(ResultVar.tmp 6)], c53, 0, [[0], [3], [1]], [[0]], false, false, 0⟩
-- loop.example/g00344/spec.l11Free
def r54_6 : List PO := [⟨(some 25), (Op.move (Operand.tmp 5)), none⟩,
  ⟨(some 26), (Op.move (Operand.tmp 25)), none⟩,
  ⟨(some 27), (Op.move (Operand.tmp 7)), (some (26, true))⟩,
  ⟨(some 28), (Op.binOp BinOp.neq 3 (Operand.tmp 27) (Operand.const (Value.int IntKind.i64 1)) 3), (some (26, true))⟩,
  ⟨(some 29), (Op.pick (Operand.tmp 26) (Operand.tmp 28) (Operand.const (Value.bool false))), none⟩]
attribute [go_sem] r54_6
def k54_4 : PC := (.post (.reg r54_6) ⟨[0, 1, 5, 6, 7, 29], [], []⟩)
def r54_8 : List PO := [⟨(some 30), (Op.move (Operand.tmp 5)), none⟩,
  ⟨(some 31), (Op.move (Operand.tmp 30)), none⟩,
  ⟨(some 32), (Op.move (Operand.tmp 7)), (some (31, false))⟩,
  ⟨(some 33), (Op.binOp BinOp.neq 3 (Operand.tmp 32) (Operand.const (Value.int IntKind.i64 3)) 3), (some (31, false))⟩,
  ⟨(some 34), (Op.pick (Operand.tmp 31) (Operand.const (Value.bool true)) (Operand.tmp 33)), none⟩,
  ⟨(some 5), (Op.assign (Operand.tmp 34)), none⟩]
attribute [go_sem] r54_8
def k54_5 : PC := (.post (.reg r54_8) ⟨[0, 1, 5, 6], [], []⟩)
def r54_3 : List PO := [⟨(some 8), (Op.move (Operand.tmp 6)), none⟩,
  ⟨(some 9), (Op.move (Operand.tmp 1)), none⟩,
  ⟨(some 10), (Op.call { callee := (Callee.builtin Builtin.len), args := #[(Operand.tmp 9)], argTypes := #[36] }), none⟩,
  ⟨(some 11), (Op.binOp BinOp.lss 3 (Operand.tmp 8) (Operand.tmp 10) 3), none⟩]
attribute [go_sem] r54_3
def r54_5 : List PO := [⟨(some 14), (Op.move (Operand.tmp 0)), none⟩,
  ⟨(some 15), (Op.move (Operand.tmp 1)), none⟩,
  ⟨(some 16), (Op.move (Operand.tmp 6)), none⟩,
  ⟨(some 17), (Op.binOp BinOp.sub 3 (Operand.tmp 16) (Operand.const (Value.int IntKind.i64 1)) 3), none⟩,
  ⟨(some 18), (Op.indexAddr 36 (Operand.tmp 15) (Operand.tmp 17)), none⟩,
  ⟨(some 19), (Op.load 3 (Operand.tmp 18)), none⟩,
  ⟨(some 20), (Op.move (Operand.tmp 1)), none⟩,
  ⟨(some 21), (Op.move (Operand.tmp 6)), none⟩,
  ⟨(some 22), (Op.indexAddr 36 (Operand.tmp 20) (Operand.tmp 21)), none⟩,
  ⟨(some 23), (Op.load 3 (Operand.tmp 22)), none⟩,
  ⟨(some 24), (Op.call { callee := (Callee.value (Operand.func 45)), args := #[(Operand.tmp 14), (Operand.tmp 19), (Operand.tmp 23)], argTypes := #[25, 3, 3] }), none⟩,
  ⟨(some 7), (Op.assign (Operand.tmp 24)), none⟩]
attribute [go_sem] r54_5
def r54_7 : List PO := [⟨(some 4), (Op.assign (Operand.const (Value.bool false))), none⟩]
attribute [go_sem] r54_7
def r54_4 : List PO := [⟨(some 12), (Op.move (Operand.tmp 6)), none⟩,
  ⟨(some 13), (Op.binOp BinOp.add 3 (Operand.tmp 12) (Operand.const (Value.int IntKind.i64 1)) 3), none⟩,
  ⟨(some 6), (Op.assign (Operand.tmp 13)), none⟩]
attribute [go_sem] r54_4
def k54_1b : PC := (.seq (.seq (.reg r54_3) (.cond (Operand.tmp 11) .skip (.pre ⟨[], [], []⟩ (.exit 0)))) (.seq (.block 1 (.seq (.fz r54_5) (.seq (.seq (.pre ⟨[0, 1, 5, 6, 7], [], []⟩ k54_4) (.cond (Operand.tmp 29) (.seq (.reg r54_7) (.pre ⟨[4], [], []⟩ .ret)) .skip)) (.pre ⟨[0, 1, 5, 6, 7], [], []⟩ k54_5)))) (.post (.reg r54_4) ⟨[0, 1, 5, 6], [], []⟩)))
def r54_0 : List PO := [⟨(some 4), (Op.assign (Operand.const (Value.bool false))), none⟩]
attribute [go_sem] r54_0
def r54_1 : List PO := [⟨(some 5), (Op.assign (Operand.const (Value.bool false))), none⟩]
attribute [go_sem] r54_1
def r54_2 : List PO := [⟨(some 6), (Op.assign (Operand.const (Value.int IntKind.i64 1))), none⟩]
attribute [go_sem] r54_2
def r54_9 : List PO := [⟨(some 4), (Op.assign (Operand.const (Value.bool true))), none⟩]
attribute [go_sem] r54_9
def c54 : PC := (.seq (.reg r54_0) (.seq (.reg r54_1) (.seq (.seq (.reg r54_2) (.block 0 (.pre ⟨[0, 1, 5, 6], [], []⟩ (.loop k54_1b)))) (.seq (.reg r54_9) .ret))))
def i54 : FnI := ⟨35, [(ResultVar.tmp 4)], c54, 0, [[3], [1]], [[0]], false, false, 0⟩
-- loop.example/g00344/spec.IsValleyFree
def r22_1 : List PO := [⟨(some 8), (Op.move (Operand.tmp 0)), none⟩,
  ⟨(some 9), (Op.move (Operand.tmp 1)), none⟩,
  ⟨(some 10), (Op.call { callee := (Callee.value (Operand.func 12)), args := #[(Operand.tmp 8), (Operand.tmp 9)], argTypes := #[3, 25] }), none⟩,
  ⟨(some 11), (Op.unOp UnOp.not 4 (Operand.tmp 10)), none⟩,
  ⟨(some 12), (Op.move (Operand.tmp 11)), none⟩,
  ⟨(some 13), (Op.move (Operand.tmp 0)), (some (12, false))⟩,
  ⟨(some 14), (Op.move (Operand.tmp 1)), (some (12, false))⟩,
  ⟨(some 15), (Op.move (Operand.tmp 2)), (some (12, false))⟩,
  ⟨(some 16), (Op.call { callee := (Callee.value (Operand.func 53)), args := #[(Operand.tmp 13), (Operand.tmp 14), (Operand.tmp 15)], argTypes := #[3, 25, 36] }), (some (12, false))⟩,
  ⟨(some 17), (Op.unOp UnOp.not 4 (Operand.tmp 16)), (some (12, false))⟩,
  ⟨(some 18), (Op.pick (Operand.tmp 12) (Operand.const (Value.bool true)) (Operand.tmp 17)), none⟩]
attribute [go_sem] r22_1
def k22_1 : PC := (.post (.reg r22_1) ⟨[1, 2, 18], [], []⟩)
def r22_0 : List PO := [⟨(some 6), (Op.assign (Operand.const (Value.bool false))), none⟩,
  ⟨(some 7), (Op.assign (Operand.const (Value.bool false))), none⟩]
attribute [go_sem] r22_0
def r22_2 : List PO := [⟨(some 6), (Op.assign (Operand.const (Value.bool false))), none⟩,
  ⟨(some 7), (Op.assign (Operand.const (Value.bool false))), none⟩]
attribute [go_sem] r22_2
def r22_3 : List PO := [⟨(some 19), (Op.move (Operand.tmp 1)), none⟩,
  ⟨(some 20), (Op.move (Operand.tmp 2)), none⟩,
  ⟨(some 21), (Op.call { callee := (Callee.value (Operand.func 54)), args := #[(Operand.tmp 19), (Operand.tmp 20)], argTypes := #[25, 36] }), none⟩,
  ⟨(some 6), (Op.assign (Operand.tmp 21)), none⟩,
  ⟨(some 7), (Op.assign (Operand.const (Value.bool true))), none⟩]
attribute [go_sem] r22_3
def c22 : PC := (.seq (.reg r22_0) (.seq (.seq (.pre ⟨[0, 1, 2], [], []⟩ k22_1) (.cond (Operand.tmp 18) (.seq (.reg r22_2) .ret) .skip)) (.seq (.reg r22_3) .ret)))
def i22 : FnI := ⟨22, [(ResultVar.tmp 6), (ResultVar.tmp 7)], c22, 0, [[0], [3], [1]], [[0], [0]], false, false, 0⟩
-- loop.example/g00344/impl.MayTell
def r19_1 : List PO := [⟨(some 14), (Op.move (Operand.tmp 0)), none⟩,
  ⟨(some 15), (Op.move (Operand.tmp 1)), none⟩,
  ⟨(some 16), (Op.call { callee := (Callee.value (Operand.func 14)), args := #[(Operand.tmp 14), (Operand.tmp 15)], argTypes := #[3, 25] }), none⟩,
  ⟨(some 17), (Op.unOp UnOp.not 4 (Operand.tmp 16)), none⟩,
  ⟨(some 18), (Op.move (Operand.tmp 17)), none⟩,
  ⟨(some 19), (Op.move (Operand.tmp 3)), (some (18, false))⟩,
  ⟨(some 20), (Op.move (Operand.tmp 4)), (some (18, false))⟩,
  ⟨(some 21), (Op.binOp BinOp.eql 3 (Operand.tmp 19) (Operand.tmp 20) 3), (some (18, false))⟩,
  ⟨(some 22), (Op.pick (Operand.tmp 18) (Operand.const (Value.bool true)) (Operand.tmp 21)), none⟩]
attribute [go_sem] r19_1
def k19_1 : PC := (.post (.reg r19_1) ⟨[1, 2, 3, 4, 22], [], []⟩)
def r19_4 : List PO := [⟨(some 31), (Op.move (Operand.tmp 12)), none⟩,
  ⟨(some 32), (Op.binOp BinOp.eql 3 (Operand.tmp 31) (Operand.const (Value.int IntKind.i64 0)) 3), none⟩,
  ⟨(some 33), (Op.move (Operand.tmp 32)), none⟩,
  ⟨(some 34), (Op.move (Operand.tmp 13)), (some (33, false))⟩,
  ⟨(some 35), (Op.binOp BinOp.eql 3 (Operand.tmp 34) (Operand.const (Value.int IntKind.i64 0)) 3), (some (33, false))⟩,
  ⟨(some 36), (Op.pick (Operand.tmp 33) (Operand.const (Value.bool true)) (Operand.tmp 35)), none⟩]
attribute [go_sem] r19_4
def k19_2 : PC := (.post (.reg r19_4) ⟨[12, 13, 36], [], []⟩)
def r19_6 : List PO := [⟨(some 37), (Op.move (Operand.tmp 12)), none⟩,
  ⟨(some 38), (Op.binOp BinOp.eql 3 (Operand.tmp 37) (Operand.const (Value.int IntKind.i64 1)) 3), none⟩,
  ⟨(some 39), (Op.move (Operand.tmp 38)), none⟩,
  ⟨(some 40), (Op.move (Operand.tmp 13)), (some (39, false))⟩,
  ⟨(some 41), (Op.binOp BinOp.eql 3 (Operand.tmp 40) (Operand.const (Value.int IntKind.i64 1)) 3), (some (39, false))⟩,
  ⟨(some 42), (Op.pick (Operand.tmp 39) (Operand.const (Value.bool true)) (Operand.tmp 41)), none⟩,
  ⟨(some 10), (Op.assign (Operand.tmp 42)), none⟩,
  ⟨(some 11), (Op.assign (Operand.const (Value.bool true))), none⟩]
attribute [go_sem] r19_6
def k19_3 : PC := (.post (.reg r19_6) ⟨[10, 11], [], []⟩)
def r19_0 : List PO := [⟨(some 10), (Op.assign (Operand.const (Value.bool false))), none⟩,
  ⟨(some 11), (Op.assign (Operand.const (Value.bool false))), none⟩]
attribute [go_sem] r19_0
def r19_2 : List PO := [⟨(some 10), (Op.assign (Operand.const (Value.bool false))), none⟩,
  ⟨(some 11), (Op.assign (Operand.const (Value.bool false))), none⟩]
attribute [go_sem] r19_2
def r19_3 : List PO := [⟨(some 23), (Op.move (Operand.tmp 1)), none⟩,
  ⟨(some 24), (Op.move (Operand.tmp 2)), none⟩,
  ⟨(some 25), (Op.move (Operand.tmp 3)), none⟩,
  ⟨(some 26), (Op.call { callee := (Callee.value (Operand.func 46)), args := #[(Operand.tmp 23), (Operand.tmp 24), (Operand.tmp 25)], argTypes := #[25, 3, 3] }), none⟩,
  ⟨(some 27), (Op.move (Operand.tmp 1)), none⟩,
  ⟨(some 28), (Op.move (Operand.tmp 2)), none⟩,
  ⟨(some 29), (Op.move (Operand.tmp 4)), none⟩,
  ⟨(some 30), (Op.call { callee := (Callee.value (Operand.func 46)), args := #[(Operand.tmp 27), (Operand.tmp 28), (Operand.tmp 29)], argTypes := #[25, 3, 3] }), none⟩,
  ⟨(some 12), (Op.assign (Operand.tmp 26)), none⟩,
  ⟨(some 13), (Op.assign (Operand.tmp 30)), none⟩]
attribute [go_sem] r19_3
def r19_5 : List PO := [⟨(some 10), (Op.assign (Operand.const (Value.bool false))), none⟩,
  ⟨(some 11), (Op.assign (Operand.const (Value.bool false))), none⟩]
attribute [go_sem] r19_5
def c19 : PC := (.seq (.reg r19_0) (.seq (.seq (.pre ⟨[0, 1, 2, 3, 4], [], []⟩ k19_1) (.cond (Operand.tmp 22) (.seq (.reg r19_2) .ret) .skip)) (.seq (.reg r19_3) (.seq (.seq (.pre ⟨[12, 13], [], []⟩ k19_2) (.cond (Operand.tmp 36) (.seq (.reg r19_5) .ret) .skip)) (.seq (.pre ⟨[12, 13], [], []⟩ k19_3) .ret)))))
def i19 : FnI := ⟨43, [(ResultVar.tmp 10), (ResultVar.tmp 11)], c19, 0, [[0], [3], [0], [0], [0]], [[0], [0]], false, false, 0⟩
-- loop.example/g00344/spec.DrawKindTo
def r27_0 : List PO := [⟨(some 2), (Op.assign (Operand.const (Value.int IntKind.i64 0))), none⟩,
  ⟨(some 3), (Op.assign (Operand.const (Value.slice none 0 0))), none⟩,
  ⟨(some 4), (Op.assign (Operand.const (Value.int IntKind.i64 0))), none⟩,
  ⟨(some 5), (Op.assign (Operand.const (Value.int IntKind.i64 0))), none⟩]
attribute [go_sem] r27_0
def r27_1 : List PO := [⟨(some 9), (Op.move (Operand.tmp 0)), none⟩,
  ⟨(some 10), (Op.build 79 #[(0, (Operand.tmp 9))]), none⟩,
  ⟨(some 11), (Op.box 79 (Operand.tmp 10)), none⟩,
  ⟨(some 6), (Op.assign (Operand.tmp 11)), none⟩]
attribute [go_sem] r27_1
def r27_2 : List PO := [⟨(some 13), (Op.move (Operand.tmp 6)), none⟩,
  ⟨(some 14), (Op.call { callee := (Callee.value (Operand.func 57)), args := #[(Operand.tmp 13)], argTypes := #[76] }), none⟩,
  ⟨(some 12), (Op.move (Operand.tmp 14)), none⟩,
  ⟨(some 15), (Op.extract (Operand.tmp 12) 0), none⟩,
  ⟨(some 16), (Op.extract (Operand.tmp 12) 1), none⟩,
  ⟨(some 7), (Op.assign (Operand.tmp 15)), none⟩,
  ⟨(some 8), (Op.assign (Operand.tmp 16)), none⟩]
attribute [go_sem] r27_2
def r27_3 : List PO := [⟨(some 17), (Op.move (Operand.tmp 7)), none⟩,
  ⟨(some 18), (Op.move (Operand.tmp 8)), none⟩,
  ⟨(some 19), (Op.move (Operand.tmp 6)), none⟩,
  ⟨(some 20), (Op.call { callee := (Callee.value (Operand.func 58)), args := #[(Operand.tmp 19), (Operand.const (Value.int IntKind.i64 6))], argTypes := #[76, 3] }), none⟩,
  ⟨(some 21), (Op.move (Operand.tmp 6)), none⟩,
  ⟨(some 22), (Op.call { callee := (Callee.value (Operand.func 58)), args := #[(Operand.tmp 21), (Operand.const (Value.int IntKind.i64 6))], argTypes := #[76, 3] }), none⟩,
  ⟨(some 2), (Op.assign (Operand.tmp 17)), none⟩,
  ⟨(some 3), (Op.assign (Operand.tmp 18)), none⟩,
  ⟨(some 4), (Op.assign (Operand.tmp 20)), none⟩,
  ⟨(some 5), (Op.assign (Operand.tmp 22)), none⟩]
attribute [go_sem] r27_3
def c27 : PC := (.seq (.reg r27_0) (.seq (.reg r27_1) (.seq (.reg r27_2) (.seq (.reg r27_3) .ret))))
def i27 : FnI := ⟨23, [(ResultVar.tmp 2), (ResultVar.tmp 3), (ResultVar.tmp 4), (ResultVar.tmp 5)], c27, 0, [[1]], [[0], [3], [0], [0]], false, false, 0⟩
-- loop.example/g00344/impl.KindTo
def r17_0 : List PO := [⟨(some 8), (Op.assign (Operand.const (Value.int IntKind.i64 0))), none⟩,
  ⟨(some 9), (Op.assign (Operand.const (Value.bool false))), none⟩]
attribute [go_sem] r17_0
def r17_1 : List PO := [⟨(some 11), (Op.move (Operand.tmp 0)), none⟩,
  ⟨(some 12), (Op.move (Operand.tmp 1)), none⟩,
  ⟨(some 13), (Op.call { callee := (Callee.value (Operand.func 14)), args := #[(Operand.tmp 11), (Operand.tmp 12)], argTypes := #[3, 25] }), none⟩,
  ⟨(some 14), (Op.unOp UnOp.not 4 (Operand.tmp 13)), none⟩]
attribute [go_sem] r17_1
def r17_2 : List PO := [⟨(some 8), (Op.assign (Operand.const (Value.int IntKind.i64 0))), none⟩,
  ⟨(some 9), (Op.assign (Operand.const (Value.bool false))), none⟩]
attribute [go_sem] r17_2
def r17_3 : List PO := [⟨(some 15), (Op.move (Operand.tmp 1)), none⟩,
  ⟨(some 16), (Op.move (Operand.tmp 2)), none⟩,
  ⟨(some 17), (Op.move (Operand.tmp 3)), none⟩,
  ⟨(some 18), (Op.call { callee := (Callee.value (Operand.func 46)), args := #[(Operand.tmp 15), (Operand.tmp 16), (Operand.tmp 17)], argTypes := #[25, 3, 3] }), none⟩,
  ⟨(some 10), (Op.assign (Operand.tmp 18)), none⟩]
attribute [go_sem] r17_3
def r17_4 : List PO := [⟨(some 19), (Op.move (Operand.tmp 10)), none⟩,
  ⟨(some 20), (Op.move (Operand.tmp 10)), none⟩,
  ⟨(some 21), (Op.binOp BinOp.neq 3 (Operand.tmp 20) (Operand.const (Value.int IntKind.i64 0)) 3), none⟩,
  ⟨(some 8), (Op.assign (Operand.tmp 19)), none⟩,
  ⟨(some 9), (Op.assign (Operand.tmp 21)), none⟩]
attribute [go_sem] r17_4
def c17 : PC := (.seq (.reg r17_0) (.seq (.seq (.reg r17_1) (.cond (Operand.tmp 14) (.seq (.reg r17_2) .ret) .skip)) (.seq (.reg r17_3) (.seq (.reg r17_4) .ret))))
def i17 : FnI := ⟨22, [(ResultVar.tmp 8), (ResultVar.tmp 9)], c17, 0, [[0], [3], [0], [0]], [[0], [0]], false, false, 0⟩
-- loop.example/g00344/spec.KindTo
def r16_1 : List PO := [⟨(some 10), (Op.move (Operand.tmp 0)), none⟩,
  ⟨(some 11), (Op.move (Operand.tmp 1)), none⟩,
  ⟨(some 12), (Op.call { callee := (Callee.value (Operand.func 12)), args := #[(Operand.tmp 10), (Operand.tmp 11)], argTypes := #[3, 25] }), none⟩,
  ⟨(some 13), (Op.unOp UnOp.not 4 (Operand.tmp 12)), none⟩,
  ⟨(some 14), (Op.move (Operand.tmp 13)), none⟩,
  ⟨(some 15), (Op.move (Operand.tmp 1)), (some (14, false))⟩,
  ⟨(some 16), (Op.move (Operand.tmp 2)), (some (14, false))⟩,
  ⟨(some 17), (Op.move (Operand.tmp 3)), (some (14, false))⟩,
  ⟨(some 18), (Op.call { callee := (Callee.value (Operand.func 45)), args := #[(Operand.tmp 15), (Operand.tmp 16), (Operand.tmp 17)], argTypes := #[25, 3, 3] }), (some (14, false))⟩,
  ⟨(some 19), (Op.binOp BinOp.eql 3 (Operand.tmp 18) (Operand.const (Value.int IntKind.i64 0)) 3), (some (14, false))⟩,
  ⟨(some 20), (Op.pick (Operand.tmp 14) (Operand.const (Value.bool true)) (Operand.tmp 19)), none⟩]
attribute [go_sem] r16_1
def k16_1 : PC := (.post (.reg r16_1) ⟨[1, 2, 3, 20], [], []⟩)
def r16_0 : List PO := [⟨(some 8), (Op.assign (Operand.const (Value.int IntKind.i64 0))), none⟩,
  ⟨(some 9), (Op.assign (Operand.const (Value.bool false))), none⟩]
attribute [go_sem] r16_0
def r16_2 : List PO := [⟨(some 8), (Op.assign (Operand.const (Value.int IntKind.i64 0))), none⟩,
  ⟨(some 9), (Op.assign (Operand.const (Value.bool false))), none⟩]
attribute [go_sem] r16_2
def r16_3 : List PO := [⟨(some 21), (Op.move (Operand.tmp 1)), none⟩,
  ⟨(some 22), (Op.move (Operand.tmp 2)), none⟩,
  ⟨(some 23), (Op.move (Operand.tmp 3)), none⟩,
  ⟨(some 24), (Op.call { callee := (Callee.value (Operand.func 45)), args := #[(Operand.tmp 21), (Operand.tmp 22), (Operand.tmp 23)], argTypes := #[25, 3, 3] }), none⟩,
  ⟨(some 8), (Op.assign (Operand.tmp 24)), none⟩,
  ⟨(some 9), (Op.assign (Operand.const (Value.bool true))), none⟩]
attribute [go_sem] r16_3
def c16 : PC := (.seq (.reg r16_0) (.seq (.seq (.pre ⟨[0, 1, 2, 3], [], []⟩ k16_1) (.cond (Operand.tmp 20) (.seq (.reg r16_2) .ret) .skip)) (.seq (.reg r16_3) .ret)))
def i16 : FnI := ⟨25, [(ResultVar.tmp 8), (ResultVar.tmp 9)], c16, 0, [[0], [3], [0], [0]], [[0], [0]], false, false, 0⟩
-- loop.example/g00344/spec.DrawMayTell
def r28_0 : List PO := [⟨(some 2), (Op.assign (Operand.const (Value.int IntKind.i64 0))), none⟩,
  ⟨(some 3), (Op.assign (Operand.const (Value.slice none 0 0))), none⟩,
  ⟨(some 4), (Op.assign (Operand.const (Value.int IntKind.i64 0))), none⟩,
  ⟨(some 5), (Op.assign (Operand.const (Value.int IntKind.i64 0))), none⟩,
  ⟨(some 6), (Op.assign (Operand.const (Value.int IntKind.i64 0))), none⟩]
attribute [go_sem] r28_0
def r28_1 : List PO := [⟨(some 10), (Op.move (Operand.tmp 0)), none⟩,
  ⟨(some 11), (Op.build 79 #[(0, (Operand.tmp 10))]), none⟩,
  ⟨(some 12), (Op.box 79 (Operand.tmp 11)), none⟩,
  ⟨(some 7), (Op.assign (Operand.tmp 12)), none⟩]
attribute [go_sem] r28_1
def r28_2 : List PO := [⟨(some 14), (Op.move (Operand.tmp 7)), none⟩,
  ⟨(some 15), (Op.call { callee := (Callee.value (Operand.func 57)), args := #[(Operand.tmp 14)], argTypes := #[76] }), none⟩,
  ⟨(some 13), (Op.move (Operand.tmp 15)), none⟩,
  ⟨(some 16), (Op.extract (Operand.tmp 13) 0), none⟩,
  ⟨(some 17), (Op.extract (Operand.tmp 13) 1), none⟩,
  ⟨(some 8), (Op.assign (Operand.tmp 16)), none⟩,
  ⟨(some 9), (Op.assign (Operand.tmp 17)), none⟩]
attribute [go_sem] r28_2
def r28_3 : List PO := [⟨(some 18), (Op.move (Operand.tmp 8)), none⟩,
  ⟨(some 19), (Op.move (Operand.tmp 9)), none⟩,
  ⟨(some 20), (Op.move (Operand.tmp 7)), none⟩,
  ⟨(some 21), (Op.call { callee := (Callee.value (Operand.func 58)), args := #[(Operand.tmp 20), (Operand.const (Value.int IntKind.i64 5))], argTypes := #[76, 3] }), none⟩,
  ⟨(some 22), (Op.move (Operand.tmp 7)), none⟩,
  ⟨(some 23), (Op.call { callee := (Callee.value (Operand.func 58)), args := #[(Operand.tmp 22), (Operand.const (Value.int IntKind.i64 5))], argTypes := #[76, 3] }), none⟩,
  ⟨(some 24), (Op.move (Operand.tmp 7)), none⟩,
  ⟨(some 25), (Op.call { callee := (Callee.value (Operand.func 58)), args := #[(Operand.tmp 24), (Operand.const (Value.int IntKind.i64 5))], argTypes := #[76, 3] }), none⟩,
  ⟨(some 2), (Op.assign (Operand.tmp 18)), none⟩,
  ⟨(some 3), (Op.assign (Operand.tmp 19)), none⟩,
  ⟨(some 4), (Op.assign (Operand.tmp 21)), none⟩,
  ⟨(some 5), (Op.assign (Operand.tmp 23)), none⟩,
  ⟨(some 6), (Op.assign (Operand.tmp 25)), none⟩]
attribute [go_sem] r28_3
def c28 : PC := (.seq (.reg r28_0) (.seq (.reg r28_1) (.seq (.reg r28_2) (.seq (.reg r28_3) .ret))))
def i28 : FnI := ⟨26, [(ResultVar.tmp 2), (ResultVar.tmp 3), (ResultVar.tmp 4), (ResultVar.tmp 5), (ResultVar.tmp 6)], c28, 0, [[1]], [[0], [3], [0], [0], [0]], false, false, 0⟩
-- loop.example/g00344/spec.MayTell
def r18_1 : List PO := [⟨(some 12), (Op.move (Operand.tmp 0)), none⟩,
  ⟨(some 13), (Op.move (Operand.tmp 1)), none⟩,
  ⟨(some 14), (Op.call { callee := (Callee.value (Operand.func 12)), args := #[(Operand.tmp 12), (Operand.tmp 13)], argTypes := #[3, 25] }), none⟩,
  ⟨(some 15), (Op.unOp UnOp.not 4 (Operand.tmp 14)), none⟩,
  ⟨(some 16), (Op.move (Operand.tmp 15)), none⟩,
  ⟨(some 17), (Op.move (Operand.tmp 2)), (some (16, false))⟩,
  ⟨(some 18), (Op.move (Operand.tmp 3)), (some (16, false))⟩,
  ⟨(some 19), (Op.binOp BinOp.eql 3 (Operand.tmp 17) (Operand.tmp 18) 3), (some (16, false))⟩,
  ⟨(some 20), (Op.pick (Operand.tmp 16) (Operand.const (Value.bool true)) (Operand.tmp 19)), none⟩,
  ⟨(some 21), (Op.move (Operand.tmp 20)), none⟩,
  ⟨(some 22), (Op.move (Operand.tmp 3)), (some (21, false))⟩,
  ⟨(some 23), (Op.move (Operand.tmp 4)), (some (21, false))⟩,
  ⟨(some 24), (Op.binOp BinOp.eql 3 (Operand.tmp 22) (Operand.tmp 23) 3), (some (21, false))⟩,
  ⟨(some 25), (Op.pick (Operand.tmp 21) (Operand.const (Value.bool true)) (Operand.tmp 24)), none⟩,
  ⟨(some 26), (Op.move (Operand.tmp 25)), none⟩,
  ⟨(some 27), (Op.move (Operand.tmp 2)), (some (26, false))⟩,
  ⟨(some 28), (Op.move (Operand.tmp 4)), (some (26, false))⟩,
  ⟨(some 29), (Op.binOp BinOp.eql 3 (Operand.tmp 27) (Operand.tmp 28) 3), (some (26, false))⟩,
  ⟨(some 30), (Op.pick (Operand.tmp 26) (Operand.const (Value.bool true)) (Operand.tmp 29)), none⟩,
  ⟨(some 31), (Op.move (Operand.tmp 30)), none⟩,
  ⟨(some 32), (Op.move (Operand.tmp 1)), (some (31, false))⟩,
  ⟨(some 33), (Op.move (Operand.tmp 2)), (some (31, false))⟩,
  ⟨(some 34), (Op.move (Operand.tmp 3)), (some (31, false))⟩,
  ⟨(some 35), (Op.call { callee := (Callee.value (Operand.func 45)), args := #[(Operand.tmp 32), (Operand.tmp 33), (Operand.tmp 34)], argTypes := #[25, 3, 3] }), (some (31, false))⟩,
  ⟨(some 36), (Op.binOp BinOp.eql 3 (Operand.tmp 35) (Operand.const (Value.int IntKind.i64 0)) 3), (some (31, false))⟩,
  ⟨(some 37), (Op.pick (Operand.tmp 31) (Operand.const (Value.bool true)) (Operand.tmp 36)), none⟩,
  ⟨(some 38), (Op.move (Operand.tmp 37)), none⟩,
  ⟨(some 39), (Op.move (Operand.tmp 1)), (some (38, false))⟩,
  ⟨(some 40), (Op.move (Operand.tmp 2)), (some (38, false))⟩,
  ⟨(some 41), (Op.move (Operand.tmp 4)), (some (38, false))⟩,
  ⟨(some 42), (Op.call { callee := (Callee.value (Operand.func 45)), args := #[(Operand.tmp 39), (Operand.tmp 40), (Operand.tmp 41)], argTypes := #[25, 3, 3] }), (some (38, false))⟩,
  ⟨(some 43), (Op.binOp BinOp.eql 3 (Operand.tmp 42) (Operand.const (Value.int IntKind.i64 0)) 3), (some (38, false))⟩,
  ⟨(some 44), (Op.pick (Operand.tmp 38) (Operand.const (Value.bool true)) (Operand.tmp 43)), none⟩]
attribute [go_sem] r18_1
def k18_1 : PC := (.post (.reg r18_1) ⟨[1, 2, 3, 4, 44], [], []⟩)
def r18_3 : List PO := [⟨(some 45), (Op.move (Operand.tmp 1)), none⟩,
  ⟨(some 46), (Op.move (Operand.tmp 2)), none⟩,
  ⟨(some 47), (Op.move (Operand.tmp 3)), none⟩,
  ⟨(some 48), (Op.call { callee := (Callee.value (Operand.func 45)), args := #[(Operand.tmp 45), (Operand.tmp 46), (Operand.tmp 47)], argTypes := #[25, 3, 3] }), none⟩,
  ⟨(some 49), (Op.binOp BinOp.eql 3 (Operand.tmp 48) (Operand.const (Value.int IntKind.i64 1)) 3), none⟩,
  ⟨(some 50), (Op.move (Operand.tmp 49)), none⟩,
  ⟨(some 51), (Op.move (Operand.tmp 1)), (some (50, false))⟩,
  ⟨(some 52), (Op.move (Operand.tmp 2)), (some (50, false))⟩,
  ⟨(some 53), (Op.move (Operand.tmp 4)), (some (50, false))⟩,
  ⟨(some 54), (Op.call { callee := (Callee.value (Operand.func 45)), args := #[(Operand.tmp 51), (Operand.tmp 52), (Operand.tmp 53)], argTypes := #[25, 3, 3] }), (some (50, false))⟩,
  ⟨(some 55), (Op.binOp BinOp.eql 3 (Operand.tmp 54) (Operand.const (Value.int IntKind.i64 1)) 3), (some (50, false))⟩,
  ⟨(some 56), (Op.pick (Operand.tmp 50) (Operand.const (Value.bool true)) (Operand.tmp 55)), none⟩,
  ⟨(some 10), (Op.assign (Operand.tmp 56)), none⟩,
  ⟨(some 11), (Op.assign (Operand.const (Value.bool true))), none⟩]
attribute [go_sem] r18_3
def k18_2 : PC := (.post (.reg r18_3) ⟨[10, 11], [], []⟩)
def r18_0 : List PO := [⟨(some 10), (Op.assign (Operand.const (Value.bool false))), none⟩,
  ⟨(some 11), (Op.assign (Operand.const (Value.bool false))), none⟩]
attribute [go_sem] r18_0
def r18_2 : List PO := [⟨(some 10), (Op.assign (Operand.const (Value.bool false))), none⟩,
  ⟨(some 11), (Op.assign (Operand.const (Value.bool false))), none⟩]
attribute [go_sem] r18_2
def c18 : PC := (.seq (.reg r18_0) (.seq (.seq (.pre ⟨[0, 1, 2, 3, 4], [], []⟩ k18_1) (.cond (Operand.tmp 44) (.seq (.reg r18_2) .ret) .skip)) (.seq (.pre ⟨[1, 2, 3, 4], [], []⟩ k18_2) .ret)))
def i18 : FnI := ⟨57, [(ResultVar.tmp 10), (ResultVar.tmp 11)], c18, 0, [[0], [3], [0], [0], [0]], [[0], [0]], false, false, 0⟩
-- loop.example/g00344/laws.FnValley
def r8_6 : List PO := [⟨(some 61), (Op.move (Operand.tmp 9)), none⟩,
  ⟨(some 62), (Op.move (Operand.tmp 11)), none⟩,
  ⟨(some 63), (Op.binOp BinOp.neq 4 (Operand.tmp 61) (Operand.tmp 62) 4), none⟩,
  ⟨(some 64), (Op.move (Operand.tmp 63)), none⟩,
  ⟨(some 65), (Op.move (Operand.tmp 8)), (some (64, false))⟩,
  ⟨(some 66), (Op.move (Operand.tmp 10)), (some (64, false))⟩,
  ⟨(some 67), (Op.binOp BinOp.neq 4 (Operand.tmp 65) (Operand.tmp 66) 4), (some (64, false))⟩,
  ⟨(some 68), (Op.pick (Operand.tmp 64) (Operand.const (Value.bool true)) (Operand.tmp 67)), none⟩]
attribute [go_sem] r8_6
def k8_1 : PC := (.post (.reg r8_6) ⟨[1, 5, 6, 7, 8, 9, 68], [.old 0, .old 1], []⟩)
def r8_16 : List PO := [⟨(some 99), (Op.move (Operand.tmp 12)), none⟩,
  ⟨(some 100), (Op.move (Operand.tmp 99)), none⟩,
  ⟨(some 101), (Op.move (Operand.tmp 14)), (some (100, true))⟩,
  ⟨(some 102), (Op.pick (Operand.tmp 100) (Operand.tmp 101) (Operand.const (Value.bool false))), none⟩,
  ⟨(some 12), (Op.assign (Operand.tmp 102)), none⟩]
attribute [go_sem] r8_16
def k8_5 : PC := (.post (.reg r8_16) ⟨[1, 5, 6, 7, 8, 12, 13], [.old 0, .old 1], []⟩)
def r8_11 : List PO := [⟨(some 70), (Op.move (Operand.tmp 13)), none⟩,
  ⟨(some 71), (Op.binOp BinOp.add 3 (Operand.tmp 70) (Operand.const (Value.int IntKind.i64 1)) 3), none⟩,
  ⟨(some 72), (Op.move (Operand.tmp 7)), none⟩,
  ⟨(some 73), (Op.call { callee := (Callee.builtin Builtin.len), args := #[(Operand.tmp 72)], argTypes := #[36] }), none⟩,
  ⟨(some 74), (Op.binOp BinOp.lss 3 (Operand.tmp 71) (Operand.tmp 73) 3), none⟩]
attribute [go_sem] r8_11
def r8_13 : List PO := [⟨(some 78), (Op.move (Operand.tmp 5)), none⟩,
  ⟨(some 79), (Op.move (Operand.tmp 6)), none⟩,
  ⟨(some 80), (Op.move (Operand.tmp 7)), none⟩,
  ⟨(some 81), (Op.move (Operand.tmp 13)), none⟩,
  ⟨(some 82), (Op.indexAddr 36 (Operand.tmp 80) (Operand.tmp 81)), none⟩,
  ⟨(some 83), (Op.load 3 (Operand.tmp 82)), none⟩,
  ⟨(some 84), (Op.move (Operand.tmp 7)), none⟩,
  ⟨(some 85), (Op.move (Operand.tmp 13)), none⟩,
  ⟨(some 86), (Op.binOp BinOp.sub 3 (Operand.tmp 85) (Operand.const (Value.int IntKind.i64 1)) 3), none⟩,
  ⟨(some 87), (Op.indexAddr 36 (Operand.tmp 84) (Operand.tmp 86)), none⟩,
  ⟨(some 88), (Op.load 3 (Operand.tmp 87)), none⟩,
  ⟨(some 89), (Op.move (Operand.tmp 7)), none⟩,
  ⟨(some 90), (Op.move (Operand.tmp 13)), none⟩,
  ⟨(some 91), (Op.binOp BinOp.add 3 (Operand.tmp 90) (Operand.const (Value.int IntKind.i64 1)) 3), none⟩,
  ⟨(some 92), (Op.indexAddr 36 (Operand.tmp 89) (Operand.tmp 91)), none⟩,
  ⟨(some 93), (Op.load 3 (Operand.tmp 92)), none⟩,
  ⟨(some 94), (Op.call { callee := (Callee.value (Operand.func 19)), args := #[(Operand.tmp 78), (Operand.tmp 79), (Operand.tmp 83), (Operand.tmp 88), (Operand.tmp 93)], argTypes := #[3, 25, 3, 3, 3] }), none⟩,
  ⟨(some 77), (Op.move (Operand.tmp 94)), none⟩,
  ⟨(some 95), (Op.extract (Operand.tmp 77) 0), none⟩,
  ⟨(some 96), (Op.extract (Operand.tmp 77) 1), none⟩,
  ⟨(some 14), (Op.assign (Operand.tmp 95)), none⟩,
  ⟨(some 15), (Op.assign (Operand.tmp 96)), none⟩]
attribute [go_sem] r8_13
def r8_14 : List PO := [⟨(some 97), (Op.move (Operand.tmp 15)), none⟩,
  ⟨(some 98), (Op.unOp UnOp.not 4 (Operand.tmp 97)), none⟩]
attribute [go_sem] r8_14
def r8_15 : List PO := [⟨(some 4), (Op.assign (Operand.const (Value.bool false))), none⟩]
attribute [go_sem] r8_15
def r8_12 : List PO := [⟨(some 75), (Op.move (Operand.tmp 13)), none⟩,
  ⟨(some 76), (Op.binOp BinOp.add 3 (Operand.tmp 75) (Operand.const (Value.int IntKind.i64 1)) 3), none⟩,
  ⟨(some 13), (Op.assign (Operand.tmp 76)), none⟩]
attribute [go_sem] r8_12
def k8_3b : PC := (.seq (.seq (.reg r8_11) (.cond (Operand.tmp 74) .skip (.pre ⟨[1, 8, 12], [], []⟩ (.exit 0)))) (.seq (.block 1 (.seq (.fz r8_13) (.seq (.seq (.reg r8_14) (.cond (Operand.tmp 98) (.seq (.reg r8_15) (.pre ⟨[4], [], []⟩ .ret)) .skip)) (.pre ⟨[1, 5, 6, 7, 8, 12, 13, 14], [.old 0, .old 1], []⟩ k8_5)))) (.post (.reg r8_12) ⟨[1, 5, 6, 7, 8, 12, 13], [.old 0, .old 1], []⟩)))
def r8_9 : List PO := [⟨(some 12), (Op.assign (Operand.const (Value.bool true))), none⟩]
attribute [go_sem] r8_9
def r8_10 : List PO := [⟨(some 13), (Op.assign (Operand.const (Value.int IntKind.i64 1))), none⟩]
attribute [go_sem] r8_10
def r8_17 : List PO := [⟨(some 103), (Op.move (Operand.tmp 12)), none⟩,
  ⟨(some 104), (Op.move (Operand.tmp 8)), none⟩,
  ⟨(some 105), (Op.binOp BinOp.neq 4 (Operand.tmp 103) (Operand.tmp 104) 4), none⟩]
attribute [go_sem] r8_17
def r8_18 : List PO := [⟨(some 4), (Op.assign (Operand.const (Value.bool false))), none⟩]
attribute [go_sem] r8_18
def k8_2 : PC := (.cond (Operand.tmp 69) (.seq (.reg r8_9) (.seq (.seq (.reg r8_10) (.block 0 (.pre ⟨[1, 5, 6, 7, 8, 12, 13], [.old 0, .old 1], []⟩ (.loop k8_3b)))) (.seq (.reg r8_17) (.cond (Operand.tmp 105) (.seq (.reg r8_18) (.pre ⟨[4], [], []⟩ .ret)) (.post .skip ⟨[1], [], []⟩))))) (.post .skip ⟨[1], [], []⟩))
def r8_22 : List PO := [⟨(some 129), (Op.move (Operand.tmp 21)), none⟩,
  ⟨(some 130), (Op.move (Operand.tmp 23)), none⟩,
  ⟨(some 131), (Op.binOp BinOp.neq 4 (Operand.tmp 129) (Operand.tmp 130) 4), none⟩,
  ⟨(some 132), (Op.move (Operand.tmp 131)), none⟩,
  ⟨(some 133), (Op.move (Operand.tmp 20)), (some (132, false))⟩,
  ⟨(some 134), (Op.move (Operand.tmp 22)), (some (132, false))⟩,
  ⟨(some 135), (Op.binOp BinOp.neq 3 (Operand.tmp 133) (Operand.tmp 134) 3), (some (132, false))⟩,
  ⟨(some 136), (Op.pick (Operand.tmp 132) (Operand.const (Value.bool true)) (Operand.tmp 135)), none⟩]
attribute [go_sem] r8_22
def k8_6 : PC := (.post (.reg r8_22) ⟨[1, 16, 17, 18, 19, 20, 21, 136], [.old 0], []⟩)
def r8_26 : List PO := [⟨(some 146), (Op.move (Operand.tmp 25)), none⟩,
  ⟨(some 147), (Op.unOp UnOp.not 4 (Operand.tmp 146)), none⟩,
  ⟨(some 148), (Op.move (Operand.tmp 147)), none⟩,
  ⟨(some 149), (Op.move (Operand.tmp 24)), (some (148, false))⟩,
  ⟨(some 150), (Op.move (Operand.tmp 20)), (some (148, false))⟩,
  ⟨(some 151), (Op.binOp BinOp.add 3 (Operand.tmp 149) (Operand.tmp 150) 3), (some (148, false))⟩,
  ⟨(some 152), (Op.binOp BinOp.neq 3 (Operand.tmp 151) (Operand.const (Value.int IntKind.i64 4)) 3), (some (148, false))⟩,
  ⟨(some 153), (Op.pick (Operand.tmp 148) (Operand.const (Value.bool true)) (Operand.tmp 152)), none⟩]
attribute [go_sem] r8_26
def k8_8 : PC := (.post (.reg r8_26) ⟨[1, 153], [], []⟩)
def r8_25 : List PO := [⟨(some 139), (Op.move (Operand.tmp 16)), none⟩,
  ⟨(some 140), (Op.move (Operand.tmp 17)), none⟩,
  ⟨(some 141), (Op.move (Operand.tmp 19)), none⟩,
  ⟨(some 142), (Op.move (Operand.tmp 18)), none⟩,
  ⟨(some 143), (Op.call { callee := (Callee.value (Operand.func 17)), args := #[(Operand.tmp 139), (Operand.tmp 140), (Operand.tmp 141), (Operand.tmp 142)], argTypes := #[3, 25, 3, 3] }), none⟩,
  ⟨(some 138), (Op.move (Operand.tmp 143)), none⟩,
  ⟨(some 144), (Op.extract (Operand.tmp 138) 0), none⟩,
  ⟨(some 145), (Op.extract (Operand.tmp 138) 1), none⟩,
  ⟨(some 24), (Op.assign (Operand.tmp 144)), none⟩,
  ⟨(some 25), (Op.assign (Operand.tmp 145)), none⟩]
attribute [go_sem] r8_25
def r8_27 : List PO := [⟨(some 4), (Op.assign (Operand.const (Value.bool false))), none⟩]
attribute [go_sem] r8_27
def k8_7 : PC := (.cond (Operand.tmp 137) (.seq (.reg r8_25) (.seq (.pre ⟨[1, 20, 24, 25], [], []⟩ k8_8) (.cond (Operand.tmp 153) (.seq (.reg r8_27) (.pre ⟨[4], [], []⟩ .ret)) (.post .skip ⟨[1], [], []⟩)))) (.post .skip ⟨[1], [], []⟩))
def r8_31 : List PO := [⟨(some 180), (Op.move (Operand.tmp 32)), none⟩,
  ⟨(some 181), (Op.move (Operand.tmp 34)), none⟩,
  ⟨(some 182), (Op.binOp BinOp.eql 4 (Operand.tmp 180) (Operand.tmp 181) 4), none⟩,
  ⟨(some 183), (Op.move (Operand.tmp 182)), none⟩,
  ⟨(some 184), (Op.move (Operand.tmp 31)), (some (183, true))⟩,
  ⟨(some 185), (Op.move (Operand.tmp 33)), (some (183, true))⟩,
  ⟨(some 186), (Op.binOp BinOp.eql 4 (Operand.tmp 184) (Operand.tmp 185) 4), (some (183, true))⟩,
  ⟨(some 187), (Op.pick (Operand.tmp 183) (Operand.tmp 186) (Operand.const (Value.bool false))), none⟩,
  ⟨(some 4), (Op.assign (Operand.tmp 187)), none⟩]
attribute [go_sem] r8_31
def k8_9 : PC := (.post (.reg r8_31) ⟨[4], [], []⟩)
def r8_0 : List PO := [⟨(some 4), (Op.assign (Operand.const (Value.bool false))), none⟩]
attribute [go_sem] r8_0
def r8_1 : List PO := [⟨(some 35), (Op.move (Operand.tmp 0)), none⟩,
  ⟨(some 36), (Op.call { callee := (Callee.builtin Builtin.len), args := #[(Operand.tmp 35)], argTypes := #[41] }), none⟩,
  ⟨(some 37), (Op.move (Operand.tmp 1)), none⟩,
  ⟨(some 38), (Op.call { callee := (Callee.builtin Builtin.len), args := #[(Operand.tmp 37)], argTypes := #[41] }), none⟩,
  ⟨(some 39), (Op.binOp BinOp.add 3 (Operand.tmp 36) (Operand.tmp 38) 3), none⟩,
  ⟨(some 40), (Op.binOp BinOp.gtr 3 (Operand.tmp 39) (Operand.const (Value.int IntKind.i64 1048576)) 3), none⟩]
attribute [go_sem] r8_1
def r8_2 : List PO := [⟨(some 4), (Op.assign (Operand.const (Value.bool true))), none⟩]
attribute [go_sem] r8_2
def r8_3 : List PO := [⟨(some 42), (Op.move (Operand.tmp 0)), none⟩,
  ⟨(some 43), (Op.call { callee := (Callee.value (Operand.func 26)), args := #[(Operand.tmp 42)], argTypes := #[41] }), none⟩,
  ⟨(some 41), (Op.move (Operand.tmp 43)), none⟩,
  ⟨(some 44), (Op.extract (Operand.tmp 41) 0), none⟩,
  ⟨(some 45), (Op.extract (Operand.tmp 41) 1), none⟩,
  ⟨(some 46), (Op.extract (Operand.tmp 41) 2), none⟩,
  ⟨(some 5), (Op.assign (Operand.tmp 44)), none⟩,
  ⟨(some 6), (Op.assign (Operand.tmp 45)), none⟩,
  ⟨(some 7), (Op.assign (Operand.tmp 46)), none⟩]
attribute [go_sem] r8_3
def r8_4 : List PO := [⟨(some 48), (Op.move (Operand.tmp 5)), none⟩,
  ⟨(some 49), (Op.move (Operand.tmp 6)), none⟩,
  ⟨(some 50), (Op.move (Operand.tmp 7)), none⟩,
  ⟨(some 51), (Op.call { callee := (Callee.value (Operand.func 24)), args := #[(Operand.tmp 48), (Operand.tmp 49), (Operand.tmp 50)], argTypes := #[3, 25, 36] }), none⟩,
  ⟨(some 47), (Op.move (Operand.tmp 51)), none⟩,
  ⟨(some 52), (Op.extract (Operand.tmp 47) 0), none⟩,
  ⟨(some 53), (Op.extract (Operand.tmp 47) 1), none⟩,
  ⟨(some 8), (Op.assign (Operand.tmp 52)), none⟩,
  ⟨(some 9), (Op.assign (Operand.tmp 53)), none⟩]
attribute [go_sem] r8_4
def r8_5 : List PO := [⟨(some 55), (Op.move (Operand.tmp 5)), none⟩,
  ⟨(some 56), (Op.move (Operand.tmp 6)), none⟩,
  ⟨(some 57), (Op.move (Operand.tmp 7)), none⟩,
  ⟨(some 58), (Op.call { callee := (Callee.value (Operand.func 22)), args := #[(Operand.tmp 55), (Operand.tmp 56), (Operand.tmp 57)], argTypes := #[3, 25, 36] }), none⟩,
  ⟨(some 54), (Op.move (Operand.tmp 58)), none⟩,
  ⟨(some 59), (Op.extract (Operand.tmp 54) 0), none⟩,
  ⟨(some 60), (Op.extract (Operand.tmp 54) 1), none⟩,
  ⟨(some 10), (Op.assign (Operand.tmp 59)), none⟩,
  ⟨(some 11), (Op.assign (Operand.tmp 60)), none⟩]
attribute [go_sem] r8_5
def r8_7 : List PO := [⟨(some 4), (Op.assign (Operand.const (Value.bool false))), none⟩]
attribute [go_sem] r8_7
def r8_8 : List PO := [⟨(some 69), (Op.move (Operand.tmp 9)), none⟩]
attribute [go_sem] r8_8
def r8_19 : List PO := [⟨(some 107), (Op.move (Operand.tmp 1)), none⟩,
  ⟨(some 108), (Op.call { callee := (Callee.value (Operand.func 27)), args := #[(Operand.tmp 107)], argTypes := #[41] }), none⟩,
  ⟨(some 106), (Op.move (Operand.tmp 108)), none⟩,
  ⟨(some 109), (Op.extract (Operand.tmp 106) 0), none⟩,
  ⟨(some 110), (Op.extract (Operand.tmp 106) 1), none⟩,
  ⟨(some 111), (Op.extract (Operand.tmp 106) 2), none⟩,
  ⟨(some 112), (Op.extract (Operand.tmp 106) 3), none⟩,
  ⟨(some 16), (Op.assign (Operand.tmp 109)), none⟩,
  ⟨(some 17), (Op.assign (Operand.tmp 110)), none⟩,
  ⟨(some 18), (Op.assign (Operand.tmp 111)), none⟩,
  ⟨(some 19), (Op.assign (Operand.tmp 112)), none⟩]
attribute [go_sem] r8_19
def r8_20 : List PO := [⟨(some 114), (Op.move (Operand.tmp 16)), none⟩,
  ⟨(some 115), (Op.move (Operand.tmp 17)), none⟩,
  ⟨(some 116), (Op.move (Operand.tmp 18)), none⟩,
  ⟨(some 117), (Op.move (Operand.tmp 19)), none⟩,
  ⟨(some 118), (Op.call { callee := (Callee.value (Operand.func 17)), args := #[(Operand.tmp 114), (Operand.tmp 115), (Operand.tmp 116), (Operand.tmp 117)], argTypes := #[3, 25, 3, 3] }), none⟩,
  ⟨(some 113), (Op.move (Operand.tmp 118)), none⟩,
  ⟨(some 119), (Op.extract (Operand.tmp 113) 0), none⟩,
  ⟨(some 120), (Op.extract (Operand.tmp 113) 1), none⟩,
  ⟨(some 20), (Op.assign (Operand.tmp 119)), none⟩,
  ⟨(some 21), (Op.assign (Operand.tmp 120)), none⟩]
attribute [go_sem] r8_20
def r8_21 : List PO := [⟨(some 122), (Op.move (Operand.tmp 16)), none⟩,
  ⟨(some 123), (Op.move (Operand.tmp 17)), none⟩,
  ⟨(some 124), (Op.move (Operand.tmp 18)), none⟩,
  ⟨(some 125), (Op.move (Operand.tmp 19)), none⟩,
  ⟨(some 126), (Op.call { callee := (Callee.value (Operand.func 16)), args := #[(Operand.tmp 122), (Operand.tmp 123), (Operand.tmp 124), (Operand.tmp 125)], argTypes := #[3, 25, 3, 3] }), none⟩,
  ⟨(some 121), (Op.move (Operand.tmp 126)), none⟩,
  ⟨(some 127), (Op.extract (Operand.tmp 121) 0), none⟩,
  ⟨(some 128), (Op.extract (Operand.tmp 121) 1), none⟩,
  ⟨(some 22), (Op.assign (Operand.tmp 127)), none⟩,
  ⟨(some 23), (Op.assign (Operand.tmp 128)), none⟩]
attribute [go_sem] r8_21
def r8_23 : List PO := [⟨(some 4), (Op.assign (Operand.const (Value.bool false))), none⟩]
attribute [go_sem] r8_23
def r8_24 : List PO := [⟨(some 137), (Op.move (Operand.tmp 21)), none⟩]
attribute [go_sem] r8_24
def r8_28 : List PO := [⟨(some 155), (Op.move (Operand.tmp 1)), none⟩,
  ⟨(some 156), (Op.call { callee := (Callee.value (Operand.func 28)), args := #[(Operand.tmp 155)], argTypes := #[41] }), none⟩,
  ⟨(some 154), (Op.move (Operand.tmp 156)), none⟩,
  ⟨(some 157), (Op.extract (Operand.tmp 154) 0), none⟩,
  ⟨(some 158), (Op.extract (Operand.tmp 154) 1), none⟩,
  ⟨(some 159), (Op.extract (Operand.tmp 154) 2), none⟩,
  ⟨(some 160), (Op.extract (Operand.tmp 154) 3), none⟩,
  ⟨(some 161), (Op.extract (Operand.tmp 154) 4), none⟩,
  ⟨(some 26), (Op.assign (Operand.tmp 157)), none⟩,
  ⟨(some 27), (Op.assign (Operand.tmp 158)), none⟩,
  ⟨(some 28), (Op.assign (Operand.tmp 159)), none⟩,
  ⟨(some 29), (Op.assign (Operand.tmp 160)), none⟩,
  ⟨(some 30), (Op.assign (Operand.tmp 161)), none⟩]
attribute [go_sem] r8_28
def r8_29 : List PO := [⟨(some 163), (Op.move (Operand.tmp 26)), none⟩,
  ⟨(some 164), (Op.move (Operand.tmp 27)), none⟩,
  ⟨(some 165), (Op.move (Operand.tmp 28)), none⟩,
  ⟨(some 166), (Op.move (Operand.tmp 29)), none⟩,
  ⟨(some 167), (Op.move (Operand.tmp 30)), none⟩,
  ⟨(some 168), (Op.call { callee := (Callee.value (Operand.func 19)), args := #[(Operand.tmp 163), (Operand.tmp 164), (Operand.tmp 165), (Operand.tmp 166), (Operand.tmp 167)], argTypes := #[3, 25, 3, 3, 3] }), none⟩,
  ⟨(some 162), (Op.move (Operand.tmp 168)), none⟩,
  ⟨(some 169), (Op.extract (Operand.tmp 162) 0), none⟩,
  ⟨(some 170), (Op.extract (Operand.tmp 162) 1), none⟩,
  ⟨(some 31), (Op.assign (Operand.tmp 169)), none⟩,
  ⟨(some 32), (Op.assign (Operand.tmp 170)), none⟩]
attribute [go_sem] r8_29
def r8_30 : List PO := [⟨(some 172), (Op.move (Operand.tmp 26)), none⟩,
  ⟨(some 173), (Op.move (Operand.tmp 27)), none⟩,
  ⟨(some 174), (Op.move (Operand.tmp 28)), none⟩,
  ⟨(some 175), (Op.move (Operand.tmp 29)), none⟩,
  ⟨(some 176), (Op.move (Operand.tmp 30)), none⟩,
  ⟨(some 177), (Op.call { callee := (Callee.value (Operand.func 18)), args := #[(Operand.tmp 172), (Operand.tmp 173), (Operand.tmp 174), (Operand.tmp 175), (Operand.tmp 176)], argTypes := #[3, 25, 3, 3, 3] }), none⟩,
  ⟨(some 171), (Op.move (Operand.tmp 177)), none⟩,
  ⟨(some 178), (Op.extract (Operand.tmp 171) 0), none⟩,
  ⟨(some 179), (Op.extract (Operand.tmp 171) 1), none⟩,
  ⟨(some 33), (Op.assign (Operand.tmp 178)), none⟩,
  ⟨(some 34), (Op.assign (Operand.tmp 179)), none⟩]
attribute [go_sem] r8_30
def c8 : PC := (.seq (.reg r8_0) (.seq (.seq (.reg r8_1) (.cond (Operand.tmp 40) (.seq (.reg r8_2) .ret) .skip)) (.seq (.reg r8_3) (.seq (.reg r8_4) (.seq (.reg r8_5) (.seq (.seq (.pre ⟨[1, 5, 6, 7, 8, 9, 10, 11], [.old 0, .old 1], []⟩ k8_1) (.cond (Operand.tmp 68) (.seq (.reg r8_7) .ret) .skip)) (.seq (.seq (.reg r8_8) (.pre ⟨[1, 5, 6, 7, 8, 69], [.old 0, .old 1], []⟩ k8_2)) (.seq (.reg r8_19) (.seq (.reg r8_20) (.seq (.reg r8_21) (.seq (.seq (.pre ⟨[1, 16, 17, 18, 19, 20, 21, 22, 23], [.old 0], []⟩ k8_6) (.cond (Operand.tmp 136) (.seq (.reg r8_23) .ret) .skip)) (.seq (.seq (.reg r8_24) (.pre ⟨[1, 16, 17, 18, 19, 20, 137], [.old 0], []⟩ k8_7)) (.seq (.reg r8_28) (.seq (.reg r8_29) (.seq (.reg r8_30) (.seq (.pre ⟨[31, 32, 33, 34], [], []⟩ k8_9) .ret))))))))))))))))
def i8 : FnI := ⟨188, [(ResultVar.tmp 4)], c8, 0, [[1], [1]], [[0]], false, false, 0⟩
def tys : List (Nat × TyI) := [(3, ⟨1, 8, false, [.int .i64 0], [0], 0, [], .int .i64, false⟩),
  (4, ⟨1, 1, false, [.bool false], [0], 0, [], .bool, false⟩),
  (5, ⟨1, 1, false, [.int .u8 0], [0], 0, [], .int .u8, false⟩),
  (25, ⟨1, 24, false, [.nil], [3], 63, [], .other, false⟩),
  (36, ⟨1, 24, false, [.nil], [1], 3, [], .other, false⟩),
  (41, ⟨1, 24, false, [.nil], [1], 5, [], .other, false⟩),
  (63, ⟨3, 24, true, [.int .i64 0, .int .i64 0, .int .i64 0], [0, 0, 0], 0, [(0, 1, false), (1, 1, false), (2, 1, false)], .other, true⟩),
  (76, ⟨1, 8, false, [.nilp], [0], 0, [], .other, false⟩),
  (77, ⟨1, 8, false, [.int .u64 0], [0], 0, [], .int .u64, false⟩),
  (79, ⟨3, 40, true, [.nil, .int .i64 0, .int .u64 0], [1, 0, 0], 0, [(0, 1, false), (1, 1, false), (2, 1, false)], .other, false⟩),
  (108, ⟨1, 8, false, [.int .u64 0], [0], 0, [], .int .u64, false⟩)]
def fns : List (Nat × FnI) := [(8, i8), (12, i12), (14, i14), (16, i16), (17, i17), (18, i18), (19, i19), (22, i22), (24, i24), (26, i26), (27, i27), (28, i28), (39, i39), (41, i41), (42, i42), (43, i43), (45, i45), (46, i46), (47, i47), (53, i53), (54, i54), (55, i55), (56, i56), (57, i57), (58, i58), (59, i59), (70, i70), (72, i72), (73, i73)]
def T : Tab := mkTab tys fns
theorem ty3 : T.ty 3 = some ⟨1, 8, false, [.int .i64 0], [0], 0, [], .int .i64, false⟩ := rfl
theorem base3 : T.baseOf 3 = Bs.int .i64 := rfl
theorem ty4 : T.ty 4 = some ⟨1, 1, false, [.bool false], [0], 0, [], .bool, false⟩ := rfl
theorem base4 : T.baseOf 4 = Bs.bool := rfl
theorem ty5 : T.ty 5 = some ⟨1, 1, false, [.int .u8 0], [0], 0, [], .int .u8, false⟩ := rfl
theorem base5 : T.baseOf 5 = Bs.int .u8 := rfl
theorem ty25 : T.ty 25 = some ⟨1, 24, false, [.nil], [3], 63, [], .other, false⟩ := rfl
theorem base25 : T.baseOf 25 = Bs.other := rfl
theorem elem25 : T.elemOf 25 = some ⟨3, 24, true, [.int .i64 0, .int .i64 0, .int .i64 0], [0, 0, 0], 0, [(0, 1, false), (1, 1, false), (2, 1, false)], .other, true⟩ := rfl
theorem ty36 : T.ty 36 = some ⟨1, 24, false, [.nil], [1], 3, [], .other, false⟩ := rfl
theorem base36 : T.baseOf 36 = Bs.other := rfl
theorem elem36 : T.elemOf 36 = some ⟨1, 8, false, [.int .i64 0], [0], 0, [], .int .i64, false⟩ := rfl
theorem ty41 : T.ty 41 = some ⟨1, 24, false, [.nil], [1], 5, [], .other, false⟩ := rfl
theorem base41 : T.baseOf 41 = Bs.other := rfl
theorem elem41 : T.elemOf 41 = some ⟨1, 1, false, [.int .u8 0], [0], 0, [], .int .u8, false⟩ := rfl
theorem ty63 : T.ty 63 = some ⟨3, 24, true, [.int .i64 0, .int .i64 0, .int .i64 0], [0, 0, 0], 0, [(0, 1, false), (1, 1, false), (2, 1, false)], .other, true⟩ := rfl
theorem base63 : T.baseOf 63 = Bs.other := rfl
theorem ty76 : T.ty 76 = some ⟨1, 8, false, [.nilp], [0], 0, [], .other, false⟩ := rfl
theorem base76 : T.baseOf 76 = Bs.other := rfl
theorem ty77 : T.ty 77 = some ⟨1, 8, false, [.int .u64 0], [0], 0, [], .int .u64, false⟩ := rfl
theorem base77 : T.baseOf 77 = Bs.int .u64 := rfl
theorem ty79 : T.ty 79 = some ⟨3, 40, true, [.nil, .int .i64 0, .int .u64 0], [1, 0, 0], 0, [(0, 1, false), (1, 1, false), (2, 1, false)], .other, false⟩ := rfl
theorem base79 : T.baseOf 79 = Bs.other := rfl
theorem ty108 : T.ty 108 = some ⟨1, 8, false, [.int .u64 0], [0], 0, [], .int .u64, false⟩ := rfl
theorem base108 : T.baseOf 108 = Bs.int .u64 := rfl
attribute [go_sem] ty3 base3 ty4 base4 ty5 base5 ty25 base25 elem25 ty36 base36 elem36 ty41 base41 elem41 ty63 base63 ty76 base76 ty77 base77 ty79 base79 ty108 base108
theorem ok8 : FnOk Try.prog (8, i8) := ⟨Try.f8, _, Try.func8, rfl, by kernel_rfl, rfl, rfl, by kernel_rfl⟩
theorem ok12 : FnOk Try.prog (12, i12) := ⟨Try.f12, _, Try.func12, rfl, by kernel_rfl, rfl, rfl, by kernel_rfl⟩
theorem ok14 : FnOk Try.prog (14, i14) := ⟨Try.f14, _, Try.func14, rfl, by kernel_rfl, rfl, rfl, by kernel_rfl⟩
theorem ok16 : FnOk Try.prog (16, i16) := ⟨Try.f16, _, Try.func16, rfl, by kernel_rfl, rfl, rfl, by kernel_rfl⟩
theorem ok17 : FnOk Try.prog (17, i17) := ⟨Try.f17, _, Try.func17, rfl, by kernel_rfl, rfl, rfl, by kernel_rfl⟩
theorem ok18 : FnOk Try.prog (18, i18) := ⟨Try.f18, _, Try.func18, rfl, by kernel_rfl, rfl, rfl, by kernel_rfl⟩
theorem ok19 : FnOk Try.prog (19, i19) := ⟨Try.f19, _, Try.func19, rfl, by kernel_rfl, rfl, rfl, by kernel_rfl⟩
theorem ok22 : FnOk Try.prog (22, i22) := ⟨Try.f22, _, Try.func22, rfl, by kernel_rfl, rfl, rfl, by kernel_rfl⟩
theorem ok24 : FnOk Try.prog (24, i24) := ⟨Try.f24, _, Try.func24, rfl, by kernel_rfl, rfl, rfl, by kernel_rfl⟩
theorem ok26 : FnOk Try.prog (26, i26) := ⟨Try.f26, _, Try.func26, rfl, by kernel_rfl, rfl, rfl, by kernel_rfl⟩
theorem ok27 : FnOk Try.prog (27, i27) := ⟨Try.f27, _, Try.func27, rfl, by kernel_rfl, rfl, rfl, by kernel_rfl⟩
theorem ok28 : FnOk Try.prog (28, i28) := ⟨Try.f28, _, Try.func28, rfl, by kernel_rfl, rfl, rfl, by kernel_rfl⟩
theorem ok39 : FnOk Try.prog (39, i39) := ⟨Try.f39, _, Try.func39, rfl, by kernel_rfl, rfl, rfl, by kernel_rfl⟩
theorem ok41 : FnOk Try.prog (41, i41) := ⟨Try.f41, _, Try.func41, rfl, by kernel_rfl, rfl, rfl, by kernel_rfl⟩
theorem ok42 : FnOk Try.prog (42, i42) := ⟨Try.f42, _, Try.func42, rfl, by kernel_rfl, rfl, rfl, by kernel_rfl⟩
theorem ok43 : FnOk Try.prog (43, i43) := ⟨Try.f43, _, Try.func43, rfl, by kernel_rfl, rfl, rfl, by kernel_rfl⟩
theorem ok45 : FnOk Try.prog (45, i45) := ⟨Try.f45, _, Try.func45, rfl, by kernel_rfl, rfl, rfl, by kernel_rfl⟩
theorem ok46 : FnOk Try.prog (46, i46) := ⟨Try.f46, _, Try.func46, rfl, by kernel_rfl, rfl, rfl, by kernel_rfl⟩
theorem ok47 : FnOk Try.prog (47, i47) := ⟨Try.f47, _, Try.func47, rfl, by kernel_rfl, rfl, rfl, by kernel_rfl⟩
theorem ok53 : FnOk Try.prog (53, i53) := ⟨Try.f53, _, Try.func53, rfl, by kernel_rfl, rfl, rfl, by kernel_rfl⟩
theorem ok54 : FnOk Try.prog (54, i54) := ⟨Try.f54, _, Try.func54, rfl, by kernel_rfl, rfl, rfl, by kernel_rfl⟩
theorem ok55 : FnOk Try.prog (55, i55) := ⟨Try.f55, _, Try.func55, rfl, by kernel_rfl, rfl, rfl, by kernel_rfl⟩
theorem ok56 : FnOk Try.prog (56, i56) := ⟨Try.f56, _, Try.func56, rfl, by kernel_rfl, rfl, rfl, by kernel_rfl⟩
theorem ok57 : FnOk Try.prog (57, i57) := ⟨Try.f57, _, Try.func57, rfl, by kernel_rfl, rfl, rfl, by kernel_rfl⟩
theorem ok58 : FnOk Try.prog (58, i58) := ⟨Try.f58, _, Try.func58, rfl, by kernel_rfl, rfl, rfl, by kernel_rfl⟩
theorem ok59 : FnOk Try.prog (59, i59) := ⟨Try.f59, _, Try.func59, rfl, by kernel_rfl, rfl, rfl, by kernel_rfl⟩
theorem ok70 : FnOk Try.prog (70, i70) := ⟨Try.f70, _, Try.func70, rfl, by kernel_rfl, rfl, rfl, by kernel_rfl⟩
theorem ok72 : FnOk Try.prog (72, i72) := ⟨Try.f72, _, Try.func72, rfl, by kernel_rfl, rfl, rfl, by kernel_rfl⟩
theorem ok73 : FnOk Try.prog (73, i73) := ⟨Try.f73, _, Try.func73, rfl, by kernel_rfl, rfl, rfl, by kernel_rfl⟩
theorem tab : TabOk Try.prog T := tabOk_of (by kernel_rfl) (.cons ok8 (.cons ok12 (.cons ok14 (.cons ok16 (.cons ok17 (.cons ok18 (.cons ok19 (.cons ok22 (.cons ok24 (.cons ok26 (.cons ok27 (.cons ok28 (.cons ok39 (.cons ok41 (.cons ok42 (.cons ok43 (.cons ok45 (.cons ok46 (.cons ok47 (.cons ok53 (.cons ok54 (.cons ok55 (.cons ok56 (.cons ok57 (.cons ok58 (.cons ok59 (.cons ok70 (.cons ok72 (.cons ok73 (.nil))))))))))))))))))))))))))))))
theorem fn8 : T.fn 8 = some i8 := rfl
theorem fn12 : T.fn 12 = some i12 := rfl
theorem fn14 : T.fn 14 = some i14 := rfl
theorem fn16 : T.fn 16 = some i16 := rfl
theorem fn17 : T.fn 17 = some i17 := rfl
theorem fn18 : T.fn 18 = some i18 := rfl
theorem fn19 : T.fn 19 = some i19 := rfl
theorem fn22 : T.fn 22 = some i22 := rfl
theorem fn24 : T.fn 24 = some i24 := rfl
theorem fn26 : T.fn 26 = some i26 := rfl
theorem fn27 : T.fn 27 = some i27 := rfl
theorem fn28 : T.fn 28 = some i28 := rfl
theorem fn39 : T.fn 39 = some i39 := rfl
theorem fn41 : T.fn 41 = some i41 := rfl
theorem fn42 : T.fn 42 = some i42 := rfl
theorem fn43 : T.fn 43 = some i43 := rfl
theorem fn45 : T.fn 45 = some i45 := rfl
theorem fn46 : T.fn 46 = some i46 := rfl
theorem fn47 : T.fn 47 = some i47 := rfl
theorem fn53 : T.fn 53 = some i53 := rfl
theorem fn54 : T.fn 54 = some i54 := rfl
theorem fn55 : T.fn 55 = some i55 := rfl
theorem fn56 : T.fn 56 = some i56 := rfl
theorem fn57 : T.fn 57 = some i57 := rfl
theorem fn58 : T.fn 58 = some i58 := rfl
theorem fn59 : T.fn 59 = some i59 := rfl
theorem fn70 : T.fn 70 = some i70 := rfl
theorem fn72 : T.fn 72 = some i72 := rfl
theorem fn73 : T.fn 73 = some i73 := rfl
end Go.Pi.Ytichbkallidkcaa.Valley
