/- What functions of the program answer, and that the law answers true at every input; no condition -/
import Derived.Test.YtlcanbihlfncoaaProg
import Derived.Test.YtlcanbihlfncoaaPiD
import Derived.Test.YtlcanbihlfncoaaPiC
set_option linter.all false
/- The program's tables for Pi: types and functions, as they stand in the loaded program, with hints. -/
namespace Go.Pi.Ytlcanbihlfncoaa.CompareOffers
open Go Go.Proofs Go.Pi
set_option maxRecDepth 100000

-- loop.example/g00344/laws.szIntS
def r78_0 : List PO := [⟨(some 4), (Op.assign (Operand.const (Value.int IntKind.i64 0))), none⟩]
attribute [go_sem] r78_0
def r78_1 : List PO := [⟨(some 5), (Op.move (Operand.tmp 1)), none⟩,
  ⟨(some 6), (Op.move (Operand.tmp 0)), none⟩,
  ⟨(some 7), (Op.call { callee := (Callee.builtin Builtin.len), args := #[(Operand.tmp 6)], argTypes := #[29] }), none⟩,
  ⟨(some 8), (Op.binOp BinOp.sub 3 (Operand.tmp 5) (Operand.tmp 7) 3), none⟩,
  ⟨(some 1), (Op.assign (Operand.tmp 8)), none⟩]
attribute [go_sem] r78_1
def r78_2 : List PO := [⟨(some 9), (Op.move (Operand.tmp 1)), none⟩,
  ⟨(some 10), (Op.binOp BinOp.lss 3 (Operand.tmp 9) (Operand.const (Value.int IntKind.i64 0)) 3), none⟩]
attribute [go_sem] r78_2
def r78_3 : List PO := [⟨(some 4), (Op.assign (Operand.const (Value.int IntKind.i64 (-1)))), none⟩]
attribute [go_sem] r78_3
def r78_4 : List PO := [⟨(some 11), (Op.move (Operand.tmp 1)), none⟩,
  ⟨(some 4), (Op.assign (Operand.tmp 11)), none⟩]
attribute [go_sem] r78_4
def c78 : PC := (.seq (.reg r78_0) (.seq (.reg r78_1) (.seq (.seq (.reg r78_2) (.cond (Operand.tmp 10) (.seq (.reg r78_3) .ret) .skip)) (.seq (.reg r78_4) .ret))))
def i78 : FnI := ⟨12, [(ResultVar.tmp 4)], c78, 0, [[1], [0]], [[0]], false, false, 0⟩
-- loop.example/g00344/laws.szAttrs
def r51_0 : List PO := [⟨(some 2), (Op.box 31 (Operand.tmp 0)), none⟩,
  ⟨(some 4), (Op.assign (Operand.const (Value.int IntKind.i64 0))), none⟩]
attribute [go_sem] r51_0
def r51_1 : List PO := [⟨(some 5), (Op.fieldAddr 31 (Operand.tmp 2) 1), none⟩,
  ⟨(some 6), (Op.load 29 (Operand.tmp 5)), none⟩,
  ⟨(some 7), (Op.move (Operand.tmp 1)), none⟩,
  ⟨(some 8), (Op.call { callee := (Callee.value (Operand.func 78)), args := #[(Operand.tmp 6), (Operand.tmp 7)], argTypes := #[29, 3] }), none⟩,
  ⟨(some 1), (Op.assign (Operand.tmp 8)), none⟩]
attribute [go_sem] r51_1
def r51_2 : List PO := [⟨(some 9), (Op.move (Operand.tmp 1)), none⟩,
  ⟨(some 10), (Op.binOp BinOp.lss 3 (Operand.tmp 9) (Operand.const (Value.int IntKind.i64 0)) 3), none⟩]
attribute [go_sem] r51_2
def r51_3 : List PO := [⟨(some 4), (Op.assign (Operand.const (Value.int IntKind.i64 (-1)))), none⟩]
attribute [go_sem] r51_3
def r51_4 : List PO := [⟨(some 11), (Op.fieldAddr 31 (Operand.tmp 2) 5), none⟩,
  ⟨(some 12), (Op.load 29 (Operand.tmp 11)), none⟩,
  ⟨(some 13), (Op.move (Operand.tmp 1)), none⟩,
  ⟨(some 14), (Op.call { callee := (Callee.value (Operand.func 78)), args := #[(Operand.tmp 12), (Operand.tmp 13)], argTypes := #[29, 3] }), none⟩,
  ⟨(some 1), (Op.assign (Operand.tmp 14)), none⟩]
attribute [go_sem] r51_4
def r51_5 : List PO := [⟨(some 15), (Op.move (Operand.tmp 1)), none⟩,
  ⟨(some 16), (Op.binOp BinOp.lss 3 (Operand.tmp 15) (Operand.const (Value.int IntKind.i64 0)) 3), none⟩]
attribute [go_sem] r51_5
def r51_6 : List PO := [⟨(some 4), (Op.assign (Operand.const (Value.int IntKind.i64 (-1)))), none⟩]
attribute [go_sem] r51_6
def r51_7 : List PO := [⟨(some 17), (Op.move (Operand.tmp 1)), none⟩,
  ⟨(some 4), (Op.assign (Operand.tmp 17)), none⟩]
attribute [go_sem] r51_7
def c51 : PC := (.seq (.reg r51_0) (.seq (.reg r51_1) (.seq (.seq (.reg r51_2) (.cond (Operand.tmp 10) (.seq (.reg r51_3) .ret) .skip)) (.seq (.reg r51_4) (.seq (.seq (.reg r51_5) (.cond (Operand.tmp 16) (.seq (.reg r51_6) .ret) .skip)) (.seq (.reg r51_7) .ret))))))
def i51 : FnI := ⟨18, [(ResultVar.tmp 4)], c51, 0, [[0, 1, 0, 0, 0, 1], [0]], [[0]], false, false, 0⟩
-- loop.example/g00344/laws.szOffer
def r17_0 : List PO := [⟨(some 2), (Op.box 33 (Operand.tmp 0)), none⟩,
  ⟨(some 4), (Op.assign (Operand.const (Value.int IntKind.i64 0))), none⟩]
attribute [go_sem] r17_0
def r17_1 : List PO := [⟨(some 5), (Op.fieldAddr 33 (Operand.tmp 2) 1), none⟩,
  ⟨(some 6), (Op.load 31 (Operand.tmp 5)), none⟩,
  ⟨(some 7), (Op.move (Operand.tmp 1)), none⟩,
  ⟨(some 8), (Op.call { callee := (Callee.value (Operand.func 51)), args := #[(Operand.tmp 6), (Operand.tmp 7)], argTypes := #[31, 3] }), none⟩,
  ⟨(some 1), (Op.assign (Operand.tmp 8)), none⟩]
attribute [go_sem] r17_1
def r17_2 : List PO := [⟨(some 9), (Op.move (Operand.tmp 1)), none⟩,
  ⟨(some 10), (Op.binOp BinOp.lss 3 (Operand.tmp 9) (Operand.const (Value.int IntKind.i64 0)) 3), none⟩]
attribute [go_sem] r17_2
def r17_3 : List PO := [⟨(some 4), (Op.assign (Operand.const (Value.int IntKind.i64 (-1)))), none⟩]
attribute [go_sem] r17_3
def r17_4 : List PO := [⟨(some 11), (Op.move (Operand.tmp 1)), none⟩,
  ⟨(some 4), (Op.assign (Operand.tmp 11)), none⟩]
attribute [go_sem] r17_4
def c17 : PC := (.seq (.reg r17_0) (.seq (.reg r17_1) (.seq (.seq (.reg r17_2) (.cond (Operand.tmp 10) (.seq (.reg r17_3) .ret) .skip)) (.seq (.reg r17_4) .ret))))
def i17 : FnI := ⟨12, [(ResultVar.tmp 4)], c17, 0, [[0, 0, 1, 0, 0, 0, 1], [0]], [[0]], false, false, 0⟩
-- loop.example/g00344/laws.toIntS
def r80_3 : List PO := [⟨(some 8), (Op.move (Operand.tmp 4)), none⟩,
  ⟨(some 9), (Op.move (Operand.tmp 0)), none⟩,
  ⟨(some 10), (Op.call { callee := (Callee.builtin Builtin.len), args := #[(Operand.tmp 9)], argTypes := #[29] }), none⟩,
  ⟨(some 11), (Op.binOp BinOp.lss 3 (Operand.tmp 8) (Operand.tmp 10) 3), none⟩]
attribute [go_sem] r80_3
def r80_5 : List PO := [⟨(some 14), (Op.move (Operand.tmp 3)), none⟩,
  ⟨(some 15), (Op.move (Operand.tmp 4)), none⟩,
  ⟨(some 16), (Op.move (Operand.tmp 0)), none⟩,
  ⟨(some 17), (Op.move (Operand.tmp 4)), none⟩,
  ⟨(some 18), (Op.indexAddr 29 (Operand.tmp 16) (Operand.tmp 17)), none⟩,
  ⟨(some 19), (Op.load 3 (Operand.tmp 18)), none⟩,
  ⟨(some 20), (Op.indexAddr 29 (Operand.tmp 14) (Operand.tmp 15)), none⟩,
  ⟨none, (Op.store 3 (Operand.tmp 20) (Operand.tmp 19)), none⟩]
attribute [go_sem] r80_5
def r80_4 : List PO := [⟨(some 12), (Op.move (Operand.tmp 4)), none⟩,
  ⟨(some 13), (Op.binOp BinOp.add 3 (Operand.tmp 12) (Operand.const (Value.int IntKind.i64 1)) 3), none⟩,
  ⟨(some 4), (Op.assign (Operand.tmp 13)), none⟩]
attribute [go_sem] r80_4
def k80_1b : PC := (.seq (.seq (.reg r80_3) (.cond (Operand.tmp 11) .skip (.pre ⟨[3], [.old 0]⟩ (.exit 0)))) (.seq (.block 1 (.reg r80_5)) (.post (.reg r80_4) ⟨[0, 3, 4], [.old 0]⟩)))
def r80_0 : List PO := [⟨(some 2), (Op.assign (Operand.const (Value.slice none 0 0))), none⟩]
attribute [go_sem] r80_0
def r80_1 : List PO := [⟨(some 5), (Op.move (Operand.tmp 0)), none⟩,
  ⟨(some 6), (Op.call { callee := (Callee.builtin Builtin.len), args := #[(Operand.tmp 5)], argTypes := #[29] }), none⟩,
  ⟨(some 7), (Op.makeSlice 29 (Operand.tmp 6) (Operand.tmp 6)), none⟩,
  ⟨(some 3), (Op.assign (Operand.tmp 7)), none⟩]
attribute [go_sem] r80_1
def r80_2 : List PO := [⟨(some 4), (Op.assign (Operand.const (Value.int IntKind.i64 0))), none⟩]
attribute [go_sem] r80_2
def r80_6 : List PO := [⟨(some 21), (Op.move (Operand.tmp 3)), none⟩,
  ⟨(some 2), (Op.assign (Operand.tmp 21)), none⟩]
attribute [go_sem] r80_6
def c80 : PC := (.seq (.reg r80_0) (.seq (.reg r80_1) (.seq (.seq (.reg r80_2) (.block 0 (.pre ⟨[0, 3, 4], [.old 0]⟩ (.loop k80_1b)))) (.seq (.reg r80_6) .ret))))
def i80 : FnI := ⟨22, [(ResultVar.tmp 2)], c80, 0, [[1]], [[1]], false, false, 0⟩
-- loop.example/g00344/laws.toAttrs
def r53_0 : List PO := [⟨(some 1), (Op.box 31 (Operand.tmp 0)), none⟩,
  ⟨(some 2), (Op.alloc 37), none⟩]
attribute [go_sem] r53_0
def r53_1 : List PO := [⟨(some 3), (Op.alloc 37), none⟩]
attribute [go_sem] r53_1
def r53_2 : List PO := [⟨(some 4), (Op.fieldAddr 31 (Operand.tmp 1) 0), none⟩,
  ⟨(some 5), (Op.load 3 (Operand.tmp 4)), none⟩,
  ⟨(some 6), (Op.fieldAddr 37 (Operand.tmp 3) 0), none⟩,
  ⟨none, (Op.store 3 (Operand.tmp 6) (Operand.tmp 5)), none⟩]
attribute [go_sem] r53_2
def r53_3 : List PO := [⟨(some 7), (Op.fieldAddr 31 (Operand.tmp 1) 1), none⟩,
  ⟨(some 8), (Op.load 29 (Operand.tmp 7)), none⟩,
  ⟨(some 9), (Op.call { callee := (Callee.value (Operand.func 80)), args := #[(Operand.tmp 8)], argTypes := #[29] }), none⟩,
  ⟨(some 10), (Op.fieldAddr 37 (Operand.tmp 3) 1), none⟩,
  ⟨none, (Op.store 29 (Operand.tmp 10) (Operand.tmp 9)), none⟩]
attribute [go_sem] r53_3
def r53_4 : List PO := [⟨(some 11), (Op.fieldAddr 31 (Operand.tmp 1) 2), none⟩,
  ⟨(some 12), (Op.load 3 (Operand.tmp 11)), none⟩,
  ⟨(some 13), (Op.fieldAddr 37 (Operand.tmp 3) 2), none⟩,
  ⟨none, (Op.store 3 (Operand.tmp 13) (Operand.tmp 12)), none⟩]
attribute [go_sem] r53_4
def r53_5 : List PO := [⟨(some 14), (Op.fieldAddr 31 (Operand.tmp 1) 3), none⟩,
  ⟨(some 15), (Op.load 3 (Operand.tmp 14)), none⟩,
  ⟨(some 16), (Op.fieldAddr 37 (Operand.tmp 3) 3), none⟩,
  ⟨none, (Op.store 3 (Operand.tmp 16) (Operand.tmp 15)), none⟩]
attribute [go_sem] r53_5
def r53_6 : List PO := [⟨(some 17), (Op.fieldAddr 31 (Operand.tmp 1) 4), none⟩,
  ⟨(some 18), (Op.load 3 (Operand.tmp 17)), none⟩,
  ⟨(some 19), (Op.fieldAddr 37 (Operand.tmp 3) 4), none⟩,
  ⟨none, (Op.store 3 (Operand.tmp 19) (Operand.tmp 18)), none⟩]
attribute [go_sem] r53_6
def r53_7 : List PO := [⟨(some 20), (Op.fieldAddr 31 (Operand.tmp 1) 5), none⟩,
  ⟨(some 21), (Op.load 29 (Operand.tmp 20)), none⟩,
  ⟨(some 22), (Op.call { callee := (Callee.value (Operand.func 80)), args := #[(Operand.tmp 21)], argTypes := #[29] }), none⟩,
  ⟨(some 23), (Op.fieldAddr 37 (Operand.tmp 3) 5), none⟩,
  ⟨none, (Op.store 29 (Operand.tmp 23) (Operand.tmp 22)), none⟩]
attribute [go_sem] r53_7
def r53_8 : List PO := [⟨(some 24), (Op.load 37 (Operand.tmp 3)), none⟩,
  ⟨none, (Op.store 37 (Operand.tmp 2) (Operand.tmp 24)), none⟩]
attribute [go_sem] r53_8
def c53 : PC := (.seq (.reg r53_0) (.seq (.reg r53_1) (.seq (.reg r53_2) (.seq (.reg r53_3) (.seq (.reg r53_4) (.seq (.reg r53_5) (.seq (.reg r53_6) (.seq (.reg r53_7) (.seq (.reg r53_8) .ret)))))))))
def i53 : FnI := ⟨25, [(ResultVar.cell 2 37)], c53, 0, [[0, 1, 0, 0, 0, 1]], [[0, 1, 0, 0, 0, 1]], false, false, 0⟩
-- loop.example/g00344/laws.toOffer
def r19_0 : List PO := [⟨(some 1), (Op.box 33 (Operand.tmp 0)), none⟩,
  ⟨(some 2), (Op.alloc 39), none⟩]
attribute [go_sem] r19_0
def r19_1 : List PO := [⟨(some 3), (Op.alloc 39), none⟩]
attribute [go_sem] r19_1
def r19_2 : List PO := [⟨(some 4), (Op.fieldAddr 33 (Operand.tmp 1) 0), none⟩,
  ⟨(some 5), (Op.load 3 (Operand.tmp 4)), none⟩,
  ⟨(some 6), (Op.fieldAddr 39 (Operand.tmp 3) 0), none⟩,
  ⟨none, (Op.store 3 (Operand.tmp 6) (Operand.tmp 5)), none⟩]
attribute [go_sem] r19_2
def r19_3 : List PO := [⟨(some 7), (Op.fieldAddr 33 (Operand.tmp 1) 1), none⟩,
  ⟨(some 8), (Op.load 31 (Operand.tmp 7)), none⟩,
  ⟨(some 9), (Op.call { callee := (Callee.value (Operand.func 53)), args := #[(Operand.tmp 8)], argTypes := #[31] }), none⟩,
  ⟨(some 10), (Op.fieldAddr 39 (Operand.tmp 3) 1), none⟩,
  ⟨none, (Op.store 37 (Operand.tmp 10) (Operand.tmp 9)), none⟩]
attribute [go_sem] r19_3
def r19_4 : List PO := [⟨(some 11), (Op.load 39 (Operand.tmp 3)), none⟩,
  ⟨none, (Op.store 39 (Operand.tmp 2) (Operand.tmp 11)), none⟩]
attribute [go_sem] r19_4
def c19 : PC := (.seq (.reg r19_0) (.seq (.reg r19_1) (.seq (.reg r19_2) (.seq (.reg r19_3) (.seq (.reg r19_4) .ret)))))
def i19 : FnI := ⟨12, [(ResultVar.cell 2 39)], c19, 0, [[0, 0, 1, 0, 0, 0, 1]], [[0, 0, 1, 0, 0, 0, 1]], false, false, 0⟩
-- loop.example/g00344/spec.l1In
def r48_1 : List PO := [⟨(some 7), (Op.move (Operand.tmp 0)), none⟩,
  ⟨(some 8), (Op.move (Operand.tmp 1)), none⟩,
  ⟨(some 9), (Op.binOp BinOp.geq 3 (Operand.tmp 7) (Operand.tmp 8) 3), none⟩,
  ⟨(some 10), (Op.move (Operand.tmp 9)), none⟩,
  ⟨(some 11), (Op.move (Operand.tmp 0)), (some (10, true))⟩,
  ⟨(some 12), (Op.move (Operand.tmp 2)), (some (10, true))⟩,
  ⟨(some 13), (Op.binOp BinOp.leq 3 (Operand.tmp 11) (Operand.tmp 12) 3), (some (10, true))⟩,
  ⟨(some 14), (Op.pick (Operand.tmp 10) (Operand.tmp 13) (Operand.const (Value.bool false))), none⟩,
  ⟨(some 6), (Op.assign (Operand.tmp 14)), none⟩]
attribute [go_sem] r48_1
def k48_1 : PC := (.post (.reg r48_1) ⟨[6], []⟩)
def r48_0 : List PO := [⟨(some 6), (Op.assign (Operand.const (Value.bool false))), none⟩]
attribute [go_sem] r48_0
def c48 : PC := (.seq (.reg r48_0) (.seq (.pre ⟨[0, 1, 2], []⟩ k48_1) .ret))
def i48 : FnI := ⟨15, [(ResultVar.tmp 6)], c48, 0, [[0], [0], [0]], [[0]], false, false, 0⟩
-- loop.example/g00344/spec.l1Addr
def r75_0 : List PO := [⟨(some 2), (Op.assign (Operand.const (Value.bool false))), none⟩]
attribute [go_sem] r75_0
def r75_1 : List PO := [⟨(some 3), (Op.move (Operand.tmp 0)), none⟩,
  ⟨(some 4), (Op.call { callee := (Callee.value (Operand.func 48)), args := #[(Operand.tmp 3), (Operand.const (Value.int IntKind.i64 0)), (Operand.const (Value.int IntKind.i64 4294967295))], argTypes := #[3, 3, 3] }), none⟩,
  ⟨(some 2), (Op.assign (Operand.tmp 4)), none⟩]
attribute [go_sem] r75_1
def c75 : PC := (.seq (.reg r75_0) (.seq (.reg r75_1) .ret))
def i75 : FnI := ⟨5, [(ResultVar.tmp 2)], c75, 0, [[0]], [[0]], false, false, 0⟩
-- loop.example/g00344/spec.GoodAttrs
def r49_2 : List PO := [⟨(some 11), (Op.binOp BinOp.lss 3 (Operand.tmp 10) (Operand.tmp 9) 3), none⟩]
attribute [go_sem] r49_2
def r49_3 : List PO := [⟨(some 12), (Op.indexAddr 29 (Operand.tmp 8) (Operand.tmp 10)), none⟩,
  ⟨(some 13), (Op.load 3 (Operand.tmp 12)), none⟩,
  ⟨(some 4), (Op.assign (Operand.tmp 13)), none⟩]
attribute [go_sem] r49_3
def r49_4 : List PO := [⟨(some 14), (Op.move (Operand.tmp 4)), none⟩,
  ⟨(some 15), (Op.call { callee := (Callee.value (Operand.func 48)), args := #[(Operand.tmp 14), (Operand.const (Value.int IntKind.i64 1)), (Operand.const (Value.int IntKind.i64 65535))], argTypes := #[3, 3, 3] }), none⟩,
  ⟨(some 16), (Op.unOp UnOp.not 4 (Operand.tmp 15)), none⟩]
attribute [go_sem] r49_4
def r49_5 : List PO := [⟨(some 2), (Op.assign (Operand.const (Value.bool false))), none⟩]
attribute [go_sem] r49_5
def r49_6 : List PO := [⟨(some 17), (Op.binOp BinOp.add 3 (Operand.tmp 10) (Operand.const (Value.int IntKind.i64 1)) 3), none⟩,
  ⟨(some 10), (Op.move (Operand.tmp 17)), none⟩]
attribute [go_sem] r49_6
def k49_1b : PC := (.seq (.reg r49_2) (.seq (.cond (Operand.tmp 11) .skip (.pre ⟨[1], [.old 0]⟩ (.exit 0))) (.seq (.block 1 (.seq (.reg r49_3) (.seq (.reg r49_4) (.cond (Operand.tmp 16) (.seq (.reg r49_5) (.pre ⟨[2], []⟩ .ret)) .skip)))) (.post (.reg r49_6) ⟨[1, 8, 9, 10], [.old 0]⟩))))
def r49_10 : List PO := [⟨(some 26), (Op.move (Operand.tmp 6)), none⟩,
  ⟨(some 27), (Op.call { callee := (Callee.value (Operand.func 48)), args := #[(Operand.tmp 26), (Operand.const (Value.int IntKind.i64 0)), (Operand.const (Value.int IntKind.i64 1000000))], argTypes := #[3, 3, 3] }), none⟩,
  ⟨(some 28), (Op.unOp UnOp.not 4 (Operand.tmp 27)), none⟩,
  ⟨(some 29), (Op.move (Operand.tmp 28)), none⟩,
  ⟨(some 30), (Op.move (Operand.tmp 5)), (some (29, false))⟩,
  ⟨(some 31), (Op.binOp BinOp.gtr 3 (Operand.tmp 30) (Operand.const (Value.int IntKind.i64 0)) 3), (some (29, false))⟩,
  ⟨(some 32), (Op.move (Operand.tmp 31)), (some (29, false))⟩,
  ⟨(some 33), (Op.fieldAddr 37 (Operand.tmp 1) 5), (some (32, true))⟩,
  ⟨(some 34), (Op.load 29 (Operand.tmp 33)), (some (32, true))⟩,
  ⟨(some 35), (Op.move (Operand.tmp 5)), (some (32, true))⟩,
  ⟨(some 36), (Op.binOp BinOp.sub 3 (Operand.tmp 35) (Operand.const (Value.int IntKind.i64 1)) 3), (some (32, true))⟩,
  ⟨(some 37), (Op.indexAddr 29 (Operand.tmp 34) (Operand.tmp 36)), (some (32, true))⟩,
  ⟨(some 38), (Op.load 3 (Operand.tmp 37)), (some (32, true))⟩,
  ⟨(some 39), (Op.move (Operand.tmp 6)), (some (32, true))⟩,
  ⟨(some 40), (Op.binOp BinOp.geq 3 (Operand.tmp 38) (Operand.tmp 39) 3), (some (32, true))⟩,
  ⟨(some 41), (Op.pick (Operand.tmp 32) (Operand.tmp 40) (Operand.const (Value.bool false))), (some (29, false))⟩,
  ⟨(some 42), (Op.pick (Operand.tmp 29) (Operand.const (Value.bool true)) (Operand.tmp 41)), none⟩]
attribute [go_sem] r49_10
def k49_4 : PC := (.post (.reg r49_10) ⟨[1, 19, 20, 21, 42], [.old 0]⟩)
def r49_8 : List PO := [⟨(some 22), (Op.binOp BinOp.lss 3 (Operand.tmp 21) (Operand.tmp 20) 3), none⟩]
attribute [go_sem] r49_8
def r49_9 : List PO := [⟨(some 23), (Op.move (Operand.tmp 21)), none⟩,
  ⟨(some 24), (Op.indexAddr 29 (Operand.tmp 19) (Operand.tmp 21)), none⟩,
  ⟨(some 25), (Op.load 3 (Operand.tmp 24)), none⟩,
  ⟨(some 5), (Op.assign (Operand.tmp 23)), none⟩,
  ⟨(some 6), (Op.assign (Operand.tmp 25)), none⟩]
attribute [go_sem] r49_9
def r49_11 : List PO := [⟨(some 2), (Op.assign (Operand.const (Value.bool false))), none⟩]
attribute [go_sem] r49_11
def r49_12 : List PO := [⟨(some 43), (Op.binOp BinOp.add 3 (Operand.tmp 21) (Operand.const (Value.int IntKind.i64 1)) 3), none⟩,
  ⟨(some 21), (Op.move (Operand.tmp 43)), none⟩]
attribute [go_sem] r49_12
def k49_2b : PC := (.seq (.reg r49_8) (.seq (.cond (Operand.tmp 22) .skip (.pre ⟨[1], [.old 0]⟩ (.exit 2))) (.seq (.block 3 (.seq (.reg r49_9) (.seq (.pre ⟨[1, 5, 6, 19, 20, 21], [.old 0]⟩ k49_4) (.cond (Operand.tmp 42) (.seq (.reg r49_11) (.pre ⟨[2], []⟩ .ret)) .skip)))) (.post (.reg r49_12) ⟨[1, 19, 20, 21], [.old 0]⟩))))
def r49_13 : List PO := [⟨(some 44), (Op.fieldAddr 37 (Operand.tmp 1) 0), none⟩,
  ⟨(some 45), (Op.load 3 (Operand.tmp 44)), none⟩,
  ⟨(some 46), (Op.call { callee := (Callee.value (Operand.func 48)), args := #[(Operand.tmp 45), (Operand.const (Value.int IntKind.i64 0)), (Operand.const (Value.int IntKind.i64 2))], argTypes := #[3, 3, 3] }), none⟩,
  ⟨(some 47), (Op.move (Operand.tmp 46)), none⟩,
  ⟨(some 48), (Op.fieldAddr 37 (Operand.tmp 1) 1), (some (47, true))⟩,
  ⟨(some 49), (Op.load 29 (Operand.tmp 48)), (some (47, true))⟩,
  ⟨(some 50), (Op.call { callee := (Callee.builtin Builtin.len), args := #[(Operand.tmp 49)], argTypes := #[29] }), (some (47, true))⟩,
  ⟨(some 51), (Op.binOp BinOp.leq 3 (Operand.tmp 50) (Operand.const (Value.int IntKind.i64 10)) 3), (some (47, true))⟩,
  ⟨(some 52), (Op.pick (Operand.tmp 47) (Operand.tmp 51) (Operand.const (Value.bool false))), none⟩,
  ⟨(some 53), (Op.move (Operand.tmp 52)), none⟩,
  ⟨(some 54), (Op.fieldAddr 37 (Operand.tmp 1) 2), (some (53, true))⟩,
  ⟨(some 55), (Op.load 3 (Operand.tmp 54)), (some (53, true))⟩,
  ⟨(some 56), (Op.call { callee := (Callee.value (Operand.func 75)), args := #[(Operand.tmp 55)], argTypes := #[3] }), (some (53, true))⟩,
  ⟨(some 57), (Op.pick (Operand.tmp 53) (Operand.tmp 56) (Operand.const (Value.bool false))), none⟩,
  ⟨(some 58), (Op.move (Operand.tmp 57)), none⟩,
  ⟨(some 59), (Op.fieldAddr 37 (Operand.tmp 1) 3), (some (58, true))⟩,
  ⟨(some 60), (Op.load 3 (Operand.tmp 59)), (some (58, true))⟩,
  ⟨(some 61), (Op.call { callee := (Callee.value (Operand.func 48)), args := #[(Operand.tmp 60), (Operand.const (Value.int IntKind.i64 0)), (Operand.const (Value.int IntKind.i64 1000000))], argTypes := #[3, 3, 3] }), (some (58, true))⟩,
  ⟨(some 62), (Op.pick (Operand.tmp 58) (Operand.tmp 61) (Operand.const (Value.bool false))), none⟩,
  ⟨(some 63), (Op.move (Operand.tmp 62)), none⟩,
  ⟨(some 64), (Op.fieldAddr 37 (Operand.tmp 1) 4), (some (63, true))⟩,
  ⟨(some 65), (Op.load 3 (Operand.tmp 64)), (some (63, true))⟩,
  ⟨(some 66), (Op.call { callee := (Callee.value (Operand.func 48)), args := #[(Operand.tmp 65), (Operand.const (Value.int IntKind.i64 0)), (Operand.const (Value.int IntKind.i64 1000000))], argTypes := #[3, 3, 3] }), (some (63, true))⟩,
  ⟨(some 67), (Op.pick (Operand.tmp 63) (Operand.tmp 66) (Operand.const (Value.bool false))), none⟩,
  ⟨(some 68), (Op.move (Operand.tmp 67)), none⟩,
  ⟨(some 69), (Op.fieldAddr 37 (Operand.tmp 1) 5), (some (68, true))⟩,
  ⟨(some 70), (Op.load 29 (Operand.tmp 69)), (some (68, true))⟩,
  ⟨(some 71), (Op.call { callee := (Callee.builtin Builtin.len), args := #[(Operand.tmp 70)], argTypes := #[29] }), (some (68, true))⟩,
  ⟨(some 72), (Op.binOp BinOp.leq 3 (Operand.tmp 71) (Operand.const (Value.int IntKind.i64 6)) 3), (some (68, true))⟩,
  ⟨(some 73), (Op.pick (Operand.tmp 68) (Operand.tmp 72) (Operand.const (Value.bool false))), none⟩,
  ⟨(some 2), (Op.assign (Operand.tmp 73)), none⟩]
attribute [go_sem] r49_13
def k49_5 : PC := (.post (.reg r49_13) ⟨[2], []⟩)
def r49_0 : List PO := [⟨(some 1), (Op.box 37 (Operand.tmp 0)), none⟩,
  ⟨(some 2), (Op.assign (Operand.const (Value.bool false))), none⟩]
attribute [go_sem] r49_0
def r49_1 : List PO := [⟨(some 7), (Op.fieldAddr 37 (Operand.tmp 1) 1), none⟩,
  ⟨(some 8), (Op.load 29 (Operand.tmp 7)), none⟩,
  ⟨(some 9), (Op.call { callee := (Callee.builtin Builtin.len), args := #[(Operand.tmp 8)], argTypes := #[29] }), none⟩,
  ⟨(some 10), (Op.move (Operand.const (Value.int IntKind.i64 0))), none⟩]
attribute [go_sem] r49_1
def r49_7 : List PO := [⟨(some 18), (Op.fieldAddr 37 (Operand.tmp 1) 5), none⟩,
  ⟨(some 19), (Op.load 29 (Operand.tmp 18)), none⟩,
  ⟨(some 20), (Op.call { callee := (Callee.builtin Builtin.len), args := #[(Operand.tmp 19)], argTypes := #[29] }), none⟩,
  ⟨(some 21), (Op.move (Operand.const (Value.int IntKind.i64 0))), none⟩]
attribute [go_sem] r49_7
def c49 : PC := (.seq (.reg r49_0) (.seq (.seq (.reg r49_1) (.block 0 (.pre ⟨[1, 8, 9, 10], [.old 0]⟩ (.loop k49_1b)))) (.seq (.seq (.reg r49_7) (.block 2 (.pre ⟨[1, 19, 20, 21], [.old 0]⟩ (.loop k49_2b)))) (.seq (.pre ⟨[1], [.old 0]⟩ k49_5) .ret))))
def i49 : FnI := ⟨74, [(ResultVar.tmp 2)], c49, 0, [[0, 1, 0, 0, 0, 1]], [[0]], false, false, 0⟩
-- loop.example/g00344/spec.GoodOffers
def r13_4 : List PO := [⟨(some 12), (Op.fieldAddr 39 (Operand.tmp 4) 0), none⟩,
  ⟨(some 13), (Op.load 3 (Operand.tmp 12)), none⟩,
  ⟨(some 14), (Op.call { callee := (Callee.value (Operand.func 48)), args := #[(Operand.tmp 13), (Operand.const (Value.int IntKind.i64 0)), (Operand.const (Value.int IntKind.i64 5))], argTypes := #[3, 3, 3] }), none⟩,
  ⟨(some 15), (Op.unOp UnOp.not 4 (Operand.tmp 14)), none⟩,
  ⟨(some 16), (Op.move (Operand.tmp 15)), none⟩,
  ⟨(some 17), (Op.fieldAddr 39 (Operand.tmp 4) 1), (some (16, false))⟩,
  ⟨(some 18), (Op.load 37 (Operand.tmp 17)), (some (16, false))⟩,
  ⟨(some 19), (Op.call { callee := (Callee.value (Operand.func 49)), args := #[(Operand.tmp 18)], argTypes := #[37] }), (some (16, false))⟩,
  ⟨(some 20), (Op.unOp UnOp.not 4 (Operand.tmp 19)), (some (16, false))⟩,
  ⟨(some 21), (Op.pick (Operand.tmp 16) (Operand.const (Value.bool true)) (Operand.tmp 20)), none⟩,
  ⟨(some 22), (Op.move (Operand.tmp 21)), none⟩,
  ⟨(some 23), (Op.move (Operand.tmp 3)), (some (22, false))⟩,
  ⟨(some 24), (Op.binOp BinOp.gtr 3 (Operand.tmp 23) (Operand.const (Value.int IntKind.i64 0)) 3), (some (22, false))⟩,
  ⟨(some 25), (Op.move (Operand.tmp 24)), (some (22, false))⟩,
  ⟨(some 26), (Op.move (Operand.tmp 0)), (some (25, true))⟩,
  ⟨(some 27), (Op.move (Operand.tmp 3)), (some (25, true))⟩,
  ⟨(some 28), (Op.binOp BinOp.sub 3 (Operand.tmp 27) (Operand.const (Value.int IntKind.i64 1)) 3), (some (25, true))⟩,
  ⟨(some 29), (Op.indexAddr 25 (Operand.tmp 26) (Operand.tmp 28)), (some (25, true))⟩,
  ⟨(some 30), (Op.fieldAddr 39 (Operand.tmp 29) 0), (some (25, true))⟩,
  ⟨(some 31), (Op.load 3 (Operand.tmp 30)), (some (25, true))⟩,
  ⟨(some 32), (Op.fieldAddr 39 (Operand.tmp 4) 0), (some (25, true))⟩,
  ⟨(some 33), (Op.load 3 (Operand.tmp 32)), (some (25, true))⟩,
  ⟨(some 34), (Op.binOp BinOp.geq 3 (Operand.tmp 31) (Operand.tmp 33) 3), (some (25, true))⟩,
  ⟨(some 35), (Op.pick (Operand.tmp 25) (Operand.tmp 34) (Operand.const (Value.bool false))), (some (22, false))⟩,
  ⟨(some 36), (Op.pick (Operand.tmp 22) (Operand.const (Value.bool true)) (Operand.tmp 35)), none⟩]
attribute [go_sem] r13_4
def k13_3 : PC := (.post (.fz r13_4) ⟨[0, 5, 6, 7, 36], []⟩)
def r13_2 : List PO := [⟨(some 8), (Op.binOp BinOp.lss 3 (Operand.tmp 7) (Operand.tmp 6) 3), none⟩]
attribute [go_sem] r13_2
def r13_3 : List PO := [⟨(some 9), (Op.move (Operand.tmp 7)), none⟩,
  ⟨(some 10), (Op.indexAddr 25 (Operand.tmp 5) (Operand.tmp 7)), none⟩,
  ⟨(some 11), (Op.load 39 (Operand.tmp 10)), none⟩,
  ⟨(some 4), (Op.alloc 39), none⟩,
  ⟨(some 3), (Op.assign (Operand.tmp 9)), none⟩,
  ⟨none, (Op.store 39 (Operand.tmp 4) (Operand.tmp 11)), none⟩]
attribute [go_sem] r13_3
def r13_5 : List PO := [⟨(some 2), (Op.assign (Operand.const (Value.bool false))), none⟩]
attribute [go_sem] r13_5
def r13_6 : List PO := [⟨(some 37), (Op.binOp BinOp.add 3 (Operand.tmp 7) (Operand.const (Value.int IntKind.i64 1)) 3), none⟩,
  ⟨(some 7), (Op.move (Operand.tmp 37)), none⟩]
attribute [go_sem] r13_6
def k13_1b : PC := (.seq (.reg r13_2) (.seq (.cond (Operand.tmp 8) .skip (.pre ⟨[], []⟩ (.exit 0))) (.seq (.block 1 (.seq (.reg r13_3) (.seq (.pre ⟨[0, 3, 4, 5, 6, 7], [.old 0]⟩ k13_3) (.cond (Operand.tmp 36) (.seq (.reg r13_5) (.pre ⟨[2], []⟩ .ret)) .skip)))) (.post (.reg r13_6) ⟨[0, 5, 6, 7], []⟩))))
def r13_0 : List PO := [⟨(some 2), (Op.assign (Operand.const (Value.bool false))), none⟩]
attribute [go_sem] r13_0
def r13_1 : List PO := [⟨(some 5), (Op.move (Operand.tmp 0)), none⟩,
  ⟨(some 6), (Op.call { callee := (Callee.builtin Builtin.len), args := #[(Operand.tmp 5)], argTypes := #[25] }), none⟩,
  ⟨(some 7), (Op.move (Operand.const (Value.int IntKind.i64 0))), none⟩]
attribute [go_sem] r13_1
def r13_7 : List PO := [⟨(some 2), (Op.assign (Operand.const (Value.bool true))), none⟩]
attribute [go_sem] r13_7
def c13 : PC := (.seq (.reg r13_0) (.seq (.seq (.reg r13_1) (.block 0 (.pre ⟨[0, 5, 6, 7], []⟩ (.loop k13_1b)))) (.seq (.reg r13_7) .ret)))
def i13 : FnI := ⟨38, [(ResultVar.tmp 2)], c13, 0, [[7]], [[0]], false, false, 0⟩
-- loop.example/g00344/spec.l8By
def r79_0 : List PO := [⟨(some 4), (Op.assign (Operand.const (Value.int IntKind.i64 0))), none⟩]
attribute [go_sem] r79_0
def r79_1 : List PO := [⟨(some 6), (Op.move (Operand.tmp 0)), none⟩,
  ⟨(some 7), (Op.move (Operand.tmp 1)), none⟩,
  ⟨(some 8), (Op.binOp BinOp.lss 3 (Operand.tmp 6) (Operand.tmp 7) 3), none⟩,
  ⟨(some 5), (Op.assign (Operand.tmp 8)), none⟩]
attribute [go_sem] r79_1
def r79_2 : List PO := [⟨(some 4), (Op.assign (Operand.const (Value.int IntKind.i64 (-1)))), none⟩]
attribute [go_sem] r79_2
def r79_3 : List PO := [⟨(some 10), (Op.move (Operand.tmp 0)), none⟩,
  ⟨(some 11), (Op.move (Operand.tmp 1)), none⟩,
  ⟨(some 12), (Op.binOp BinOp.gtr 3 (Operand.tmp 10) (Operand.tmp 11) 3), none⟩,
  ⟨(some 9), (Op.assign (Operand.tmp 12)), none⟩]
attribute [go_sem] r79_3
def r79_4 : List PO := [⟨(some 4), (Op.assign (Operand.const (Value.int IntKind.i64 1))), none⟩]
attribute [go_sem] r79_4
def r79_5 : List PO := [⟨(some 4), (Op.assign (Operand.const (Value.int IntKind.i64 0))), none⟩]
attribute [go_sem] r79_5
def c79 : PC := (.seq (.reg r79_0) (.seq (.block 0 (.seq (.reg r79_1) (.cond (Operand.tmp 5) (.seq (.reg r79_2) .ret) (.seq (.reg r79_3) (.cond (Operand.tmp 9) (.seq (.reg r79_4) .ret) .skip))))) (.seq (.reg r79_5) .ret)))
def i79 : FnI := ⟨13, [(ResultVar.tmp 4)], c79, 0, [[0], [0]], [[0]], false, false, 0⟩
-- loop.example/g00344/spec.l8Compare
def r52_4 : List PO := [⟨(some 52), (Op.binOp BinOp.lss 3 (Operand.tmp 51) (Operand.tmp 50) 3), none⟩]
attribute [go_sem] r52_4
def r52_5 : List PO := [⟨(some 53), (Op.indexAddr 29 (Operand.tmp 49) (Operand.tmp 51)), none⟩,
  ⟨(some 54), (Op.load 3 (Operand.tmp 53)), none⟩,
  ⟨(some 6), (Op.assign (Operand.tmp 54)), none⟩]
attribute [go_sem] r52_5
def r52_6 : List PO := [⟨(some 55), (Op.move (Operand.tmp 6)), none⟩,
  ⟨(some 56), (Op.binOp BinOp.neq 3 (Operand.tmp 55) (Operand.const (Value.int IntKind.i64 0)) 3), none⟩]
attribute [go_sem] r52_6
def r52_7 : List PO := [⟨(some 57), (Op.move (Operand.tmp 6)), none⟩,
  ⟨(some 4), (Op.assign (Operand.tmp 57)), none⟩]
attribute [go_sem] r52_7
def r52_8 : List PO := [⟨(some 58), (Op.binOp BinOp.add 3 (Operand.tmp 51) (Operand.const (Value.int IntKind.i64 1)) 3), none⟩,
  ⟨(some 51), (Op.move (Operand.tmp 58)), none⟩]
attribute [go_sem] r52_8
def k52_1b : PC := (.seq (.reg r52_4) (.seq (.cond (Operand.tmp 52) .skip (.pre ⟨[2, 3], [.old 0, .old 1]⟩ (.exit 0))) (.seq (.block 1 (.seq (.reg r52_5) (.seq (.reg r52_6) (.cond (Operand.tmp 56) (.seq (.reg r52_7) (.pre ⟨[4], []⟩ .ret)) .skip)))) (.post (.reg r52_8) ⟨[2, 3, 49, 50, 51], [.old 0, .old 1, .old 2]⟩))))
def r52_0 : List PO := [⟨(some 2), (Op.box 39 (Operand.tmp 0)), none⟩,
  ⟨(some 3), (Op.box 39 (Operand.tmp 1)), none⟩,
  ⟨(some 4), (Op.assign (Operand.const (Value.int IntKind.i64 0))), none⟩]
attribute [go_sem] r52_0
def r52_1 : List PO := [⟨(some 7), (Op.fieldAddr 39 (Operand.tmp 2) 0), none⟩,
  ⟨(some 8), (Op.load 3 (Operand.tmp 7)), none⟩,
  ⟨(some 9), (Op.fieldAddr 39 (Operand.tmp 3) 0), none⟩,
  ⟨(some 10), (Op.load 3 (Operand.tmp 9)), none⟩,
  ⟨(some 11), (Op.binOp BinOp.eql 3 (Operand.tmp 8) (Operand.tmp 10) 3), none⟩]
attribute [go_sem] r52_1
def r52_2 : List PO := [⟨(some 4), (Op.assign (Operand.const (Value.int IntKind.i64 0))), none⟩]
attribute [go_sem] r52_2
def r52_3 : List PO := [⟨(some 12), (Op.fieldAddr 39 (Operand.tmp 3) 1), none⟩,
  ⟨(some 13), (Op.fieldAddr 37 (Operand.tmp 12) 4), none⟩,
  ⟨(some 14), (Op.load 3 (Operand.tmp 13)), none⟩,
  ⟨(some 15), (Op.fieldAddr 39 (Operand.tmp 2) 1), none⟩,
  ⟨(some 16), (Op.fieldAddr 37 (Operand.tmp 15) 4), none⟩,
  ⟨(some 17), (Op.load 3 (Operand.tmp 16)), none⟩,
  ⟨(some 18), (Op.call { callee := (Callee.value (Operand.func 79)), args := #[(Operand.tmp 14), (Operand.tmp 17)], argTypes := #[3, 3] }), none⟩,
  ⟨(some 19), (Op.fieldAddr 39 (Operand.tmp 2) 1), none⟩,
  ⟨(some 20), (Op.fieldAddr 37 (Operand.tmp 19) 1), none⟩,
  ⟨(some 21), (Op.load 29 (Operand.tmp 20)), none⟩,
  ⟨(some 22), (Op.call { callee := (Callee.builtin Builtin.len), args := #[(Operand.tmp 21)], argTypes := #[29] }), none⟩,
  ⟨(some 23), (Op.fieldAddr 39 (Operand.tmp 3) 1), none⟩,
  ⟨(some 24), (Op.fieldAddr 37 (Operand.tmp 23) 1), none⟩,
  ⟨(some 25), (Op.load 29 (Operand.tmp 24)), none⟩,
  ⟨(some 26), (Op.call { callee := (Callee.builtin Builtin.len), args := #[(Operand.tmp 25)], argTypes := #[29] }), none⟩,
  ⟨(some 27), (Op.call { callee := (Callee.value (Operand.func 79)), args := #[(Operand.tmp 22), (Operand.tmp 26)], argTypes := #[3, 3] }), none⟩,
  ⟨(some 28), (Op.fieldAddr 39 (Operand.tmp 2) 1), none⟩,
  ⟨(some 29), (Op.fieldAddr 37 (Operand.tmp 28) 0), none⟩,
  ⟨(some 30), (Op.load 3 (Operand.tmp 29)), none⟩,
  ⟨(some 31), (Op.fieldAddr 39 (Operand.tmp 3) 1), none⟩,
  ⟨(some 32), (Op.fieldAddr 37 (Operand.tmp 31) 0), none⟩,
  ⟨(some 33), (Op.load 3 (Operand.tmp 32)), none⟩,
  ⟨(some 34), (Op.call { callee := (Callee.value (Operand.func 79)), args := #[(Operand.tmp 30), (Operand.tmp 33)], argTypes := #[3, 3] }), none⟩,
  ⟨(some 35), (Op.fieldAddr 39 (Operand.tmp 2) 1), none⟩,
  ⟨(some 36), (Op.fieldAddr 37 (Operand.tmp 35) 3), none⟩,
  ⟨(some 37), (Op.load 3 (Operand.tmp 36)), none⟩,
  ⟨(some 38), (Op.fieldAddr 39 (Operand.tmp 3) 1), none⟩,
  ⟨(some 39), (Op.fieldAddr 37 (Operand.tmp 38) 3), none⟩,
  ⟨(some 40), (Op.load 3 (Operand.tmp 39)), none⟩,
  ⟨(some 41), (Op.call { callee := (Callee.value (Operand.func 79)), args := #[(Operand.tmp 37), (Operand.tmp 40)], argTypes := #[3, 3] }), none⟩,
  ⟨(some 42), (Op.fieldAddr 39 (Operand.tmp 2) 1), none⟩,
  ⟨(some 43), (Op.fieldAddr 37 (Operand.tmp 42) 2), none⟩,
  ⟨(some 44), (Op.load 3 (Operand.tmp 43)), none⟩,
  ⟨(some 45), (Op.fieldAddr 39 (Operand.tmp 3) 1), none⟩,
  ⟨(some 46), (Op.fieldAddr 37 (Operand.tmp 45) 2), none⟩,
  ⟨(some 47), (Op.load 3 (Operand.tmp 46)), none⟩,
  ⟨(some 48), (Op.call { callee := (Callee.value (Operand.func 79)), args := #[(Operand.tmp 44), (Operand.tmp 47)], argTypes := #[3, 3] }), none⟩,
  ⟨(some 49), (Op.buildSlice 29 5 #[(0, (Operand.tmp 18)), (1, (Operand.tmp 27)), (2, (Operand.tmp 34)), (3, (Operand.tmp 41)), (4, (Operand.tmp 48))]), none⟩,
  ⟨(some 50), (Op.call { callee := (Callee.builtin Builtin.len), args := #[(Operand.tmp 49)], argTypes := #[29] }), none⟩,
  ⟨(some 51), (Op.move (Operand.const (Value.int IntKind.i64 0))), none⟩]
attribute [go_sem] r52_3
def x52_3 : FxI := ⟨[6, 15, 22, 29, 36, 37], [none, none, none, none, none, none, none, none, none, none, none, none, none, none, none, none, none, none, none, none, none, none, none, none, none, none, none, none, none, none, none, none, none, none, none, none, none, none, none, none], 0, [[], [6], [6, 15], [6, 15, 22], [6, 15, 22, 29], [6, 15, 22, 29, 36], [6, 15, 22, 29, 36, 37]], [], [(9, 0, 0), (10, 0, 0), (13, 0, 0), (14, 0, 0), (18, 0, 0), (18, 1, 1), (21, 0, 0), (21, 1, 1), (25, 0, 0), (25, 1, 1), (25, 2, 2), (28, 0, 0), (28, 1, 1), (28, 2, 2), (32, 0, 0), (32, 1, 1), (32, 2, 2), (32, 3, 3), (35, 0, 0), (35, 1, 1), (35, 2, 2), (35, 3, 3)]⟩
attribute [go_sem] x52_3
def r52_9 : List PO := [⟨(some 59), (Op.fieldAddr 39 (Operand.tmp 2) 0), none⟩,
  ⟨(some 60), (Op.load 3 (Operand.tmp 59)), none⟩,
  ⟨(some 61), (Op.fieldAddr 39 (Operand.tmp 3) 0), none⟩,
  ⟨(some 62), (Op.load 3 (Operand.tmp 61)), none⟩,
  ⟨(some 63), (Op.call { callee := (Callee.value (Operand.func 79)), args := #[(Operand.tmp 60), (Operand.tmp 62)], argTypes := #[3, 3] }), none⟩,
  ⟨(some 4), (Op.assign (Operand.tmp 63)), none⟩]
attribute [go_sem] r52_9
def c52 : PC := (.seq (.reg r52_0) (.seq (.seq (.reg r52_1) (.cond (Operand.tmp 11) (.seq (.reg r52_2) .ret) .skip)) (.seq (.seq (.fx r52_3 x52_3) (.block 0 (.pre ⟨[2, 3, 49, 50, 51], [.old 0, .old 1, .old 2]⟩ (.loop k52_1b)))) (.seq (.reg r52_9) .ret))))
def i52 : FnI := ⟨64, [(ResultVar.tmp 4)], c52, 0, [[0, 0, 1, 0, 0, 0, 1], [0, 0, 1, 0, 0, 0, 1]], [[0]], false, false, 0⟩
-- loop.example/g00344/spec.CompareOffers
def r18_1 : List PO := [⟨(some 6), (Op.load 39 (Operand.tmp 2)), none⟩,
  ⟨(some 7), (Op.buildSlice 25 1 #[(0, (Operand.tmp 6))]), none⟩,
  ⟨(some 8), (Op.call { callee := (Callee.value (Operand.func 13)), args := #[(Operand.tmp 7)], argTypes := #[25] }), none⟩,
  ⟨(some 9), (Op.unOp UnOp.not 4 (Operand.tmp 8)), none⟩,
  ⟨(some 10), (Op.move (Operand.tmp 9)), none⟩,
  ⟨(some 11), (Op.load 39 (Operand.tmp 3)), (some (10, false))⟩,
  ⟨(some 12), (Op.buildSlice 25 1 #[(0, (Operand.tmp 11))]), (some (10, false))⟩,
  ⟨(some 13), (Op.call { callee := (Callee.value (Operand.func 13)), args := #[(Operand.tmp 12)], argTypes := #[25] }), (some (10, false))⟩,
  ⟨(some 14), (Op.unOp UnOp.not 4 (Operand.tmp 13)), (some (10, false))⟩,
  ⟨(some 15), (Op.pick (Operand.tmp 10) (Operand.const (Value.bool true)) (Operand.tmp 14)), none⟩]
attribute [go_sem] r18_1
def k18_1 : PC := (.post (.reg r18_1) ⟨[2, 3, 15], [.old 0, .old 1]⟩)
def r18_0 : List PO := [⟨(some 2), (Op.box 39 (Operand.tmp 0)), none⟩,
  ⟨(some 3), (Op.box 39 (Operand.tmp 1)), none⟩,
  ⟨(some 4), (Op.assign (Operand.const (Value.int IntKind.i64 0))), none⟩,
  ⟨(some 5), (Op.assign (Operand.const (Value.bool false))), none⟩]
attribute [go_sem] r18_0
def r18_2 : List PO := [⟨(some 4), (Op.assign (Operand.const (Value.int IntKind.i64 0))), none⟩,
  ⟨(some 5), (Op.assign (Operand.const (Value.bool false))), none⟩]
attribute [go_sem] r18_2
def r18_3 : List PO := [⟨(some 16), (Op.load 39 (Operand.tmp 2)), none⟩,
  ⟨(some 17), (Op.load 39 (Operand.tmp 3)), none⟩,
  ⟨(some 18), (Op.call { callee := (Callee.value (Operand.func 52)), args := #[(Operand.tmp 16), (Operand.tmp 17)], argTypes := #[39, 39] }), none⟩,
  ⟨(some 4), (Op.assign (Operand.tmp 18)), none⟩,
  ⟨(some 5), (Op.assign (Operand.const (Value.bool true))), none⟩]
attribute [go_sem] r18_3
def c18 : PC := (.seq (.reg r18_0) (.seq (.seq (.pre ⟨[2, 3], [.old 0, .old 1]⟩ k18_1) (.cond (Operand.tmp 15) (.seq (.reg r18_2) .ret) .skip)) (.seq (.reg r18_3) .ret)))
def i18 : FnI := ⟨19, [(ResultVar.tmp 4), (ResultVar.tmp 5)], c18, 0, [[0, 0, 1, 0, 0, 0, 1], [0, 0, 1, 0, 0, 0, 1]], [[0], [0]], false, false, 0⟩
-- loop.example/g00344/impl.within
def r91_1 : List PO := [⟨(some 7), (Op.move (Operand.tmp 0)), none⟩,
  ⟨(some 8), (Op.move (Operand.tmp 1)), none⟩,
  ⟨(some 9), (Op.binOp BinOp.geq 3 (Operand.tmp 7) (Operand.tmp 8) 3), none⟩,
  ⟨(some 10), (Op.move (Operand.tmp 9)), none⟩,
  ⟨(some 11), (Op.move (Operand.tmp 0)), (some (10, true))⟩,
  ⟨(some 12), (Op.move (Operand.tmp 2)), (some (10, true))⟩,
  ⟨(some 13), (Op.binOp BinOp.leq 3 (Operand.tmp 11) (Operand.tmp 12) 3), (some (10, true))⟩,
  ⟨(some 14), (Op.pick (Operand.tmp 10) (Operand.tmp 13) (Operand.const (Value.bool false))), none⟩,
  ⟨(some 6), (Op.assign (Operand.tmp 14)), none⟩]
attribute [go_sem] r91_1
def k91_1 : PC := (.post (.reg r91_1) ⟨[6], []⟩)
def r91_0 : List PO := [⟨(some 6), (Op.assign (Operand.const (Value.bool false))), none⟩]
attribute [go_sem] r91_0
def c91 : PC := (.seq (.reg r91_0) (.seq (.pre ⟨[0, 1, 2], []⟩ k91_1) .ret))
def i91 : FnI := ⟨15, [(ResultVar.tmp 6)], c91, 0, [[0], [0], [0]], [[0]], false, false, 0⟩
-- loop.example/g00344/impl.isPeer
def r76_0 : List PO := [⟨(some 2), (Op.assign (Operand.const (Value.bool false))), none⟩]
attribute [go_sem] r76_0
def r76_1 : List PO := [⟨(some 3), (Op.move (Operand.tmp 0)), none⟩,
  ⟨(some 4), (Op.call { callee := (Callee.value (Operand.func 91)), args := #[(Operand.tmp 3), (Operand.const (Value.int IntKind.i64 0)), (Operand.const (Value.int IntKind.i64 5))], argTypes := #[3, 3, 3] }), none⟩,
  ⟨(some 2), (Op.assign (Operand.tmp 4)), none⟩]
attribute [go_sem] r76_1
def c76 : PC := (.seq (.reg r76_0) (.seq (.reg r76_1) .ret))
def i76 : FnI := ⟨5, [(ResultVar.tmp 2)], c76, 0, [[0]], [[0]], false, false, 0⟩
-- slices.IndexFunc[[]int,int]
def r115_2 : List PO := [⟨(some 9), (Op.binOp BinOp.lss 3 (Operand.tmp 8) (Operand.tmp 7) 3), none⟩]
attribute [go_sem] r115_2
def r115_3 : List PO := [⟨(some 10), (Op.move (Operand.tmp 8)), none⟩,
  ⟨(some 5), (Op.assign (Operand.tmp 10)), none⟩]
attribute [go_sem] r115_3
def r115_4 : List PO := [⟨(some 11), (Op.move (Operand.tmp 1)), none⟩,
  ⟨(some 12), (Op.move (Operand.tmp 0)), none⟩,
  ⟨(some 13), (Op.move (Operand.tmp 5)), none⟩,
  ⟨(some 14), (Op.indexAddr 29 (Operand.tmp 12) (Operand.tmp 13)), none⟩,
  ⟨(some 15), (Op.load 3 (Operand.tmp 14)), none⟩,
  ⟨(some 16), (Op.call { callee := (Callee.value (Operand.tmp 11)), args := #[(Operand.tmp 15)], argTypes := #[3] }), none⟩]
attribute [go_sem] r115_4
def r115_5 : List PO := [⟨(some 17), (Op.move (Operand.tmp 5)), none⟩,
  ⟨(some 4), (Op.assign (Operand.tmp 17)), none⟩]
attribute [go_sem] r115_5
def r115_6 : List PO := [⟨(some 18), (Op.binOp BinOp.add 3 (Operand.tmp 8) (Operand.const (Value.int IntKind.i64 1)) 3), none⟩,
  ⟨(some 8), (Op.move (Operand.tmp 18)), none⟩]
attribute [go_sem] r115_6
def k115_1b : PC := (.seq (.reg r115_2) (.seq (.cond (Operand.tmp 9) .skip (.pre ⟨[], []⟩ (.exit 0))) (.seq (.block 1 (.seq (.reg r115_3) (.seq (.reg r115_4) (.cond (Operand.tmp 16) (.seq (.reg r115_5) (.pre ⟨[4], []⟩ .ret)) .skip)))) (.post (.reg r115_6) ⟨[0, 1, 7, 8], []⟩))))
def r115_0 : List PO := [⟨(some 4), (Op.assign (Operand.const (Value.int IntKind.i64 0))), none⟩]
attribute [go_sem] r115_0
def r115_1 : List PO := [⟨(some 6), (Op.move (Operand.tmp 0)), none⟩,
  ⟨(some 7), (Op.call { callee := (Callee.builtin Builtin.len), args := #[(Operand.tmp 6)], argTypes := #[29] }), none⟩,
  ⟨(some 8), (Op.move (Operand.const (Value.int IntKind.i64 0))), none⟩]
attribute [go_sem] r115_1
def r115_7 : List PO := [⟨(some 4), (Op.assign (Operand.const (Value.int IntKind.i64 (-1)))), none⟩]
attribute [go_sem] r115_7
def c115 : PC := (.seq (.reg r115_0) (.seq (.seq (.reg r115_1) (.block 0 (.pre ⟨[0, 1, 7, 8], []⟩ (.loop k115_1b)))) (.seq (.reg r115_7) .ret)))
def i115 : FnI := ⟨19, [(ResultVar.tmp 4)], c115, 0, [[1], [0]], [[0]], false, false, 0⟩
-- slices.ContainsFunc[[]int,int]
def r109_0 : List PO := [⟨(some 4), (Op.assign (Operand.const (Value.bool false))), none⟩]
attribute [go_sem] r109_0
def r109_1 : List PO := [⟨(some 5), (Op.move (Operand.tmp 0)), none⟩,
  ⟨(some 6), (Op.move (Operand.tmp 1)), none⟩,
  ⟨(some 7), (Op.call { callee := (Callee.value (Operand.func 115)), args := #[(Operand.tmp 5), (Operand.tmp 6)], argTypes := #[29, 80] }), none⟩,
  ⟨(some 8), (Op.binOp BinOp.geq 3 (Operand.tmp 7) (Operand.const (Value.int IntKind.i64 0)) 3), none⟩,
  ⟨(some 4), (Op.assign (Operand.tmp 8)), none⟩]
attribute [go_sem] r109_1
def c109 : PC := (.seq (.reg r109_0) (.seq (.reg r109_1) .ret))
def i109 : FnI := ⟨9, [(ResultVar.tmp 4)], c109, 0, [[1], [0]], [[0]], false, false, 0⟩
-- loop.example/g00344/impl.isAsn
def r66_0 : List PO := [⟨(some 2), (Op.assign (Operand.const (Value.bool false))), none⟩]
attribute [go_sem] r66_0
def r66_1 : List PO := [⟨(some 3), (Op.move (Operand.tmp 0)), none⟩,
  ⟨(some 4), (Op.call { callee := (Callee.value (Operand.func 91)), args := #[(Operand.tmp 3), (Operand.const (Value.int IntKind.i64 1)), (Operand.const (Value.int IntKind.i64 65535))], argTypes := #[3, 3, 3] }), none⟩,
  ⟨(some 2), (Op.assign (Operand.tmp 4)), none⟩]
attribute [go_sem] r66_1
def c66 : PC := (.seq (.reg r66_0) (.seq (.reg r66_1) .ret))
def i66 : FnI := ⟨5, [(ResultVar.tmp 2)], c66, 0, [[0]], [[0]], false, false, 0⟩
-- loop.example/g00344/impl.isPath$1
def r110_0 : List PO := [⟨(some 2), (Op.assign (Operand.const (Value.bool false))), none⟩]
attribute [go_sem] r110_0
def r110_1 : List PO := [⟨(some 3), (Op.move (Operand.tmp 0)), none⟩,
  ⟨(some 4), (Op.call { callee := (Callee.value (Operand.func 66)), args := #[(Operand.tmp 3)], argTypes := #[3] }), none⟩,
  ⟨(some 5), (Op.unOp UnOp.not 4 (Operand.tmp 4)), none⟩,
  ⟨(some 2), (Op.assign (Operand.tmp 5)), none⟩]
attribute [go_sem] r110_1
def c110 : PC := (.seq (.reg r110_0) (.seq (.reg r110_1) .ret))
def i110 : FnI := ⟨6, [(ResultVar.tmp 2)], c110, 0, [[0]], [[0]], false, false, 0⟩
-- loop.example/g00344/impl.isPath
def r98_1 : List PO := [⟨(some 3), (Op.move (Operand.tmp 0)), none⟩,
  ⟨(some 4), (Op.call { callee := (Callee.builtin Builtin.len), args := #[(Operand.tmp 3)], argTypes := #[29] }), none⟩,
  ⟨(some 5), (Op.binOp BinOp.leq 3 (Operand.tmp 4) (Operand.const (Value.int IntKind.i64 10)) 3), none⟩,
  ⟨(some 6), (Op.move (Operand.tmp 5)), none⟩,
  ⟨(some 7), (Op.move (Operand.tmp 0)), (some (6, true))⟩,
  ⟨(some 8), (Op.call { callee := (Callee.value (Operand.func 109)), args := #[(Operand.tmp 7), (Operand.func 110)], argTypes := #[29, 80] }), (some (6, true))⟩,
  ⟨(some 9), (Op.unOp UnOp.not 4 (Operand.tmp 8)), (some (6, true))⟩,
  ⟨(some 10), (Op.pick (Operand.tmp 6) (Operand.tmp 9) (Operand.const (Value.bool false))), none⟩,
  ⟨(some 2), (Op.assign (Operand.tmp 10)), none⟩]
attribute [go_sem] r98_1
def k98_1 : PC := (.post (.reg r98_1) ⟨[2], []⟩)
def r98_0 : List PO := [⟨(some 2), (Op.assign (Operand.const (Value.bool false))), none⟩]
attribute [go_sem] r98_0
def c98 : PC := (.seq (.reg r98_0) (.seq (.pre ⟨[0], []⟩ k98_1) .ret))
def i98 : FnI := ⟨11, [(ResultVar.tmp 2)], c98, 0, [[1]], [[0]], false, false, 0⟩
-- loop.example/g00344/impl.isAddr
def r99_0 : List PO := [⟨(some 2), (Op.assign (Operand.const (Value.bool false))), none⟩]
attribute [go_sem] r99_0
def r99_1 : List PO := [⟨(some 3), (Op.move (Operand.tmp 0)), none⟩,
  ⟨(some 4), (Op.call { callee := (Callee.value (Operand.func 91)), args := #[(Operand.tmp 3), (Operand.const (Value.int IntKind.i64 0)), (Operand.const (Value.int IntKind.i64 4294967295))], argTypes := #[3, 3, 3] }), none⟩,
  ⟨(some 2), (Op.assign (Operand.tmp 4)), none⟩]
attribute [go_sem] r99_1
def c99 : PC := (.seq (.reg r99_0) (.seq (.reg r99_1) .ret))
def i99 : FnI := ⟨5, [(ResultVar.tmp 2)], c99, 0, [[0]], [[0]], false, false, 0⟩
-- loop.example/g00344/impl.isValue
def r100_0 : List PO := [⟨(some 2), (Op.assign (Operand.const (Value.bool false))), none⟩]
attribute [go_sem] r100_0
def r100_1 : List PO := [⟨(some 3), (Op.move (Operand.tmp 0)), none⟩,
  ⟨(some 4), (Op.call { callee := (Callee.value (Operand.func 91)), args := #[(Operand.tmp 3), (Operand.const (Value.int IntKind.i64 0)), (Operand.const (Value.int IntKind.i64 1000000))], argTypes := #[3, 3, 3] }), none⟩,
  ⟨(some 2), (Op.assign (Operand.tmp 4)), none⟩]
attribute [go_sem] r100_1
def c100 : PC := (.seq (.reg r100_0) (.seq (.reg r100_1) .ret))
def i100 : FnI := ⟨5, [(ResultVar.tmp 2)], c100, 0, [[0]], [[0]], false, false, 0⟩
-- loop.example/g00344/impl.areComms
def r101_4 : List PO := [⟨(some 12), (Op.move (Operand.tmp 4)), none⟩,
  ⟨(some 13), (Op.call { callee := (Callee.value (Operand.func 100)), args := #[(Operand.tmp 12)], argTypes := #[3] }), none⟩,
  ⟨(some 14), (Op.unOp UnOp.not 4 (Operand.tmp 13)), none⟩,
  ⟨(some 15), (Op.move (Operand.tmp 14)), none⟩,
  ⟨(some 16), (Op.move (Operand.tmp 3)), (some (15, false))⟩,
  ⟨(some 17), (Op.binOp BinOp.gtr 3 (Operand.tmp 16) (Operand.const (Value.int IntKind.i64 0)) 3), (some (15, false))⟩,
  ⟨(some 18), (Op.move (Operand.tmp 17)), (some (15, false))⟩,
  ⟨(some 19), (Op.move (Operand.tmp 4)), (some (18, true))⟩,
  ⟨(some 20), (Op.move (Operand.tmp 0)), (some (18, true))⟩,
  ⟨(some 21), (Op.move (Operand.tmp 3)), (some (18, true))⟩,
  ⟨(some 22), (Op.binOp BinOp.sub 3 (Operand.tmp 21) (Operand.const (Value.int IntKind.i64 1)) 3), (some (18, true))⟩,
  ⟨(some 23), (Op.indexAddr 29 (Operand.tmp 20) (Operand.tmp 22)), (some (18, true))⟩,
  ⟨(some 24), (Op.load 3 (Operand.tmp 23)), (some (18, true))⟩,
  ⟨(some 25), (Op.binOp BinOp.leq 3 (Operand.tmp 19) (Operand.tmp 24) 3), (some (18, true))⟩,
  ⟨(some 26), (Op.pick (Operand.tmp 18) (Operand.tmp 25) (Operand.const (Value.bool false))), (some (15, false))⟩,
  ⟨(some 27), (Op.pick (Operand.tmp 15) (Operand.const (Value.bool true)) (Operand.tmp 26)), none⟩]
attribute [go_sem] r101_4
def k101_3 : PC := (.post (.reg r101_4) ⟨[0, 5, 6, 7, 27], []⟩)
def r101_2 : List PO := [⟨(some 8), (Op.binOp BinOp.lss 3 (Operand.tmp 7) (Operand.tmp 6) 3), none⟩]
attribute [go_sem] r101_2
def r101_3 : List PO := [⟨(some 9), (Op.move (Operand.tmp 7)), none⟩,
  ⟨(some 10), (Op.indexAddr 29 (Operand.tmp 5) (Operand.tmp 7)), none⟩,
  ⟨(some 11), (Op.load 3 (Operand.tmp 10)), none⟩,
  ⟨(some 3), (Op.assign (Operand.tmp 9)), none⟩,
  ⟨(some 4), (Op.assign (Operand.tmp 11)), none⟩]
attribute [go_sem] r101_3
def r101_5 : List PO := [⟨(some 2), (Op.assign (Operand.const (Value.bool false))), none⟩]
attribute [go_sem] r101_5
def r101_6 : List PO := [⟨(some 28), (Op.binOp BinOp.add 3 (Operand.tmp 7) (Operand.const (Value.int IntKind.i64 1)) 3), none⟩,
  ⟨(some 7), (Op.move (Operand.tmp 28)), none⟩]
attribute [go_sem] r101_6
def k101_1b : PC := (.seq (.reg r101_2) (.seq (.cond (Operand.tmp 8) .skip (.pre ⟨[0], []⟩ (.exit 0))) (.seq (.block 1 (.seq (.reg r101_3) (.seq (.pre ⟨[0, 3, 4, 5, 6, 7], []⟩ k101_3) (.cond (Operand.tmp 27) (.seq (.reg r101_5) (.pre ⟨[2], []⟩ .ret)) .skip)))) (.post (.reg r101_6) ⟨[0, 5, 6, 7], []⟩))))
def r101_0 : List PO := [⟨(some 2), (Op.assign (Operand.const (Value.bool false))), none⟩]
attribute [go_sem] r101_0
def r101_1 : List PO := [⟨(some 5), (Op.move (Operand.tmp 0)), none⟩,
  ⟨(some 6), (Op.call { callee := (Callee.builtin Builtin.len), args := #[(Operand.tmp 5)], argTypes := #[29] }), none⟩,
  ⟨(some 7), (Op.move (Operand.const (Value.int IntKind.i64 0))), none⟩]
attribute [go_sem] r101_1
def r101_7 : List PO := [⟨(some 29), (Op.move (Operand.tmp 0)), none⟩,
  ⟨(some 30), (Op.call { callee := (Callee.builtin Builtin.len), args := #[(Operand.tmp 29)], argTypes := #[29] }), none⟩,
  ⟨(some 31), (Op.binOp BinOp.leq 3 (Operand.tmp 30) (Operand.const (Value.int IntKind.i64 6)) 3), none⟩,
  ⟨(some 2), (Op.assign (Operand.tmp 31)), none⟩]
attribute [go_sem] r101_7
def c101 : PC := (.seq (.reg r101_0) (.seq (.seq (.reg r101_1) (.block 0 (.pre ⟨[0, 5, 6, 7], []⟩ (.loop k101_1b)))) (.seq (.reg r101_7) .ret)))
def i101 : FnI := ⟨32, [(ResultVar.tmp 2)], c101, 0, [[1]], [[0]], false, false, 0⟩
-- loop.example/g00344/impl.GoodAttrs
def r77_1 : List PO := [⟨(some 3), (Op.fieldAddr 37 (Operand.tmp 1) 0), none⟩,
  ⟨(some 4), (Op.load 3 (Operand.tmp 3)), none⟩,
  ⟨(some 5), (Op.call { callee := (Callee.value (Operand.func 91)), args := #[(Operand.tmp 4), (Operand.const (Value.int IntKind.i64 0)), (Operand.const (Value.int IntKind.i64 2))], argTypes := #[3, 3, 3] }), none⟩,
  ⟨(some 6), (Op.move (Operand.tmp 5)), none⟩,
  ⟨(some 7), (Op.fieldAddr 37 (Operand.tmp 1) 1), (some (6, true))⟩,
  ⟨(some 8), (Op.load 29 (Operand.tmp 7)), (some (6, true))⟩,
  ⟨(some 9), (Op.call { callee := (Callee.value (Operand.func 98)), args := #[(Operand.tmp 8)], argTypes := #[29] }), (some (6, true))⟩,
  ⟨(some 10), (Op.pick (Operand.tmp 6) (Operand.tmp 9) (Operand.const (Value.bool false))), none⟩,
  ⟨(some 11), (Op.move (Operand.tmp 10)), none⟩,
  ⟨(some 12), (Op.fieldAddr 37 (Operand.tmp 1) 2), (some (11, true))⟩,
  ⟨(some 13), (Op.load 3 (Operand.tmp 12)), (some (11, true))⟩,
  ⟨(some 14), (Op.call { callee := (Callee.value (Operand.func 99)), args := #[(Operand.tmp 13)], argTypes := #[3] }), (some (11, true))⟩,
  ⟨(some 15), (Op.pick (Operand.tmp 11) (Operand.tmp 14) (Operand.const (Value.bool false))), none⟩,
  ⟨(some 16), (Op.move (Operand.tmp 15)), none⟩,
  ⟨(some 17), (Op.fieldAddr 37 (Operand.tmp 1) 3), (some (16, true))⟩,
  ⟨(some 18), (Op.load 3 (Operand.tmp 17)), (some (16, true))⟩,
  ⟨(some 19), (Op.call { callee := (Callee.value (Operand.func 100)), args := #[(Operand.tmp 18)], argTypes := #[3] }), (some (16, true))⟩,
  ⟨(some 20), (Op.pick (Operand.tmp 16) (Operand.tmp 19) (Operand.const (Value.bool false))), none⟩,
  ⟨(some 21), (Op.move (Operand.tmp 20)), none⟩,
  ⟨(some 22), (Op.fieldAddr 37 (Operand.tmp 1) 4), (some (21, true))⟩,
  ⟨(some 23), (Op.load 3 (Operand.tmp 22)), (some (21, true))⟩,
  ⟨(some 24), (Op.call { callee := (Callee.value (Operand.func 100)), args := #[(Operand.tmp 23)], argTypes := #[3] }), (some (21, true))⟩,
  ⟨(some 25), (Op.pick (Operand.tmp 21) (Operand.tmp 24) (Operand.const (Value.bool false))), none⟩,
  ⟨(some 26), (Op.move (Operand.tmp 25)), none⟩,
  ⟨(some 27), (Op.fieldAddr 37 (Operand.tmp 1) 5), (some (26, true))⟩,
  ⟨(some 28), (Op.load 29 (Operand.tmp 27)), (some (26, true))⟩,
  ⟨(some 29), (Op.call { callee := (Callee.value (Operand.func 101)), args := #[(Operand.tmp 28)], argTypes := #[29] }), (some (26, true))⟩,
  ⟨(some 30), (Op.pick (Operand.tmp 26) (Operand.tmp 29) (Operand.const (Value.bool false))), none⟩,
  ⟨(some 2), (Op.assign (Operand.tmp 30)), none⟩]
attribute [go_sem] r77_1
def k77_1 : PC := (.post (.reg r77_1) ⟨[2], []⟩)
def r77_0 : List PO := [⟨(some 1), (Op.box 37 (Operand.tmp 0)), none⟩,
  ⟨(some 2), (Op.assign (Operand.const (Value.bool false))), none⟩]
attribute [go_sem] r77_0
def c77 : PC := (.seq (.reg r77_0) (.seq (.pre ⟨[1], [.old 0]⟩ k77_1) .ret))
def i77 : FnI := ⟨31, [(ResultVar.tmp 2)], c77, 0, [[0, 1, 0, 0, 0, 1]], [[0]], false, false, 0⟩
-- loop.example/g00344/impl.isOffer
def r50_1 : List PO := [⟨(some 3), (Op.fieldAddr 39 (Operand.tmp 1) 0), none⟩,
  ⟨(some 4), (Op.load 3 (Operand.tmp 3)), none⟩,
  ⟨(some 5), (Op.call { callee := (Callee.value (Operand.func 76)), args := #[(Operand.tmp 4)], argTypes := #[3] }), none⟩,
  ⟨(some 6), (Op.move (Operand.tmp 5)), none⟩,
  ⟨(some 7), (Op.fieldAddr 39 (Operand.tmp 1) 1), (some (6, true))⟩,
  ⟨(some 8), (Op.load 37 (Operand.tmp 7)), (some (6, true))⟩,
  ⟨(some 9), (Op.call { callee := (Callee.value (Operand.func 77)), args := #[(Operand.tmp 8)], argTypes := #[37] }), (some (6, true))⟩,
  ⟨(some 10), (Op.pick (Operand.tmp 6) (Operand.tmp 9) (Operand.const (Value.bool false))), none⟩,
  ⟨(some 2), (Op.assign (Operand.tmp 10)), none⟩]
attribute [go_sem] r50_1
def k50_1 : PC := (.post (.reg r50_1) ⟨[2], []⟩)
def r50_0 : List PO := [⟨(some 1), (Op.box 39 (Operand.tmp 0)), none⟩,
  ⟨(some 2), (Op.assign (Operand.const (Value.bool false))), none⟩]
attribute [go_sem] r50_0
def c50 : PC := (.seq (.reg r50_0) (.seq (.pre ⟨[1], [.old 0]⟩ k50_1) .ret))
def i50 : FnI := ⟨11, [(ResultVar.tmp 2)], c50, 0, [[0, 0, 1, 0, 0, 0, 1]], [[0]], false, false, 0⟩
-- cmp.isNaN[int]
def r102_0 : List PO := [⟨(some 2), (Op.assign (Operand.const (Value.bool false))), none⟩]
attribute [go_sem] r102_0
def r102_1 : List PO := [⟨(some 3), (Op.move (Operand.tmp 0)), none⟩,
  ⟨(some 4), (Op.move (Operand.tmp 0)), none⟩,
  ⟨(some 5), (Op.binOp BinOp.neq 3 (Operand.tmp 3) (Operand.tmp 4) 3), none⟩,
  ⟨(some 2), (Op.assign (Operand.tmp 5)), none⟩]
attribute [go_sem] r102_1
def c102 : PC := (.seq (.reg r102_0) (.seq (.reg r102_1) .ret))
def i102 : FnI := ⟨6, [(ResultVar.tmp 2)], c102, 0, [[0]], [[0]], false, false, 0⟩
-- cmp.Compare[int]
def r82_0 : List PO := [⟨(some 4), (Op.assign (Operand.const (Value.int IntKind.i64 0))), none⟩]
attribute [go_sem] r82_0
def r82_1 : List PO := [⟨(some 7), (Op.move (Operand.tmp 0)), none⟩,
  ⟨(some 8), (Op.call { callee := (Callee.value (Operand.func 102)), args := #[(Operand.tmp 7)], argTypes := #[3] }), none⟩,
  ⟨(some 5), (Op.assign (Operand.tmp 8)), none⟩]
attribute [go_sem] r82_1
def r82_2 : List PO := [⟨(some 9), (Op.move (Operand.tmp 1)), none⟩,
  ⟨(some 10), (Op.call { callee := (Callee.value (Operand.func 102)), args := #[(Operand.tmp 9)], argTypes := #[3] }), none⟩,
  ⟨(some 6), (Op.assign (Operand.tmp 10)), none⟩]
attribute [go_sem] r82_2
def r82_3 : List PO := [⟨(some 11), (Op.move (Operand.tmp 5)), none⟩]
attribute [go_sem] r82_3
def r82_4 : List PO := [⟨(some 12), (Op.move (Operand.tmp 6)), none⟩]
attribute [go_sem] r82_4
def r82_5 : List PO := [⟨(some 4), (Op.assign (Operand.const (Value.int IntKind.i64 0))), none⟩]
attribute [go_sem] r82_5
def r82_6 : List PO := [⟨(some 4), (Op.assign (Operand.const (Value.int IntKind.i64 (-1)))), none⟩]
attribute [go_sem] r82_6
def r82_7 : List PO := [⟨(some 13), (Op.move (Operand.tmp 6)), none⟩]
attribute [go_sem] r82_7
def r82_8 : List PO := [⟨(some 4), (Op.assign (Operand.const (Value.int IntKind.i64 1))), none⟩]
attribute [go_sem] r82_8
def r82_9 : List PO := [⟨(some 14), (Op.move (Operand.tmp 0)), none⟩,
  ⟨(some 15), (Op.move (Operand.tmp 1)), none⟩,
  ⟨(some 16), (Op.binOp BinOp.lss 3 (Operand.tmp 14) (Operand.tmp 15) 3), none⟩]
attribute [go_sem] r82_9
def r82_10 : List PO := [⟨(some 4), (Op.assign (Operand.const (Value.int IntKind.i64 (-1)))), none⟩]
attribute [go_sem] r82_10
def r82_11 : List PO := [⟨(some 17), (Op.move (Operand.tmp 0)), none⟩,
  ⟨(some 18), (Op.move (Operand.tmp 1)), none⟩,
  ⟨(some 19), (Op.binOp BinOp.gtr 3 (Operand.tmp 17) (Operand.tmp 18) 3), none⟩]
attribute [go_sem] r82_11
def r82_12 : List PO := [⟨(some 4), (Op.assign (Operand.const (Value.int IntKind.i64 1))), none⟩]
attribute [go_sem] r82_12
def r82_13 : List PO := [⟨(some 4), (Op.assign (Operand.const (Value.int IntKind.i64 0))), none⟩]
attribute [go_sem] r82_13
def c82 : PC := (.seq (.reg r82_0) (.seq (.reg r82_1) (.seq (.reg r82_2) (.seq (.seq (.reg r82_3) (.cond (Operand.tmp 11) (.seq (.seq (.reg r82_4) (.cond (Operand.tmp 12) (.seq (.reg r82_5) .ret) .skip)) (.seq (.reg r82_6) .ret)) .skip)) (.seq (.seq (.reg r82_7) (.cond (Operand.tmp 13) (.seq (.reg r82_8) .ret) .skip)) (.seq (.seq (.reg r82_9) (.cond (Operand.tmp 16) (.seq (.reg r82_10) .ret) .skip)) (.seq (.seq (.reg r82_11) (.cond (Operand.tmp 19) (.seq (.reg r82_12) .ret) .skip)) (.seq (.reg r82_13) .ret))))))))
def i82 : FnI := ⟨20, [(ResultVar.tmp 4)], c82, 0, [[0], [0]], [[0]], false, false, 0⟩
-- cmp.Or[int]
def r81_3 : List PO := [⟨(some 9), (Op.binOp BinOp.lss 3 (Operand.tmp 8) (Operand.tmp 7) 3), none⟩]
attribute [go_sem] r81_3
def r81_4 : List PO := [⟨(some 10), (Op.indexAddr 29 (Operand.tmp 6) (Operand.tmp 8)), none⟩,
  ⟨(some 11), (Op.load 3 (Operand.tmp 10)), none⟩,
  ⟨(some 5), (Op.assign (Operand.tmp 11)), none⟩]
attribute [go_sem] r81_4
def r81_5 : List PO := [⟨(some 12), (Op.move (Operand.tmp 5)), none⟩,
  ⟨(some 13), (Op.move (Operand.tmp 3)), none⟩,
  ⟨(some 14), (Op.binOp BinOp.neq 3 (Operand.tmp 12) (Operand.tmp 13) 3), none⟩]
attribute [go_sem] r81_5
def r81_6 : List PO := [⟨(some 15), (Op.move (Operand.tmp 5)), none⟩,
  ⟨(some 2), (Op.assign (Operand.tmp 15)), none⟩]
attribute [go_sem] r81_6
def r81_7 : List PO := [⟨(some 16), (Op.binOp BinOp.add 3 (Operand.tmp 8) (Operand.const (Value.int IntKind.i64 1)) 3), none⟩,
  ⟨(some 8), (Op.move (Operand.tmp 16)), none⟩]
attribute [go_sem] r81_7
def k81_1b : PC := (.seq (.reg r81_3) (.seq (.cond (Operand.tmp 9) .skip (.pre ⟨[3], []⟩ (.exit 0))) (.seq (.block 1 (.seq (.reg r81_4) (.seq (.reg r81_5) (.cond (Operand.tmp 14) (.seq (.reg r81_6) (.pre ⟨[2], []⟩ .ret)) .skip)))) (.post (.reg r81_7) ⟨[3, 6, 7, 8], []⟩))))
def r81_0 : List PO := [⟨(some 2), (Op.assign (Operand.const (Value.int IntKind.i64 0))), none⟩]
attribute [go_sem] r81_0
def r81_1 : List PO := [⟨(some 3), (Op.assign (Operand.const (Value.int IntKind.i64 0))), none⟩]
attribute [go_sem] r81_1
def r81_2 : List PO := [⟨(some 6), (Op.move (Operand.tmp 0)), none⟩,
  ⟨(some 7), (Op.call { callee := (Callee.builtin Builtin.len), args := #[(Operand.tmp 6)], argTypes := #[29] }), none⟩,
  ⟨(some 8), (Op.move (Operand.const (Value.int IntKind.i64 0))), none⟩]
attribute [go_sem] r81_2
def r81_8 : List PO := [⟨(some 17), (Op.move (Operand.tmp 3)), none⟩,
  ⟨(some 2), (Op.assign (Operand.tmp 17)), none⟩]
attribute [go_sem] r81_8
def c81 : PC := (.seq (.reg r81_0) (.seq (.reg r81_1) (.seq (.seq (.reg r81_2) (.block 0 (.pre ⟨[3, 6, 7, 8], []⟩ (.loop k81_1b)))) (.seq (.reg r81_8) .ret))))
def i81 : FnI := ⟨18, [(ResultVar.tmp 2)], c81, 0, [[1]], [[0]], false, false, 0⟩
-- loop.example/g00344/impl.order
def r54_0 : List PO := [⟨(some 2), (Op.box 39 (Operand.tmp 0)), none⟩,
  ⟨(some 3), (Op.box 39 (Operand.tmp 1)), none⟩,
  ⟨(some 4), (Op.assign (Operand.const (Value.int IntKind.i64 0))), none⟩]
attribute [go_sem] r54_0
def r54_1 : List PO := [⟨(some 7), (Op.fieldAddr 39 (Operand.tmp 2) 0), none⟩,
  ⟨(some 8), (Op.load 3 (Operand.tmp 7)), none⟩,
  ⟨(some 9), (Op.fieldAddr 39 (Operand.tmp 3) 0), none⟩,
  ⟨(some 10), (Op.load 3 (Operand.tmp 9)), none⟩,
  ⟨(some 11), (Op.binOp BinOp.eql 3 (Operand.tmp 8) (Operand.tmp 10) 3), none⟩]
attribute [go_sem] r54_1
def r54_2 : List PO := [⟨(some 4), (Op.assign (Operand.const (Value.int IntKind.i64 0))), none⟩]
attribute [go_sem] r54_2
def r54_3 : List PO := [⟨(some 12), (Op.fieldAddr 39 (Operand.tmp 2) 1), none⟩,
  ⟨(some 13), (Op.load 37 (Operand.tmp 12)), none⟩,
  ⟨(some 14), (Op.fieldAddr 39 (Operand.tmp 3) 1), none⟩,
  ⟨(some 15), (Op.load 37 (Operand.tmp 14)), none⟩,
  ⟨(some 5), (Op.alloc 37), none⟩,
  ⟨(some 6), (Op.alloc 37), none⟩,
  ⟨none, (Op.store 37 (Operand.tmp 5) (Operand.tmp 13)), none⟩,
  ⟨none, (Op.store 37 (Operand.tmp 6) (Operand.tmp 15)), none⟩]
attribute [go_sem] r54_3
def x54_3 : FxI := ⟨[4, 5, 6, 7], [none, none, none, none, some 0, some 1, none, none], 2, [[], [4], [4, 5], [4, 5, 6], [4, 5, 6, 7], [5]], [(0, 5)], [(1, 1, 1), (1, 2, 2), (1, 5, 5), (3, 1, 1), (3, 2, 2), (3, 3, 3), (3, 5, 5), (4, 5, 2), (5, 0, 5)]⟩
attribute [go_sem] x54_3
def r54_4 : List PO := [⟨(some 16), (Op.fieldAddr 37 (Operand.tmp 6) 4), none⟩,
  ⟨(some 17), (Op.load 3 (Operand.tmp 16)), none⟩,
  ⟨(some 18), (Op.fieldAddr 37 (Operand.tmp 5) 4), none⟩,
  ⟨(some 19), (Op.load 3 (Operand.tmp 18)), none⟩,
  ⟨(some 20), (Op.call { callee := (Callee.value (Operand.func 82)), args := #[(Operand.tmp 17), (Operand.tmp 19)], argTypes := #[3, 3] }), none⟩,
  ⟨(some 21), (Op.fieldAddr 37 (Operand.tmp 5) 1), none⟩,
  ⟨(some 22), (Op.load 29 (Operand.tmp 21)), none⟩,
  ⟨(some 23), (Op.call { callee := (Callee.builtin Builtin.len), args := #[(Operand.tmp 22)], argTypes := #[29] }), none⟩,
  ⟨(some 24), (Op.fieldAddr 37 (Operand.tmp 6) 1), none⟩,
  ⟨(some 25), (Op.load 29 (Operand.tmp 24)), none⟩,
  ⟨(some 26), (Op.call { callee := (Callee.builtin Builtin.len), args := #[(Operand.tmp 25)], argTypes := #[29] }), none⟩,
  ⟨(some 27), (Op.call { callee := (Callee.value (Operand.func 82)), args := #[(Operand.tmp 23), (Operand.tmp 26)], argTypes := #[3, 3] }), none⟩,
  ⟨(some 28), (Op.fieldAddr 37 (Operand.tmp 5) 0), none⟩,
  ⟨(some 29), (Op.load 3 (Operand.tmp 28)), none⟩,
  ⟨(some 30), (Op.fieldAddr 37 (Operand.tmp 6) 0), none⟩,
  ⟨(some 31), (Op.load 3 (Operand.tmp 30)), none⟩,
  ⟨(some 32), (Op.call { callee := (Callee.value (Operand.func 82)), args := #[(Operand.tmp 29), (Operand.tmp 31)], argTypes := #[3, 3] }), none⟩,
  ⟨(some 33), (Op.fieldAddr 37 (Operand.tmp 5) 3), none⟩,
  ⟨(some 34), (Op.load 3 (Operand.tmp 33)), none⟩,
  ⟨(some 35), (Op.fieldAddr 37 (Operand.tmp 6) 3), none⟩,
  ⟨(some 36), (Op.load 3 (Operand.tmp 35)), none⟩,
  ⟨(some 37), (Op.call { callee := (Callee.value (Operand.func 82)), args := #[(Operand.tmp 34), (Operand.tmp 36)], argTypes := #[3, 3] }), none⟩,
  ⟨(some 38), (Op.fieldAddr 37 (Operand.tmp 5) 2), none⟩,
  ⟨(some 39), (Op.load 3 (Operand.tmp 38)), none⟩,
  ⟨(some 40), (Op.fieldAddr 37 (Operand.tmp 6) 2), none⟩,
  ⟨(some 41), (Op.load 3 (Operand.tmp 40)), none⟩,
  ⟨(some 42), (Op.call { callee := (Callee.value (Operand.func 82)), args := #[(Operand.tmp 39), (Operand.tmp 41)], argTypes := #[3, 3] }), none⟩,
  ⟨(some 43), (Op.fieldAddr 39 (Operand.tmp 2) 0), none⟩,
  ⟨(some 44), (Op.load 3 (Operand.tmp 43)), none⟩,
  ⟨(some 45), (Op.fieldAddr 39 (Operand.tmp 3) 0), none⟩,
  ⟨(some 46), (Op.load 3 (Operand.tmp 45)), none⟩,
  ⟨(some 47), (Op.call { callee := (Callee.value (Operand.func 82)), args := #[(Operand.tmp 44), (Operand.tmp 46)], argTypes := #[3, 3] }), none⟩,
  ⟨(some 48), (Op.buildSlice 29 6 #[(0, (Operand.tmp 20)), (1, (Operand.tmp 27)), (2, (Operand.tmp 32)), (3, (Operand.tmp 37)), (4, (Operand.tmp 42)), (5, (Operand.tmp 47))]), none⟩,
  ⟨(some 49), (Op.call { callee := (Callee.value (Operand.func 81)), args := #[(Operand.tmp 48)], argTypes := #[29] }), none⟩,
  ⟨(some 4), (Op.assign (Operand.tmp 49)), none⟩]
attribute [go_sem] r54_4
def x54_4 : FxI := ⟨[4, 11, 16, 21, 26, 31, 32, 33], [none, none, none, none, none, none, none, none, none, none, none, none, none, none, none, none, none, none, none, none, none, none, none, none, none, none, none, none, none, none, none, none, none, none, none], 0, [[], [4], [4, 11], [4, 11, 16], [4, 11, 16, 21], [4, 11, 16, 21, 26], [4, 11, 16, 21, 26, 31], [4, 11, 16, 21, 26, 31, 32], [4, 11, 16, 21, 26, 31, 32, 33]], [], [(6, 0, 0), (7, 0, 0), (9, 0, 0), (10, 0, 0), (13, 0, 0), (13, 1, 1), (15, 0, 0), (15, 1, 1), (18, 0, 0), (18, 1, 1), (18, 2, 2), (20, 0, 0), (20, 1, 1), (20, 2, 2), (23, 0, 0), (23, 1, 1), (23, 2, 2), (23, 3, 3), (25, 0, 0), (25, 1, 1), (25, 2, 2), (25, 3, 3), (28, 0, 0), (28, 1, 1), (28, 2, 2), (28, 3, 3), (28, 4, 4), (30, 0, 0), (30, 1, 1), (30, 2, 2), (30, 3, 3), (30, 4, 4)]⟩
attribute [go_sem] x54_4
def c54 : PC := (.seq (.reg r54_0) (.seq (.seq (.reg r54_1) (.cond (Operand.tmp 11) (.seq (.reg r54_2) .ret) .skip)) (.seq (.fx r54_3 x54_3) (.seq (.fx r54_4 x54_4) .ret))))
def i54 : FnI := ⟨50, [(ResultVar.tmp 4)], c54, 0, [[0, 0, 1, 0, 0, 0, 1], [0, 0, 1, 0, 0, 0, 1]], [[0]], false, false, 0⟩
-- loop.example/g00344/impl.CompareOffers
def r20_1 : List PO := [⟨(some 6), (Op.load 39 (Operand.tmp 2)), none⟩,
  ⟨(some 7), (Op.call { callee := (Callee.value (Operand.func 50)), args := #[(Operand.tmp 6)], argTypes := #[39] }), none⟩,
  ⟨(some 8), (Op.unOp UnOp.not 4 (Operand.tmp 7)), none⟩,
  ⟨(some 9), (Op.move (Operand.tmp 8)), none⟩,
  ⟨(some 10), (Op.load 39 (Operand.tmp 3)), (some (9, false))⟩,
  ⟨(some 11), (Op.call { callee := (Callee.value (Operand.func 50)), args := #[(Operand.tmp 10)], argTypes := #[39] }), (some (9, false))⟩,
  ⟨(some 12), (Op.unOp UnOp.not 4 (Operand.tmp 11)), (some (9, false))⟩,
  ⟨(some 13), (Op.pick (Operand.tmp 9) (Operand.const (Value.bool true)) (Operand.tmp 12)), none⟩]
attribute [go_sem] r20_1
def k20_1 : PC := (.post (.reg r20_1) ⟨[2, 3, 13], [.old 0, .old 1]⟩)
def r20_0 : List PO := [⟨(some 2), (Op.box 39 (Operand.tmp 0)), none⟩,
  ⟨(some 3), (Op.box 39 (Operand.tmp 1)), none⟩,
  ⟨(some 4), (Op.assign (Operand.const (Value.int IntKind.i64 0))), none⟩,
  ⟨(some 5), (Op.assign (Operand.const (Value.bool false))), none⟩]
attribute [go_sem] r20_0
def r20_2 : List PO := [⟨(some 4), (Op.assign (Operand.const (Value.int IntKind.i64 0))), none⟩,
  ⟨(some 5), (Op.assign (Operand.const (Value.bool false))), none⟩]
attribute [go_sem] r20_2
def r20_3 : List PO := [⟨(some 14), (Op.load 39 (Operand.tmp 2)), none⟩,
  ⟨(some 15), (Op.load 39 (Operand.tmp 3)), none⟩,
  ⟨(some 16), (Op.call { callee := (Callee.value (Operand.func 54)), args := #[(Operand.tmp 14), (Operand.tmp 15)], argTypes := #[39, 39] }), none⟩,
  ⟨(some 4), (Op.assign (Operand.tmp 16)), none⟩,
  ⟨(some 5), (Op.assign (Operand.const (Value.bool true))), none⟩]
attribute [go_sem] r20_3
def c20 : PC := (.seq (.reg r20_0) (.seq (.seq (.pre ⟨[2, 3], [.old 0, .old 1]⟩ k20_1) (.cond (Operand.tmp 13) (.seq (.reg r20_2) .ret) .skip)) (.seq (.reg r20_3) .ret)))
def i20 : FnI := ⟨17, [(ResultVar.tmp 4), (ResultVar.tmp 5)], c20, 0, [[0, 0, 1, 0, 0, 0, 1], [0, 0, 1, 0, 0, 0, 1]], [[0], [0]], false, false, 0⟩
-- loop.example/g00344/laws.eqIntS
def r33_4 : List PO := [⟨(some 11), (Op.move (Operand.tmp 5)), none⟩,
  ⟨(some 12), (Op.move (Operand.tmp 0)), none⟩,
  ⟨(some 13), (Op.call { callee := (Callee.builtin Builtin.len), args := #[(Operand.tmp 12)], argTypes := #[29] }), none⟩,
  ⟨(some 14), (Op.binOp BinOp.lss 3 (Operand.tmp 11) (Operand.tmp 13) 3), none⟩]
attribute [go_sem] r33_4
def r33_6 : List PO := [⟨(some 17), (Op.move (Operand.tmp 0)), none⟩,
  ⟨(some 18), (Op.move (Operand.tmp 5)), none⟩,
  ⟨(some 19), (Op.indexAddr 29 (Operand.tmp 17) (Operand.tmp 18)), none⟩,
  ⟨(some 20), (Op.load 3 (Operand.tmp 19)), none⟩,
  ⟨(some 21), (Op.move (Operand.tmp 1)), none⟩,
  ⟨(some 22), (Op.move (Operand.tmp 5)), none⟩,
  ⟨(some 23), (Op.indexAddr 29 (Operand.tmp 21) (Operand.tmp 22)), none⟩,
  ⟨(some 24), (Op.load 3 (Operand.tmp 23)), none⟩,
  ⟨(some 25), (Op.binOp BinOp.neq 3 (Operand.tmp 20) (Operand.tmp 24) 3), none⟩]
attribute [go_sem] r33_6
def r33_7 : List PO := [⟨(some 4), (Op.assign (Operand.const (Value.bool false))), none⟩]
attribute [go_sem] r33_7
def r33_5 : List PO := [⟨(some 15), (Op.move (Operand.tmp 5)), none⟩,
  ⟨(some 16), (Op.binOp BinOp.add 3 (Operand.tmp 15) (Operand.const (Value.int IntKind.i64 1)) 3), none⟩,
  ⟨(some 5), (Op.assign (Operand.tmp 16)), none⟩]
attribute [go_sem] r33_5
def k33_1b : PC := (.seq (.seq (.reg r33_4) (.cond (Operand.tmp 14) .skip (.pre ⟨[], []⟩ (.exit 0)))) (.seq (.block 1 (.seq (.fz r33_6) (.cond (Operand.tmp 25) (.seq (.reg r33_7) (.pre ⟨[4], []⟩ .ret)) .skip))) (.post (.reg r33_5) ⟨[0, 1, 5], []⟩)))
def r33_0 : List PO := [⟨(some 4), (Op.assign (Operand.const (Value.bool false))), none⟩]
attribute [go_sem] r33_0
def r33_1 : List PO := [⟨(some 6), (Op.move (Operand.tmp 0)), none⟩,
  ⟨(some 7), (Op.call { callee := (Callee.builtin Builtin.len), args := #[(Operand.tmp 6)], argTypes := #[29] }), none⟩,
  ⟨(some 8), (Op.move (Operand.tmp 1)), none⟩,
  ⟨(some 9), (Op.call { callee := (Callee.builtin Builtin.len), args := #[(Operand.tmp 8)], argTypes := #[29] }), none⟩,
  ⟨(some 10), (Op.binOp BinOp.neq 3 (Operand.tmp 7) (Operand.tmp 9) 3), none⟩]
attribute [go_sem] r33_1
def r33_2 : List PO := [⟨(some 4), (Op.assign (Operand.const (Value.bool false))), none⟩]
attribute [go_sem] r33_2
def r33_3 : List PO := [⟨(some 5), (Op.assign (Operand.const (Value.int IntKind.i64 0))), none⟩]
attribute [go_sem] r33_3
def r33_8 : List PO := [⟨(some 4), (Op.assign (Operand.const (Value.bool true))), none⟩]
attribute [go_sem] r33_8
def c33 : PC := (.seq (.reg r33_0) (.seq (.seq (.reg r33_1) (.cond (Operand.tmp 10) (.seq (.reg r33_2) .ret) .skip)) (.seq (.seq (.reg r33_3) (.block 0 (.pre ⟨[0, 1, 5], []⟩ (.loop k33_1b)))) (.seq (.reg r33_8) .ret))))
def i33 : FnI := ⟨26, [(ResultVar.tmp 4)], c33, 0, [[1], [1]], [[0]], false, false, 0⟩
-- loop.example/g00344/laws.eqAttrs
def r55_0 : List PO := [⟨(some 2), (Op.box 37 (Operand.tmp 0)), none⟩,
  ⟨(some 3), (Op.box 37 (Operand.tmp 1)), none⟩,
  ⟨(some 4), (Op.assign (Operand.const (Value.bool false))), none⟩]
attribute [go_sem] r55_0
def r55_1 : List PO := [⟨(some 5), (Op.fieldAddr 37 (Operand.tmp 2) 0), none⟩,
  ⟨(some 6), (Op.load 3 (Operand.tmp 5)), none⟩,
  ⟨(some 7), (Op.fieldAddr 37 (Operand.tmp 3) 0), none⟩,
  ⟨(some 8), (Op.load 3 (Operand.tmp 7)), none⟩,
  ⟨(some 9), (Op.binOp BinOp.neq 3 (Operand.tmp 6) (Operand.tmp 8) 3), none⟩]
attribute [go_sem] r55_1
def r55_2 : List PO := [⟨(some 4), (Op.assign (Operand.const (Value.bool false))), none⟩]
attribute [go_sem] r55_2
def r55_3 : List PO := [⟨(some 10), (Op.fieldAddr 37 (Operand.tmp 2) 1), none⟩,
  ⟨(some 11), (Op.load 29 (Operand.tmp 10)), none⟩,
  ⟨(some 12), (Op.fieldAddr 37 (Operand.tmp 3) 1), none⟩,
  ⟨(some 13), (Op.load 29 (Operand.tmp 12)), none⟩,
  ⟨(some 14), (Op.call { callee := (Callee.value (Operand.func 33)), args := #[(Operand.tmp 11), (Operand.tmp 13)], argTypes := #[29, 29] }), none⟩,
  ⟨(some 15), (Op.unOp UnOp.not 4 (Operand.tmp 14)), none⟩]
attribute [go_sem] r55_3
def r55_4 : List PO := [⟨(some 4), (Op.assign (Operand.const (Value.bool false))), none⟩]
attribute [go_sem] r55_4
def r55_5 : List PO := [⟨(some 16), (Op.fieldAddr 37 (Operand.tmp 2) 2), none⟩,
  ⟨(some 17), (Op.load 3 (Operand.tmp 16)), none⟩,
  ⟨(some 18), (Op.fieldAddr 37 (Operand.tmp 3) 2), none⟩,
  ⟨(some 19), (Op.load 3 (Operand.tmp 18)), none⟩,
  ⟨(some 20), (Op.binOp BinOp.neq 3 (Operand.tmp 17) (Operand.tmp 19) 3), none⟩]
attribute [go_sem] r55_5
def r55_6 : List PO := [⟨(some 4), (Op.assign (Operand.const (Value.bool false))), none⟩]
attribute [go_sem] r55_6
def r55_7 : List PO := [⟨(some 21), (Op.fieldAddr 37 (Operand.tmp 2) 3), none⟩,
  ⟨(some 22), (Op.load 3 (Operand.tmp 21)), none⟩,
  ⟨(some 23), (Op.fieldAddr 37 (Operand.tmp 3) 3), none⟩,
  ⟨(some 24), (Op.load 3 (Operand.tmp 23)), none⟩,
  ⟨(some 25), (Op.binOp BinOp.neq 3 (Operand.tmp 22) (Operand.tmp 24) 3), none⟩]
attribute [go_sem] r55_7
def r55_8 : List PO := [⟨(some 4), (Op.assign (Operand.const (Value.bool false))), none⟩]
attribute [go_sem] r55_8
def r55_9 : List PO := [⟨(some 26), (Op.fieldAddr 37 (Operand.tmp 2) 4), none⟩,
  ⟨(some 27), (Op.load 3 (Operand.tmp 26)), none⟩,
  ⟨(some 28), (Op.fieldAddr 37 (Operand.tmp 3) 4), none⟩,
  ⟨(some 29), (Op.load 3 (Operand.tmp 28)), none⟩,
  ⟨(some 30), (Op.binOp BinOp.neq 3 (Operand.tmp 27) (Operand.tmp 29) 3), none⟩]
attribute [go_sem] r55_9
def r55_10 : List PO := [⟨(some 4), (Op.assign (Operand.const (Value.bool false))), none⟩]
attribute [go_sem] r55_10
def r55_11 : List PO := [⟨(some 31), (Op.fieldAddr 37 (Operand.tmp 2) 5), none⟩,
  ⟨(some 32), (Op.load 29 (Operand.tmp 31)), none⟩,
  ⟨(some 33), (Op.fieldAddr 37 (Operand.tmp 3) 5), none⟩,
  ⟨(some 34), (Op.load 29 (Operand.tmp 33)), none⟩,
  ⟨(some 35), (Op.call { callee := (Callee.value (Operand.func 33)), args := #[(Operand.tmp 32), (Operand.tmp 34)], argTypes := #[29, 29] }), none⟩,
  ⟨(some 36), (Op.unOp UnOp.not 4 (Operand.tmp 35)), none⟩]
attribute [go_sem] r55_11
def r55_12 : List PO := [⟨(some 4), (Op.assign (Operand.const (Value.bool false))), none⟩]
attribute [go_sem] r55_12
def r55_13 : List PO := [⟨(some 4), (Op.assign (Operand.const (Value.bool true))), none⟩]
attribute [go_sem] r55_13
def c55 : PC := (.seq (.reg r55_0) (.seq (.seq (.reg r55_1) (.cond (Operand.tmp 9) (.seq (.reg r55_2) .ret) .skip)) (.seq (.seq (.reg r55_3) (.cond (Operand.tmp 15) (.seq (.reg r55_4) .ret) .skip)) (.seq (.seq (.reg r55_5) (.cond (Operand.tmp 20) (.seq (.reg r55_6) .ret) .skip)) (.seq (.seq (.reg r55_7) (.cond (Operand.tmp 25) (.seq (.reg r55_8) .ret) .skip)) (.seq (.seq (.reg r55_9) (.cond (Operand.tmp 30) (.seq (.reg r55_10) .ret) .skip)) (.seq (.seq (.reg r55_11) (.cond (Operand.tmp 36) (.seq (.reg r55_12) .ret) .skip)) (.seq (.reg r55_13) .ret))))))))
def i55 : FnI := ⟨37, [(ResultVar.tmp 4)], c55, 0, [[0, 1, 0, 0, 0, 1], [0, 1, 0, 0, 0, 1]], [[0]], false, false, 0⟩
-- loop.example/g00344/laws.eqOffer
def r21_0 : List PO := [⟨(some 2), (Op.box 39 (Operand.tmp 0)), none⟩,
  ⟨(some 3), (Op.box 39 (Operand.tmp 1)), none⟩,
  ⟨(some 4), (Op.assign (Operand.const (Value.bool false))), none⟩]
attribute [go_sem] r21_0
def r21_1 : List PO := [⟨(some 5), (Op.fieldAddr 39 (Operand.tmp 2) 0), none⟩,
  ⟨(some 6), (Op.load 3 (Operand.tmp 5)), none⟩,
  ⟨(some 7), (Op.fieldAddr 39 (Operand.tmp 3) 0), none⟩,
  ⟨(some 8), (Op.load 3 (Operand.tmp 7)), none⟩,
  ⟨(some 9), (Op.binOp BinOp.neq 3 (Operand.tmp 6) (Operand.tmp 8) 3), none⟩]
attribute [go_sem] r21_1
def r21_2 : List PO := [⟨(some 4), (Op.assign (Operand.const (Value.bool false))), none⟩]
attribute [go_sem] r21_2
def r21_3 : List PO := [⟨(some 10), (Op.fieldAddr 39 (Operand.tmp 2) 1), none⟩,
  ⟨(some 11), (Op.load 37 (Operand.tmp 10)), none⟩,
  ⟨(some 12), (Op.fieldAddr 39 (Operand.tmp 3) 1), none⟩,
  ⟨(some 13), (Op.load 37 (Operand.tmp 12)), none⟩,
  ⟨(some 14), (Op.call { callee := (Callee.value (Operand.func 55)), args := #[(Operand.tmp 11), (Operand.tmp 13)], argTypes := #[37, 37] }), none⟩,
  ⟨(some 15), (Op.unOp UnOp.not 4 (Operand.tmp 14)), none⟩]
attribute [go_sem] r21_3
def r21_4 : List PO := [⟨(some 4), (Op.assign (Operand.const (Value.bool false))), none⟩]
attribute [go_sem] r21_4
def r21_5 : List PO := [⟨(some 4), (Op.assign (Operand.const (Value.bool true))), none⟩]
attribute [go_sem] r21_5
def c21 : PC := (.seq (.reg r21_0) (.seq (.seq (.reg r21_1) (.cond (Operand.tmp 9) (.seq (.reg r21_2) .ret) .skip)) (.seq (.seq (.reg r21_3) (.cond (Operand.tmp 15) (.seq (.reg r21_4) .ret) .skip)) (.seq (.reg r21_5) .ret))))
def i21 : FnI := ⟨16, [(ResultVar.tmp 4)], c21, 0, [[0, 0, 1, 0, 0, 0, 1], [0, 0, 1, 0, 0, 0, 1]], [[0]], false, false, 0⟩
-- loop.example/g00344/laws.FnExactCompareOffers
def r4_12 : List PO := [⟨(some 40), (Op.move (Operand.tmp 10)), none⟩,
  ⟨(some 41), (Op.move (Operand.tmp 6)), none⟩,
  ⟨(some 42), (Op.binOp BinOp.neq 3 (Operand.tmp 40) (Operand.tmp 41) 3), none⟩,
  ⟨(some 43), (Op.move (Operand.tmp 42)), none⟩,
  ⟨(some 44), (Op.move (Operand.tmp 11)), (some (43, false))⟩,
  ⟨(some 45), (Op.move (Operand.tmp 7)), (some (43, false))⟩,
  ⟨(some 46), (Op.binOp BinOp.neq 4 (Operand.tmp 44) (Operand.tmp 45) 4), (some (43, false))⟩,
  ⟨(some 47), (Op.pick (Operand.tmp 43) (Operand.const (Value.bool true)) (Operand.tmp 46)), none⟩]
attribute [go_sem] r4_12
def k4_1 : PC := (.post (.reg r4_12) ⟨[2, 3, 8, 9, 47], [.old 0, .old 1, .old 2, .old 3, .old 4, .old 5, .old 6, .old 7]⟩)
def r4_0 : List PO := [⟨(some 2), (Op.box 33 (Operand.tmp 0)), none⟩,
  ⟨(some 3), (Op.box 33 (Operand.tmp 1)), none⟩,
  ⟨(some 4), (Op.assign (Operand.const (Value.bool false))), none⟩]
attribute [go_sem] r4_0
def r4_1 : List PO := [⟨(some 5), (Op.assign (Operand.const (Value.int IntKind.i64 1048576))), none⟩]
attribute [go_sem] r4_1
def r4_2 : List PO := [⟨(some 12), (Op.load 33 (Operand.tmp 2)), none⟩,
  ⟨(some 13), (Op.move (Operand.tmp 5)), none⟩,
  ⟨(some 14), (Op.call { callee := (Callee.value (Operand.func 17)), args := #[(Operand.tmp 12), (Operand.tmp 13)], argTypes := #[33, 3] }), none⟩,
  ⟨(some 5), (Op.assign (Operand.tmp 14)), none⟩]
attribute [go_sem] r4_2
def r4_3 : List PO := [⟨(some 15), (Op.move (Operand.tmp 5)), none⟩,
  ⟨(some 16), (Op.binOp BinOp.lss 3 (Operand.tmp 15) (Operand.const (Value.int IntKind.i64 0)) 3), none⟩]
attribute [go_sem] r4_3
def r4_4 : List PO := [⟨(some 4), (Op.assign (Operand.const (Value.bool true))), none⟩]
attribute [go_sem] r4_4
def r4_5 : List PO := [⟨(some 17), (Op.load 33 (Operand.tmp 3)), none⟩,
  ⟨(some 18), (Op.move (Operand.tmp 5)), none⟩,
  ⟨(some 19), (Op.call { callee := (Callee.value (Operand.func 17)), args := #[(Operand.tmp 17), (Operand.tmp 18)], argTypes := #[33, 3] }), none⟩,
  ⟨(some 5), (Op.assign (Operand.tmp 19)), none⟩]
attribute [go_sem] r4_5
def r4_6 : List PO := [⟨(some 20), (Op.move (Operand.tmp 5)), none⟩,
  ⟨(some 21), (Op.binOp BinOp.lss 3 (Operand.tmp 20) (Operand.const (Value.int IntKind.i64 0)) 3), none⟩]
attribute [go_sem] r4_6
def r4_7 : List PO := [⟨(some 4), (Op.assign (Operand.const (Value.bool true))), none⟩]
attribute [go_sem] r4_7
def r4_8 : List PO := [⟨(some 23), (Op.load 33 (Operand.tmp 2)), none⟩,
  ⟨(some 24), (Op.call { callee := (Callee.value (Operand.func 19)), args := #[(Operand.tmp 23)], argTypes := #[33] }), none⟩,
  ⟨(some 25), (Op.load 33 (Operand.tmp 3)), none⟩,
  ⟨(some 26), (Op.call { callee := (Callee.value (Operand.func 19)), args := #[(Operand.tmp 25)], argTypes := #[33] }), none⟩,
  ⟨(some 27), (Op.call { callee := (Callee.value (Operand.func 18)), args := #[(Operand.tmp 24), (Operand.tmp 26)], argTypes := #[39, 39] }), none⟩,
  ⟨(some 22), (Op.move (Operand.tmp 27)), none⟩,
  ⟨(some 28), (Op.extract (Operand.tmp 22) 0), none⟩,
  ⟨(some 29), (Op.extract (Operand.tmp 22) 1), none⟩,
  ⟨(some 6), (Op.assign (Operand.tmp 28)), none⟩,
  ⟨(some 7), (Op.assign (Operand.tmp 29)), none⟩]
attribute [go_sem] r4_8
def r4_9 : List PO := [⟨(some 30), (Op.load 33 (Operand.tmp 2)), none⟩,
  ⟨(some 31), (Op.call { callee := (Callee.value (Operand.func 19)), args := #[(Operand.tmp 30)], argTypes := #[33] }), none⟩,
  ⟨(some 8), (Op.alloc 39), none⟩,
  ⟨none, (Op.store 39 (Operand.tmp 8) (Operand.tmp 31)), none⟩]
attribute [go_sem] r4_9
def r4_10 : List PO := [⟨(some 32), (Op.load 33 (Operand.tmp 3)), none⟩,
  ⟨(some 33), (Op.call { callee := (Callee.value (Operand.func 19)), args := #[(Operand.tmp 32)], argTypes := #[33] }), none⟩,
  ⟨(some 9), (Op.alloc 39), none⟩,
  ⟨none, (Op.store 39 (Operand.tmp 9) (Operand.tmp 33)), none⟩]
attribute [go_sem] r4_10
def r4_11 : List PO := [⟨(some 35), (Op.load 39 (Operand.tmp 8)), none⟩,
  ⟨(some 36), (Op.load 39 (Operand.tmp 9)), none⟩,
  ⟨(some 37), (Op.call { callee := (Callee.value (Operand.func 20)), args := #[(Operand.tmp 35), (Operand.tmp 36)], argTypes := #[39, 39] }), none⟩,
  ⟨(some 34), (Op.move (Operand.tmp 37)), none⟩,
  ⟨(some 38), (Op.extract (Operand.tmp 34) 0), none⟩,
  ⟨(some 39), (Op.extract (Operand.tmp 34) 1), none⟩,
  ⟨(some 10), (Op.assign (Operand.tmp 38)), none⟩,
  ⟨(some 11), (Op.assign (Operand.tmp 39)), none⟩]
attribute [go_sem] r4_11
def r4_13 : List PO := [⟨(some 4), (Op.assign (Operand.const (Value.bool false))), none⟩]
attribute [go_sem] r4_13
def r4_14 : List PO := [⟨(some 48), (Op.load 39 (Operand.tmp 8)), none⟩,
  ⟨(some 49), (Op.load 33 (Operand.tmp 2)), none⟩,
  ⟨(some 50), (Op.call { callee := (Callee.value (Operand.func 19)), args := #[(Operand.tmp 49)], argTypes := #[33] }), none⟩,
  ⟨(some 51), (Op.call { callee := (Callee.value (Operand.func 21)), args := #[(Operand.tmp 48), (Operand.tmp 50)], argTypes := #[39, 39] }), none⟩,
  ⟨(some 52), (Op.unOp UnOp.not 4 (Operand.tmp 51)), none⟩]
attribute [go_sem] r4_14
def r4_15 : List PO := [⟨(some 4), (Op.assign (Operand.const (Value.bool false))), none⟩]
attribute [go_sem] r4_15
def r4_16 : List PO := [⟨(some 53), (Op.load 39 (Operand.tmp 9)), none⟩,
  ⟨(some 54), (Op.load 33 (Operand.tmp 3)), none⟩,
  ⟨(some 55), (Op.call { callee := (Callee.value (Operand.func 19)), args := #[(Operand.tmp 54)], argTypes := #[33] }), none⟩,
  ⟨(some 56), (Op.call { callee := (Callee.value (Operand.func 21)), args := #[(Operand.tmp 53), (Operand.tmp 55)], argTypes := #[39, 39] }), none⟩,
  ⟨(some 57), (Op.unOp UnOp.not 4 (Operand.tmp 56)), none⟩]
attribute [go_sem] r4_16
def r4_17 : List PO := [⟨(some 4), (Op.assign (Operand.const (Value.bool false))), none⟩]
attribute [go_sem] r4_17
def r4_18 : List PO := [⟨(some 4), (Op.assign (Operand.const (Value.bool true))), none⟩]
attribute [go_sem] r4_18
def c4 : PC := (.seq (.reg r4_0) (.seq (.reg r4_1) (.seq (.reg r4_2) (.seq (.seq (.reg r4_3) (.cond (Operand.tmp 16) (.seq (.reg r4_4) .ret) .skip)) (.seq (.reg r4_5) (.seq (.seq (.reg r4_6) (.cond (Operand.tmp 21) (.seq (.reg r4_7) .ret) .skip)) (.seq (.fz r4_8) (.seq (.reg r4_9) (.seq (.reg r4_10) (.seq (.reg r4_11) (.seq (.seq (.pre ⟨[2, 3, 6, 7, 8, 9, 10, 11], [.old 0, .old 1, .old 4, .old 2, .old 3, .old 7, .old 5, .old 6]⟩ k4_1) (.cond (Operand.tmp 47) (.seq (.reg r4_13) .ret) .skip)) (.seq (.seq (.fz r4_14) (.cond (Operand.tmp 52) (.seq (.reg r4_15) .ret) .skip)) (.seq (.seq (.fz r4_16) (.cond (Operand.tmp 57) (.seq (.reg r4_17) .ret) .skip)) (.seq (.reg r4_18) .ret))))))))))))))
def i4 : FnI := ⟨58, [(ResultVar.tmp 4)], c4, 0, [[0, 0, 1, 0, 0, 0, 1], [0, 0, 1, 0, 0, 0, 1]], [[0]], false, false, 0⟩
def tys : List (Nat × TyI) := [(3, ⟨1, 8, false, [.int .i64 0], [0], 0, [], .int .i64, false⟩),
  (4, ⟨1, 1, false, [.bool false], [0], 0, [], .bool, false⟩),
  (25, ⟨1, 24, false, [.nil], [7], 39, [], .other, false⟩),
  (29, ⟨1, 24, false, [.nil], [1], 3, [], .other, false⟩),
  (31, ⟨6, 80, true, [.int .i64 0, .nil, .int .i64 0, .int .i64 0, .int .i64 0, .nil], [0, 1, 0, 0, 0, 1], 0, [(0, 1, false), (1, 1, false), (2, 1, false), (3, 1, false), (4, 1, false), (5, 1, false)], .other, false⟩),
  (33, ⟨7, 88, true, [.int .i64 0, .int .i64 0, .nil, .int .i64 0, .int .i64 0, .int .i64 0, .nil], [0, 0, 1, 0, 0, 0, 1], 0, [(0, 1, false), (1, 6, true)], .other, false⟩),
  (37, ⟨6, 80, true, [.int .i64 0, .nil, .int .i64 0, .int .i64 0, .int .i64 0, .nil], [0, 1, 0, 0, 0, 1], 0, [(0, 1, false), (1, 1, false), (2, 1, false), (3, 1, false), (4, 1, false), (5, 1, false)], .other, false⟩),
  (39, ⟨7, 88, true, [.int .i64 0, .int .i64 0, .nil, .int .i64 0, .int .i64 0, .int .i64 0, .nil], [0, 0, 1, 0, 0, 0, 1], 0, [(0, 1, false), (1, 6, true)], .other, false⟩)]
def fns : List (Nat × FnI) := [(4, i4), (13, i13), (17, i17), (18, i18), (19, i19), (20, i20), (21, i21), (33, i33), (48, i48), (49, i49), (50, i50), (51, i51), (52, i52), (53, i53), (54, i54), (55, i55), (66, i66), (75, i75), (76, i76), (77, i77), (78, i78), (79, i79), (80, i80), (81, i81), (82, i82), (91, i91), (98, i98), (99, i99), (100, i100), (101, i101), (102, i102), (109, i109), (110, i110), (115, i115)]
def T : Tab := mkTab tys fns
theorem ty3 : T.ty 3 = some ⟨1, 8, false, [.int .i64 0], [0], 0, [], .int .i64, false⟩ := rfl
theorem base3 : T.baseOf 3 = Bs.int .i64 := rfl
theorem ty4 : T.ty 4 = some ⟨1, 1, false, [.bool false], [0], 0, [], .bool, false⟩ := rfl
theorem base4 : T.baseOf 4 = Bs.bool := rfl
theorem ty25 : T.ty 25 = some ⟨1, 24, false, [.nil], [7], 39, [], .other, false⟩ := rfl
theorem base25 : T.baseOf 25 = Bs.other := rfl
theorem elem25 : T.elemOf 25 = some ⟨7, 88, true, [.int .i64 0, .int .i64 0, .nil, .int .i64 0, .int .i64 0, .int .i64 0, .nil], [0, 0, 1, 0, 0, 0, 1], 0, [(0, 1, false), (1, 6, true)], .other, false⟩ := rfl
theorem ty29 : T.ty 29 = some ⟨1, 24, false, [.nil], [1], 3, [], .other, false⟩ := rfl
theorem base29 : T.baseOf 29 = Bs.other := rfl
theorem elem29 : T.elemOf 29 = some ⟨1, 8, false, [.int .i64 0], [0], 0, [], .int .i64, false⟩ := rfl
theorem ty31 : T.ty 31 = some ⟨6, 80, true, [.int .i64 0, .nil, .int .i64 0, .int .i64 0, .int .i64 0, .nil], [0, 1, 0, 0, 0, 1], 0, [(0, 1, false), (1, 1, false), (2, 1, false), (3, 1, false), (4, 1, false), (5, 1, false)], .other, false⟩ := rfl
theorem base31 : T.baseOf 31 = Bs.other := rfl
theorem ty33 : T.ty 33 = some ⟨7, 88, true, [.int .i64 0, .int .i64 0, .nil, .int .i64 0, .int .i64 0, .int .i64 0, .nil], [0, 0, 1, 0, 0, 0, 1], 0, [(0, 1, false), (1, 6, true)], .other, false⟩ := rfl
theorem base33 : T.baseOf 33 = Bs.other := rfl
theorem ty37 : T.ty 37 = some ⟨6, 80, true, [.int .i64 0, .nil, .int .i64 0, .int .i64 0, .int .i64 0, .nil], [0, 1, 0, 0, 0, 1], 0, [(0, 1, false), (1, 1, false), (2, 1, false), (3, 1, false), (4, 1, false), (5, 1, false)], .other, false⟩ := rfl
theorem base37 : T.baseOf 37 = Bs.other := rfl
theorem ty39 : T.ty 39 = some ⟨7, 88, true, [.int .i64 0, .int .i64 0, .nil, .int .i64 0, .int .i64 0, .int .i64 0, .nil], [0, 0, 1, 0, 0, 0, 1], 0, [(0, 1, false), (1, 6, true)], .other, false⟩ := rfl
theorem base39 : T.baseOf 39 = Bs.other := rfl
attribute [go_sem] ty3 base3 ty4 base4 ty25 base25 elem25 ty29 base29 elem29 ty31 base31 ty33 base33 ty37 base37 ty39 base39
theorem ok4 : FnOk Try.prog (4, i4) := ⟨Try.f4, _, Try.func4, rfl, by kernel_rfl, rfl, rfl, by kernel_rfl⟩
theorem ok13 : FnOk Try.prog (13, i13) := ⟨Try.f13, _, Try.func13, rfl, by kernel_rfl, rfl, rfl, by kernel_rfl⟩
theorem ok17 : FnOk Try.prog (17, i17) := ⟨Try.f17, _, Try.func17, rfl, by kernel_rfl, rfl, rfl, by kernel_rfl⟩
theorem ok18 : FnOk Try.prog (18, i18) := ⟨Try.f18, _, Try.func18, rfl, by kernel_rfl, rfl, rfl, by kernel_rfl⟩
theorem ok19 : FnOk Try.prog (19, i19) := ⟨Try.f19, _, Try.func19, rfl, by kernel_rfl, rfl, rfl, by kernel_rfl⟩
theorem ok20 : FnOk Try.prog (20, i20) := ⟨Try.f20, _, Try.func20, rfl, by kernel_rfl, rfl, rfl, by kernel_rfl⟩
theorem ok21 : FnOk Try.prog (21, i21) := ⟨Try.f21, _, Try.func21, rfl, by kernel_rfl, rfl, rfl, by kernel_rfl⟩
theorem ok33 : FnOk Try.prog (33, i33) := ⟨Try.f33, _, Try.func33, rfl, by kernel_rfl, rfl, rfl, by kernel_rfl⟩
theorem ok48 : FnOk Try.prog (48, i48) := ⟨Try.f48, _, Try.func48, rfl, by kernel_rfl, rfl, rfl, by kernel_rfl⟩
theorem ok49 : FnOk Try.prog (49, i49) := ⟨Try.f49, _, Try.func49, rfl, by kernel_rfl, rfl, rfl, by kernel_rfl⟩
theorem ok50 : FnOk Try.prog (50, i50) := ⟨Try.f50, _, Try.func50, rfl, by kernel_rfl, rfl, rfl, by kernel_rfl⟩
theorem ok51 : FnOk Try.prog (51, i51) := ⟨Try.f51, _, Try.func51, rfl, by kernel_rfl, rfl, rfl, by kernel_rfl⟩
theorem ok52 : FnOk Try.prog (52, i52) := ⟨Try.f52, _, Try.func52, rfl, by kernel_rfl, rfl, rfl, by kernel_rfl⟩
theorem ok53 : FnOk Try.prog (53, i53) := ⟨Try.f53, _, Try.func53, rfl, by kernel_rfl, rfl, rfl, by kernel_rfl⟩
theorem ok54 : FnOk Try.prog (54, i54) := ⟨Try.f54, _, Try.func54, rfl, by kernel_rfl, rfl, rfl, by kernel_rfl⟩
theorem ok55 : FnOk Try.prog (55, i55) := ⟨Try.f55, _, Try.func55, rfl, by kernel_rfl, rfl, rfl, by kernel_rfl⟩
theorem ok66 : FnOk Try.prog (66, i66) := ⟨Try.f66, _, Try.func66, rfl, by kernel_rfl, rfl, rfl, by kernel_rfl⟩
theorem ok75 : FnOk Try.prog (75, i75) := ⟨Try.f75, _, Try.func75, rfl, by kernel_rfl, rfl, rfl, by kernel_rfl⟩
theorem ok76 : FnOk Try.prog (76, i76) := ⟨Try.f76, _, Try.func76, rfl, by kernel_rfl, rfl, rfl, by kernel_rfl⟩
theorem ok77 : FnOk Try.prog (77, i77) := ⟨Try.f77, _, Try.func77, rfl, by kernel_rfl, rfl, rfl, by kernel_rfl⟩
theorem ok78 : FnOk Try.prog (78, i78) := ⟨Try.f78, _, Try.func78, rfl, by kernel_rfl, rfl, rfl, by kernel_rfl⟩
theorem ok79 : FnOk Try.prog (79, i79) := ⟨Try.f79, _, Try.func79, rfl, by kernel_rfl, rfl, rfl, by kernel_rfl⟩
theorem ok80 : FnOk Try.prog (80, i80) := ⟨Try.f80, _, Try.func80, rfl, by kernel_rfl, rfl, rfl, by kernel_rfl⟩
theorem ok81 : FnOk Try.prog (81, i81) := ⟨Try.f81, _, Try.func81, rfl, by kernel_rfl, rfl, rfl, by kernel_rfl⟩
theorem ok82 : FnOk Try.prog (82, i82) := ⟨Try.f82, _, Try.func82, rfl, by kernel_rfl, rfl, rfl, by kernel_rfl⟩
theorem ok91 : FnOk Try.prog (91, i91) := ⟨Try.f91, _, Try.func91, rfl, by kernel_rfl, rfl, rfl, by kernel_rfl⟩
theorem ok98 : FnOk Try.prog (98, i98) := ⟨Try.f98, _, Try.func98, rfl, by kernel_rfl, rfl, rfl, by kernel_rfl⟩
theorem ok99 : FnOk Try.prog (99, i99) := ⟨Try.f99, _, Try.func99, rfl, by kernel_rfl, rfl, rfl, by kernel_rfl⟩
theorem ok100 : FnOk Try.prog (100, i100) := ⟨Try.f100, _, Try.func100, rfl, by kernel_rfl, rfl, rfl, by kernel_rfl⟩
theorem ok101 : FnOk Try.prog (101, i101) := ⟨Try.f101, _, Try.func101, rfl, by kernel_rfl, rfl, rfl, by kernel_rfl⟩
theorem ok102 : FnOk Try.prog (102, i102) := ⟨Try.f102, _, Try.func102, rfl, by kernel_rfl, rfl, rfl, by kernel_rfl⟩
theorem ok109 : FnOk Try.prog (109, i109) := ⟨Try.f109, _, Try.func109, rfl, by kernel_rfl, rfl, rfl, by kernel_rfl⟩
theorem ok110 : FnOk Try.prog (110, i110) := ⟨Try.f110, _, Try.func110, rfl, by kernel_rfl, rfl, rfl, by kernel_rfl⟩
theorem ok115 : FnOk Try.prog (115, i115) := ⟨Try.f115, _, Try.func115, rfl, by kernel_rfl, rfl, rfl, by kernel_rfl⟩
theorem tab : TabOk Try.prog T := tabOk_of (by kernel_rfl) (.cons ok4 (.cons ok13 (.cons ok17 (.cons ok18 (.cons ok19 (.cons ok20 (.cons ok21 (.cons ok33 (.cons ok48 (.cons ok49 (.cons ok50 (.cons ok51 (.cons ok52 (.cons ok53 (.cons ok54 (.cons ok55 (.cons ok66 (.cons ok75 (.cons ok76 (.cons ok77 (.cons ok78 (.cons ok79 (.cons ok80 (.cons ok81 (.cons ok82 (.cons ok91 (.cons ok98 (.cons ok99 (.cons ok100 (.cons ok101 (.cons ok102 (.cons ok109 (.cons ok110 (.cons ok115 (.nil)))))))))))))))))))))))))))))))))))
theorem fn4 : T.fn 4 = some i4 := rfl
theorem fn13 : T.fn 13 = some i13 := rfl
theorem fn17 : T.fn 17 = some i17 := rfl
theorem fn18 : T.fn 18 = some i18 := rfl
theorem fn19 : T.fn 19 = some i19 := rfl
theorem fn20 : T.fn 20 = some i20 := rfl
theorem fn21 : T.fn 21 = some i21 := rfl
theorem fn33 : T.fn 33 = some i33 := rfl
theorem fn48 : T.fn 48 = some i48 := rfl
theorem fn49 : T.fn 49 = some i49 := rfl
theorem fn50 : T.fn 50 = some i50 := rfl
theorem fn51 : T.fn 51 = some i51 := rfl
theorem fn52 : T.fn 52 = some i52 := rfl
theorem fn53 : T.fn 53 = some i53 := rfl
theorem fn54 : T.fn 54 = some i54 := rfl
theorem fn55 : T.fn 55 = some i55 := rfl
theorem fn66 : T.fn 66 = some i66 := rfl
theorem fn75 : T.fn 75 = some i75 := rfl
theorem fn76 : T.fn 76 = some i76 := rfl
theorem fn77 : T.fn 77 = some i77 := rfl
theorem fn78 : T.fn 78 = some i78 := rfl
theorem fn79 : T.fn 79 = some i79 := rfl
theorem fn80 : T.fn 80 = some i80 := rfl
theorem fn81 : T.fn 81 = some i81 := rfl
theorem fn82 : T.fn 82 = some i82 := rfl
theorem fn91 : T.fn 91 = some i91 := rfl
theorem fn98 : T.fn 98 = some i98 := rfl
theorem fn99 : T.fn 99 = some i99 := rfl
theorem fn100 : T.fn 100 = some i100 := rfl
theorem fn101 : T.fn 101 = some i101 := rfl
theorem fn102 : T.fn 102 = some i102 := rfl
theorem fn109 : T.fn 109 = some i109 := rfl
theorem fn110 : T.fn 110 = some i110 := rfl
theorem fn115 : T.fn 115 = some i115 := rfl
end Go.Pi.Ytlcanbihlfncoaa.CompareOffers
