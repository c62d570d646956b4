/- What functions of the program answer, and that the law answers true at every input; no condition -/
import Derived.Test.YtichbkallidkcaaProg
import Derived.Test.YtichbkallidkcaaPiC
set_option linter.all false
/- The program's tables for Pi: types and functions, as they stand in the loaded program. -/
namespace Go.Pi.Ytichbkallidkcaa.IsValleyFree
open Go Go.Proofs Go.Pi
set_option maxRecDepth 100000

-- loop.example/g00344/laws.FnExactIsValleyFree
def r7_0 : List PO := [⟨(some 6), (Op.assign (Operand.const (Value.bool false))), none⟩]
def r7_1 : List PO := [⟨(some 14), (Op.move (Operand.tmp 2)), none⟩,
  ⟨(some 15), (Op.call { callee := (Callee.builtin Builtin.len), args := #[(Operand.tmp 14)], argTypes := #[36] }), none⟩,
  ⟨(some 16), (Op.binOp BinOp.gtr 3 (Operand.tmp 15) (Operand.const (Value.int IntKind.i64 1048576)) 3), none⟩]
def r7_2 : List PO := [⟨(some 6), (Op.assign (Operand.const (Value.bool true))), none⟩]
def r7_3 : List PO := [⟨(some 7), (Op.assign (Operand.const (Value.int IntKind.i64 1048576))), none⟩]
def r7_4 : List PO := [⟨(some 17), (Op.move (Operand.tmp 1)), none⟩,
  ⟨(some 18), (Op.move (Operand.tmp 7)), none⟩,
  ⟨(some 19), (Op.call { callee := (Callee.value (Operand.func 11)), args := #[(Operand.tmp 17), (Operand.tmp 18)], argTypes := #[22, 3] }), none⟩,
  ⟨(some 7), (Op.assign (Operand.tmp 19)), none⟩]
def r7_5 : List PO := [⟨(some 20), (Op.move (Operand.tmp 7)), none⟩,
  ⟨(some 21), (Op.binOp BinOp.lss 3 (Operand.tmp 20) (Operand.const (Value.int IntKind.i64 0)) 3), none⟩]
def r7_6 : List PO := [⟨(some 6), (Op.assign (Operand.const (Value.bool true))), none⟩]
def r7_7 : List PO := [⟨(some 23), (Op.move (Operand.tmp 0)), none⟩,
  ⟨(some 24), (Op.move (Operand.tmp 1)), none⟩,
  ⟨(some 25), (Op.call { callee := (Callee.value (Operand.func 13)), args := #[(Operand.tmp 24)], argTypes := #[22] }), none⟩,
  ⟨(some 26), (Op.move (Operand.tmp 2)), none⟩,
  ⟨(some 27), (Op.call { callee := (Callee.value (Operand.func 23)), args := #[(Operand.tmp 26)], argTypes := #[36] }), none⟩,
  ⟨(some 28), (Op.call { callee := (Callee.value (Operand.func 22)), args := #[(Operand.tmp 23), (Operand.tmp 25), (Operand.tmp 27)], argTypes := #[3, 25, 36] }), none⟩,
  ⟨(some 22), (Op.move (Operand.tmp 28)), none⟩,
  ⟨(some 29), (Op.extract (Operand.tmp 22) 0), none⟩,
  ⟨(some 30), (Op.extract (Operand.tmp 22) 1), none⟩,
  ⟨(some 8), (Op.assign (Operand.tmp 29)), none⟩,
  ⟨(some 9), (Op.assign (Operand.tmp 30)), none⟩]
def r7_8 : List PO := [⟨(some 31), (Op.move (Operand.tmp 1)), none⟩,
  ⟨(some 32), (Op.call { callee := (Callee.value (Operand.func 13)), args := #[(Operand.tmp 31)], argTypes := #[22] }), none⟩,
  ⟨(some 10), (Op.assign (Operand.tmp 32)), none⟩]
def r7_9 : List PO := [⟨(some 33), (Op.move (Operand.tmp 2)), none⟩,
  ⟨(some 34), (Op.call { callee := (Callee.value (Operand.func 23)), args := #[(Operand.tmp 33)], argTypes := #[36] }), none⟩,
  ⟨(some 11), (Op.assign (Operand.tmp 34)), none⟩]
def r7_10 : List PO := [⟨(some 36), (Op.move (Operand.tmp 0)), none⟩,
  ⟨(some 37), (Op.move (Operand.tmp 10)), none⟩,
  ⟨(some 38), (Op.move (Operand.tmp 11)), none⟩,
  ⟨(some 39), (Op.call { callee := (Callee.value (Operand.func 24)), args := #[(Operand.tmp 36), (Operand.tmp 37), (Operand.tmp 38)], argTypes := #[3, 25, 36] }), none⟩,
  ⟨(some 35), (Op.move (Operand.tmp 39)), none⟩,
  ⟨(some 40), (Op.extract (Operand.tmp 35) 0), none⟩,
  ⟨(some 41), (Op.extract (Operand.tmp 35) 1), none⟩,
  ⟨(some 12), (Op.assign (Operand.tmp 40)), none⟩,
  ⟨(some 13), (Op.assign (Operand.tmp 41)), none⟩]
def r7_11 : List PO := [⟨(some 42), (Op.move (Operand.tmp 12)), none⟩,
  ⟨(some 43), (Op.move (Operand.tmp 8)), none⟩,
  ⟨(some 44), (Op.binOp BinOp.neq 4 (Operand.tmp 42) (Operand.tmp 43) 4), none⟩,
  ⟨(some 45), (Op.move (Operand.tmp 44)), none⟩,
  ⟨(some 46), (Op.move (Operand.tmp 13)), (some (45, false))⟩,
  ⟨(some 47), (Op.move (Operand.tmp 9)), (some (45, false))⟩,
  ⟨(some 48), (Op.binOp BinOp.neq 4 (Operand.tmp 46) (Operand.tmp 47) 4), (some (45, false))⟩,
  ⟨(some 49), (Op.pick (Operand.tmp 45) (Operand.const (Value.bool true)) (Operand.tmp 48)), none⟩]
def r7_12 : List PO := [⟨(some 6), (Op.assign (Operand.const (Value.bool false))), none⟩]
def r7_13 : List PO := [⟨(some 50), (Op.move (Operand.tmp 10)), none⟩,
  ⟨(some 51), (Op.move (Operand.tmp 1)), none⟩,
  ⟨(some 52), (Op.call { callee := (Callee.value (Operand.func 13)), args := #[(Operand.tmp 51)], argTypes := #[22] }), none⟩,
  ⟨(some 53), (Op.call { callee := (Callee.value (Operand.func 15)), args := #[(Operand.tmp 50), (Operand.tmp 52)], argTypes := #[25, 25] }), none⟩,
  ⟨(some 54), (Op.unOp UnOp.not 4 (Operand.tmp 53)), none⟩]
def r7_14 : List PO := [⟨(some 6), (Op.assign (Operand.const (Value.bool false))), none⟩]
def r7_15 : List PO := [⟨(some 55), (Op.move (Operand.tmp 11)), none⟩,
  ⟨(some 56), (Op.move (Operand.tmp 2)), none⟩,
  ⟨(some 57), (Op.call { callee := (Callee.value (Operand.func 23)), args := #[(Operand.tmp 56)], argTypes := #[36] }), none⟩,
  ⟨(some 58), (Op.call { callee := (Callee.value (Operand.func 25)), args := #[(Operand.tmp 55), (Operand.tmp 57)], argTypes := #[36, 36] }), none⟩,
  ⟨(some 59), (Op.unOp UnOp.not 4 (Operand.tmp 58)), none⟩]
def r7_16 : List PO := [⟨(some 6), (Op.assign (Operand.const (Value.bool false))), none⟩]
def r7_17 : List PO := [⟨(some 6), (Op.assign (Operand.const (Value.bool true))), none⟩]
def c7 : PC := (.seq (.reg r7_0) (.seq (.seq (.reg r7_1) (.cond (Operand.tmp 16) (.seq (.reg r7_2) .ret) .skip)) (.seq (.reg r7_3) (.seq (.reg r7_4) (.seq (.seq (.reg r7_5) (.cond (Operand.tmp 21) (.seq (.reg r7_6) .ret) .skip)) (.seq (.reg r7_7) (.seq (.reg r7_8) (.seq (.reg r7_9) (.seq (.reg r7_10) (.seq (.seq (.reg r7_11) (.cond (Operand.tmp 49) (.seq (.reg r7_12) .ret) .skip)) (.seq (.seq (.reg r7_13) (.cond (Operand.tmp 54) (.seq (.reg r7_14) .ret) .skip)) (.seq (.seq (.reg r7_15) (.cond (Operand.tmp 59) (.seq (.reg r7_16) .ret) .skip)) (.seq (.reg r7_17) .ret)))))))))))))
def i7 : FnI := ⟨60, [(ResultVar.tmp 6)], c7, 0, [[0], [3], [1]], [[0]], false⟩
-- loop.example/g00344/laws.szRelS
def r11_0 : List PO := [⟨(some 4), (Op.assign (Operand.const (Value.int IntKind.i64 0))), none⟩]
def r11_1 : List PO := [⟨(some 5), (Op.move (Operand.tmp 1)), none⟩,
  ⟨(some 6), (Op.move (Operand.tmp 0)), none⟩,
  ⟨(some 7), (Op.call { callee := (Callee.builtin Builtin.len), args := #[(Operand.tmp 6)], argTypes := #[22] }), none⟩,
  ⟨(some 8), (Op.binOp BinOp.sub 3 (Operand.tmp 5) (Operand.tmp 7) 3), none⟩,
  ⟨(some 1), (Op.assign (Operand.tmp 8)), none⟩]
def r11_2 : List PO := [⟨(some 9), (Op.move (Operand.tmp 1)), none⟩,
  ⟨(some 10), (Op.binOp BinOp.lss 3 (Operand.tmp 9) (Operand.const (Value.int IntKind.i64 0)) 3), none⟩]
def r11_3 : List PO := [⟨(some 4), (Op.assign (Operand.const (Value.int IntKind.i64 (-1)))), none⟩]
def r11_4 : List PO := [⟨(some 11), (Op.move (Operand.tmp 1)), none⟩,
  ⟨(some 4), (Op.assign (Operand.tmp 11)), none⟩]
def c11 : PC := (.seq (.reg r11_0) (.seq (.reg r11_1) (.seq (.seq (.reg r11_2) (.cond (Operand.tmp 10) (.seq (.reg r11_3) .ret) .skip)) (.seq (.reg r11_4) .ret))))
def i11 : FnI := ⟨12, [(ResultVar.tmp 4)], c11, 0, [[3], [0]], [[0]], false⟩
-- loop.example/g00344/spec.GoodRels
def r12_0 : List PO := [⟨(some 4), (Op.assign (Operand.const (Value.bool false))), none⟩]
def r12_1 : List PO := [⟨(some 9), (Op.move (Operand.tmp 0)), none⟩,
  ⟨(some 10), (Op.call { callee := (Callee.value (Operand.func 39)), args := #[(Operand.tmp 9), (Operand.const (Value.int IntKind.i64 1)), (Operand.const (Value.int IntKind.i64 5))], argTypes := #[3, 3, 3] }), none⟩,
  ⟨(some 11), (Op.unOp UnOp.not 4 (Operand.tmp 10)), none⟩,
  ⟨(some 12), (Op.move (Operand.tmp 11)), none⟩,
  ⟨(some 13), (Op.move (Operand.tmp 1)), (some (12, false))⟩,
  ⟨(some 14), (Op.call { callee := (Callee.builtin Builtin.len), args := #[(Operand.tmp 13)], argTypes := #[25] }), (some (12, false))⟩,
  ⟨(some 15), (Op.binOp BinOp.gtr 3 (Operand.tmp 14) (Operand.const (Value.int IntKind.i64 15)) 3), (some (12, false))⟩,
  ⟨(some 16), (Op.pick (Operand.tmp 12) (Operand.const (Value.bool true)) (Operand.tmp 15)), none⟩]
def r12_2 : List PO := [⟨(some 4), (Op.assign (Operand.const (Value.bool false))), none⟩]
def r12_3 : List PO := [⟨(some 17), (Op.move (Operand.tmp 1)), none⟩,
  ⟨(some 18), (Op.call { callee := (Callee.builtin Builtin.len), args := #[(Operand.tmp 17)], argTypes := #[25] }), none⟩,
  ⟨(some 19), (Op.move (Operand.const (Value.int IntKind.i64 0))), none⟩]
def r12_4 : List PO := [⟨(some 20), (Op.binOp BinOp.lss 3 (Operand.tmp 19) (Operand.tmp 18) 3), none⟩]
def r12_5 : List PO := [⟨(some 21), (Op.move (Operand.tmp 19)), none⟩,
  ⟨(some 22), (Op.indexAddr 25 (Operand.tmp 17) (Operand.tmp 19)), none⟩,
  ⟨(some 23), (Op.load 63 (Operand.tmp 22)), none⟩,
  ⟨(some 6), (Op.alloc 63), none⟩,
  ⟨(some 5), (Op.assign (Operand.tmp 21)), none⟩,
  ⟨none, (Op.store 63 (Operand.tmp 6) (Operand.tmp 23)), none⟩]
def r12_6 : List PO := [⟨(some 24), (Op.fieldAddr 63 (Operand.tmp 6) 0), none⟩,
  ⟨(some 25), (Op.load 3 (Operand.tmp 24)), none⟩,
  ⟨(some 26), (Op.binOp BinOp.lss 3 (Operand.tmp 25) (Operand.const (Value.int IntKind.i64 0)) 3), none⟩,
  ⟨(some 27), (Op.move (Operand.tmp 26)), none⟩,
  ⟨(some 28), (Op.fieldAddr 63 (Operand.tmp 6) 0), (some (27, false))⟩,
  ⟨(some 29), (Op.load 3 (Operand.tmp 28)), (some (27, false))⟩,
  ⟨(some 30), (Op.fieldAddr 63 (Operand.tmp 6) 1), (some (27, false))⟩,
  ⟨(some 31), (Op.load 3 (Operand.tmp 30)), (some (27, false))⟩,
  ⟨(some 32), (Op.binOp BinOp.geq 3 (Operand.tmp 29) (Operand.tmp 31) 3), (some (27, false))⟩,
  ⟨(some 33), (Op.pick (Operand.tmp 27) (Operand.const (Value.bool true)) (Operand.tmp 32)), none⟩,
  ⟨(some 34), (Op.move (Operand.tmp 33)), none⟩,
  ⟨(some 35), (Op.fieldAddr 63 (Operand.tmp 6) 1), (some (34, false))⟩,
  ⟨(some 36), (Op.load 3 (Operand.tmp 35)), (some (34, false))⟩,
  ⟨(some 37), (Op.move (Operand.tmp 0)), (some (34, false))⟩,
  ⟨(some 38), (Op.binOp BinOp.gtr 3 (Operand.tmp 36) (Operand.tmp 37) 3), (some (34, false))⟩,
  ⟨(some 39), (Op.pick (Operand.tmp 34) (Operand.const (Value.bool true)) (Operand.tmp 38)), none⟩,
  ⟨(some 40), (Op.move (Operand.tmp 39)), none⟩,
  ⟨(some 41), (Op.fieldAddr 63 (Operand.tmp 6) 2), (some (40, false))⟩,
  ⟨(some 42), (Op.load 3 (Operand.tmp 41)), (some (40, false))⟩,
  ⟨(some 43), (Op.call { callee := (Callee.value (Operand.func 39)), args := #[(Operand.tmp 42), (Operand.const (Value.int IntKind.i64 1)), (Operand.const (Value.int IntKind.i64 3))], argTypes := #[3, 3, 3] }), (some (40, false))⟩,
  ⟨(some 44), (Op.unOp UnOp.not 4 (Operand.tmp 43)), (some (40, false))⟩,
  ⟨(some 45), (Op.pick (Operand.tmp 40) (Operand.const (Value.bool true)) (Operand.tmp 44)), none⟩]
def r12_7 : List PO := [⟨(some 4), (Op.assign (Operand.const (Value.bool false))), none⟩]
def r12_8 : List PO := [⟨(some 46), (Op.move (Operand.tmp 1)), none⟩,
  ⟨(some 47), (Op.move (Operand.tmp 5)), none⟩,
  ⟨(some 48), (Op.slice 25 (Operand.tmp 46) none (some (Operand.tmp 47)) none), none⟩,
  ⟨(some 49), (Op.call { callee := (Callee.builtin Builtin.len), args := #[(Operand.tmp 48)], argTypes := #[25] }), none⟩,
  ⟨(some 50), (Op.move (Operand.const (Value.int IntKind.i64 0))), none⟩]
def r12_9 : List PO := [⟨(some 51), (Op.binOp BinOp.lss 3 (Operand.tmp 50) (Operand.tmp 49) 3), none⟩]
def r12_10 : List PO := [⟨(some 52), (Op.indexAddr 25 (Operand.tmp 48) (Operand.tmp 50)), none⟩,
  ⟨(some 53), (Op.load 63 (Operand.tmp 52)), none⟩,
  ⟨(some 8), (Op.alloc 63), none⟩,
  ⟨none, (Op.store 63 (Operand.tmp 8) (Operand.tmp 53)), none⟩]
def r12_11 : List PO := [⟨(some 54), (Op.fieldAddr 63 (Operand.tmp 8) 0), none⟩,
  ⟨(some 55), (Op.load 3 (Operand.tmp 54)), none⟩,
  ⟨(some 56), (Op.fieldAddr 63 (Operand.tmp 6) 0), none⟩,
  ⟨(some 57), (Op.load 3 (Operand.tmp 56)), none⟩,
  ⟨(some 58), (Op.binOp BinOp.eql 3 (Operand.tmp 55) (Operand.tmp 57) 3), none⟩,
  ⟨(some 59), (Op.move (Operand.tmp 58)), none⟩,
  ⟨(some 60), (Op.fieldAddr 63 (Operand.tmp 8) 1), (some (59, true))⟩,
  ⟨(some 61), (Op.load 3 (Operand.tmp 60)), (some (59, true))⟩,
  ⟨(some 62), (Op.fieldAddr 63 (Operand.tmp 6) 1), (some (59, true))⟩,
  ⟨(some 63), (Op.load 3 (Operand.tmp 62)), (some (59, true))⟩,
  ⟨(some 64), (Op.binOp BinOp.eql 3 (Operand.tmp 61) (Operand.tmp 63) 3), (some (59, true))⟩,
  ⟨(some 65), (Op.pick (Operand.tmp 59) (Operand.tmp 64) (Operand.const (Value.bool false))), none⟩]
def r12_12 : List PO := [⟨(some 4), (Op.assign (Operand.const (Value.bool false))), none⟩]
def r12_13 : List PO := [⟨(some 66), (Op.binOp BinOp.add 3 (Operand.tmp 50) (Operand.const (Value.int IntKind.i64 1)) 3), none⟩,
  ⟨(some 50), (Op.move (Operand.tmp 66)), none⟩]
def l12_0 : PC := (.seq (.reg r12_9) (.seq (.cond (Operand.tmp 51) .skip (.exit 2)) (.seq (.block 3 (.seq (.reg r12_10) (.seq (.reg r12_11) (.cond (Operand.tmp 65) (.seq (.reg r12_12) .ret) .skip)))) (.reg r12_13))))
def r12_14 : List PO := [⟨(some 67), (Op.binOp BinOp.add 3 (Operand.tmp 19) (Operand.const (Value.int IntKind.i64 1)) 3), none⟩,
  ⟨(some 19), (Op.move (Operand.tmp 67)), none⟩]
def l12_1 : PC := (.seq (.reg r12_4) (.seq (.cond (Operand.tmp 20) .skip (.exit 0)) (.seq (.block 1 (.seq (.reg r12_5) (.seq (.seq (.reg r12_6) (.cond (Operand.tmp 45) (.seq (.reg r12_7) .ret) .skip)) (.seq (.reg r12_8) (.block 2 (.loop l12_0)))))) (.reg r12_14))))
def r12_15 : List PO := [⟨(some 4), (Op.assign (Operand.const (Value.bool true))), none⟩]
def c12 : PC := (.seq (.reg r12_0) (.seq (.seq (.reg r12_1) (.cond (Operand.tmp 16) (.seq (.reg r12_2) .ret) .skip)) (.seq (.seq (.reg r12_3) (.block 0 (.loop l12_1))) (.seq (.reg r12_15) .ret))))
def i12 : FnI := ⟨68, [(ResultVar.tmp 4)], c12, 0, [[0], [3]], [[0]], false⟩
-- loop.example/g00344/laws.toRelS
def r13_0 : List PO := [⟨(some 2), (Op.assign (Operand.const (Value.slice none 0 0))), none⟩]
def r13_1 : List PO := [⟨(some 5), (Op.move (Operand.tmp 0)), none⟩,
  ⟨(some 6), (Op.call { callee := (Callee.builtin Builtin.len), args := #[(Operand.tmp 5)], argTypes := #[22] }), none⟩,
  ⟨(some 7), (Op.makeSlice 25 (Operand.tmp 6) (Operand.tmp 6)), none⟩,
  ⟨(some 3), (Op.assign (Operand.tmp 7)), none⟩]
def r13_2 : List PO := [⟨(some 4), (Op.assign (Operand.const (Value.int IntKind.i64 0))), none⟩]
def r13_3 : List PO := [⟨(some 8), (Op.move (Operand.tmp 4)), none⟩,
  ⟨(some 9), (Op.move (Operand.tmp 0)), none⟩,
  ⟨(some 10), (Op.call { callee := (Callee.builtin Builtin.len), args := #[(Operand.tmp 9)], argTypes := #[22] }), none⟩,
  ⟨(some 11), (Op.binOp BinOp.lss 3 (Operand.tmp 8) (Operand.tmp 10) 3), none⟩]
def r13_5 : List PO := [⟨(some 14), (Op.move (Operand.tmp 3)), none⟩,
  ⟨(some 15), (Op.move (Operand.tmp 4)), none⟩,
  ⟨(some 16), (Op.move (Operand.tmp 0)), none⟩,
  ⟨(some 17), (Op.move (Operand.tmp 4)), none⟩,
  ⟨(some 18), (Op.indexAddr 22 (Operand.tmp 16) (Operand.tmp 17)), none⟩,
  ⟨(some 19), (Op.load 65 (Operand.tmp 18)), none⟩,
  ⟨(some 20), (Op.call { callee := (Callee.value (Operand.func 40)), args := #[(Operand.tmp 19)], argTypes := #[65] }), none⟩,
  ⟨(some 21), (Op.indexAddr 25 (Operand.tmp 14) (Operand.tmp 15)), none⟩,
  ⟨none, (Op.store 63 (Operand.tmp 21) (Operand.tmp 20)), none⟩]
def r13_4 : List PO := [⟨(some 12), (Op.move (Operand.tmp 4)), none⟩,
  ⟨(some 13), (Op.binOp BinOp.add 3 (Operand.tmp 12) (Operand.const (Value.int IntKind.i64 1)) 3), none⟩,
  ⟨(some 4), (Op.assign (Operand.tmp 13)), none⟩]
def l13_0 : PC := (.seq (.seq (.reg r13_3) (.cond (Operand.tmp 11) .skip (.exit 0))) (.seq (.block 1 (.reg r13_5)) (.reg r13_4)))
def r13_6 : List PO := [⟨(some 22), (Op.move (Operand.tmp 3)), none⟩,
  ⟨(some 2), (Op.assign (Operand.tmp 22)), none⟩]
def c13 : PC := (.seq (.reg r13_0) (.seq (.reg r13_1) (.seq (.seq (.reg r13_2) (.block 0 (.loop l13_0))) (.seq (.reg r13_6) .ret))))
def i13 : FnI := ⟨23, [(ResultVar.tmp 2)], c13, 0, [[3]], [[3]], false⟩
-- loop.example/g00344/impl.GoodRels
def r14_0 : List PO := [⟨(some 4), (Op.assign (Operand.const (Value.bool false))), none⟩]
def r14_1 : List PO := [⟨(some 7), (Op.move (Operand.tmp 0)), none⟩,
  ⟨(some 8), (Op.call { callee := (Callee.value (Operand.func 41)), args := #[(Operand.tmp 7), (Operand.const (Value.int IntKind.i64 1)), (Operand.const (Value.int IntKind.i64 5))], argTypes := #[3, 3, 3] }), none⟩,
  ⟨(some 9), (Op.unOp UnOp.not 4 (Operand.tmp 8)), none⟩,
  ⟨(some 10), (Op.move (Operand.tmp 9)), none⟩,
  ⟨(some 11), (Op.move (Operand.tmp 1)), (some (10, false))⟩,
  ⟨(some 12), (Op.call { callee := (Callee.builtin Builtin.len), args := #[(Operand.tmp 11)], argTypes := #[25] }), (some (10, false))⟩,
  ⟨(some 13), (Op.binOp BinOp.gtr 3 (Operand.tmp 12) (Operand.const (Value.int IntKind.i64 15)) 3), (some (10, false))⟩,
  ⟨(some 14), (Op.pick (Operand.tmp 10) (Operand.const (Value.bool true)) (Operand.tmp 13)), none⟩]
def r14_2 : List PO := [⟨(some 4), (Op.assign (Operand.const (Value.bool false))), none⟩]
def r14_3 : List PO := [⟨(some 15), (Op.move (Operand.tmp 1)), none⟩,
  ⟨(some 16), (Op.call { callee := (Callee.builtin Builtin.len), args := #[(Operand.tmp 15)], argTypes := #[25] }), none⟩,
  ⟨(some 17), (Op.move (Operand.const (Value.int IntKind.i64 0))), none⟩]
def r14_4 : List PO := [⟨(some 18), (Op.binOp BinOp.lss 3 (Operand.tmp 17) (Operand.tmp 16) 3), none⟩]
def r14_5 : List PO := [⟨(some 19), (Op.move (Operand.tmp 17)), none⟩,
  ⟨(some 20), (Op.indexAddr 25 (Operand.tmp 15) (Operand.tmp 17)), none⟩,
  ⟨(some 21), (Op.load 63 (Operand.tmp 20)), none⟩,
  ⟨(some 6), (Op.alloc 63), none⟩,
  ⟨(some 5), (Op.assign (Operand.tmp 19)), none⟩,
  ⟨none, (Op.store 63 (Operand.tmp 6) (Operand.tmp 21)), none⟩]
def r14_6 : List PO := [⟨(some 22), (Op.fieldAddr 63 (Operand.tmp 6) 1), none⟩,
  ⟨(some 23), (Op.load 3 (Operand.tmp 22)), none⟩,
  ⟨(some 24), (Op.move (Operand.tmp 0)), none⟩,
  ⟨(some 25), (Op.call { callee := (Callee.value (Operand.func 41)), args := #[(Operand.tmp 23), (Operand.const (Value.int IntKind.i64 1)), (Operand.tmp 24)], argTypes := #[3, 3, 3] }), none⟩,
  ⟨(some 26), (Op.unOp UnOp.not 4 (Operand.tmp 25)), none⟩,
  ⟨(some 27), (Op.move (Operand.tmp 26)), none⟩,
  ⟨(some 28), (Op.fieldAddr 63 (Operand.tmp 6) 0), (some (27, false))⟩,
  ⟨(some 29), (Op.load 3 (Operand.tmp 28)), (some (27, false))⟩,
  ⟨(some 30), (Op.fieldAddr 63 (Operand.tmp 6) 1), (some (27, false))⟩,
  ⟨(some 31), (Op.load 3 (Operand.tmp 30)), (some (27, false))⟩,
  ⟨(some 32), (Op.binOp BinOp.sub 3 (Operand.tmp 31) (Operand.const (Value.int IntKind.i64 1)) 3), (some (27, false))⟩,
  ⟨(some 33), (Op.call { callee := (Callee.value (Operand.func 41)), args := #[(Operand.tmp 29), (Operand.const (Value.int IntKind.i64 0)), (Operand.tmp 32)], argTypes := #[3, 3, 3] }), (some (27, false))⟩,
  ⟨(some 34), (Op.unOp UnOp.not 4 (Operand.tmp 33)), (some (27, false))⟩,
  ⟨(some 35), (Op.pick (Operand.tmp 27) (Operand.const (Value.bool true)) (Operand.tmp 34)), none⟩,
  ⟨(some 36), (Op.move (Operand.tmp 35)), none⟩,
  ⟨(some 37), (Op.fieldAddr 63 (Operand.tmp 6) 2), (some (36, false))⟩,
  ⟨(some 38), (Op.load 3 (Operand.tmp 37)), (some (36, false))⟩,
  ⟨(some 39), (Op.call { callee := (Callee.value (Operand.func 41)), args := #[(Operand.tmp 38), (Operand.const (Value.int IntKind.i64 1)), (Operand.const (Value.int IntKind.i64 3))], argTypes := #[3, 3, 3] }), (some (36, false))⟩,
  ⟨(some 40), (Op.unOp UnOp.not 4 (Operand.tmp 39)), (some (36, false))⟩,
  ⟨(some 41), (Op.pick (Operand.tmp 36) (Operand.const (Value.bool true)) (Operand.tmp 40)), none⟩,
  ⟨(some 42), (Op.move (Operand.tmp 41)), none⟩,
  ⟨(some 43), (Op.move (Operand.tmp 1)), (some (42, false))⟩,
  ⟨(some 44), (Op.move (Operand.tmp 5)), (some (42, false))⟩,
  ⟨(some 45), (Op.slice 25 (Operand.tmp 43) none (some (Operand.tmp 44)) none), (some (42, false))⟩,
  ⟨(some 46), (Op.makeFunc (Fn.func 43) #[] #[(Operand.tmp 6)]), (some (42, false))⟩,
  ⟨(some 47), (Op.call { callee := (Callee.value (Operand.func 42)), args := #[(Operand.tmp 45), (Operand.tmp 46)], argTypes := #[25, 67] }), (some (42, false))⟩,
  ⟨(some 48), (Op.pick (Operand.tmp 42) (Operand.const (Value.bool true)) (Operand.tmp 47)), none⟩]
def r14_7 : List PO := [⟨(some 4), (Op.assign (Operand.const (Value.bool false))), none⟩]
def r14_8 : List PO := [⟨(some 49), (Op.binOp BinOp.add 3 (Operand.tmp 17) (Operand.const (Value.int IntKind.i64 1)) 3), none⟩,
  ⟨(some 17), (Op.move (Operand.tmp 49)), none⟩]
def l14_0 : PC := (.seq (.reg r14_4) (.seq (.cond (Operand.tmp 18) .skip (.exit 0)) (.seq (.block 1 (.seq (.reg r14_5) (.seq (.reg r14_6) (.cond (Operand.tmp 48) (.seq (.reg r14_7) .ret) .skip)))) (.reg r14_8))))
def r14_9 : List PO := [⟨(some 4), (Op.assign (Operand.const (Value.bool true))), none⟩]
def c14 : PC := (.seq (.reg r14_0) (.seq (.seq (.reg r14_1) (.cond (Operand.tmp 14) (.seq (.reg r14_2) .ret) .skip)) (.seq (.seq (.reg r14_3) (.block 0 (.loop l14_0))) (.seq (.reg r14_9) .ret))))
def i14 : FnI := ⟨50, [(ResultVar.tmp 4)], c14, 0, [[0], [3]], [[0]], false⟩
-- loop.example/g00344/laws.eqRelS
def r15_0 : List PO := [⟨(some 4), (Op.assign (Operand.const (Value.bool false))), none⟩]
def r15_1 : List PO := [⟨(some 6), (Op.move (Operand.tmp 0)), none⟩,
  ⟨(some 7), (Op.call { callee := (Callee.builtin Builtin.len), args := #[(Operand.tmp 6)], argTypes := #[25] }), none⟩,
  ⟨(some 8), (Op.move (Operand.tmp 1)), none⟩,
  ⟨(some 9), (Op.call { callee := (Callee.builtin Builtin.len), args := #[(Operand.tmp 8)], argTypes := #[25] }), none⟩,
  ⟨(some 10), (Op.binOp BinOp.neq 3 (Operand.tmp 7) (Operand.tmp 9) 3), none⟩]
def r15_2 : List PO := [⟨(some 4), (Op.assign (Operand.const (Value.bool false))), none⟩]
def r15_3 : List PO := [⟨(some 5), (Op.assign (Operand.const (Value.int IntKind.i64 0))), none⟩]
def r15_4 : List PO := [⟨(some 11), (Op.move (Operand.tmp 5)), none⟩,
  ⟨(some 12), (Op.move (Operand.tmp 0)), none⟩,
  ⟨(some 13), (Op.call { callee := (Callee.builtin Builtin.len), args := #[(Operand.tmp 12)], argTypes := #[25] }), none⟩,
  ⟨(some 14), (Op.binOp BinOp.lss 3 (Operand.tmp 11) (Operand.tmp 13) 3), none⟩]
def r15_6 : List PO := [⟨(some 17), (Op.move (Operand.tmp 0)), none⟩,
  ⟨(some 18), (Op.move (Operand.tmp 5)), none⟩,
  ⟨(some 19), (Op.indexAddr 25 (Operand.tmp 17) (Operand.tmp 18)), none⟩,
  ⟨(some 20), (Op.load 63 (Operand.tmp 19)), none⟩,
  ⟨(some 21), (Op.move (Operand.tmp 1)), none⟩,
  ⟨(some 22), (Op.move (Operand.tmp 5)), none⟩,
  ⟨(some 23), (Op.indexAddr 25 (Operand.tmp 21) (Operand.tmp 22)), none⟩,
  ⟨(some 24), (Op.load 63 (Operand.tmp 23)), none⟩,
  ⟨(some 25), (Op.call { callee := (Callee.value (Operand.func 44)), args := #[(Operand.tmp 20), (Operand.tmp 24)], argTypes := #[63, 63] }), none⟩,
  ⟨(some 26), (Op.unOp UnOp.not 4 (Operand.tmp 25)), none⟩]
def r15_7 : List PO := [⟨(some 4), (Op.assign (Operand.const (Value.bool false))), none⟩]
def r15_5 : List PO := [⟨(some 15), (Op.move (Operand.tmp 5)), none⟩,
  ⟨(some 16), (Op.binOp BinOp.add 3 (Operand.tmp 15) (Operand.const (Value.int IntKind.i64 1)) 3), none⟩,
  ⟨(some 5), (Op.assign (Operand.tmp 16)), none⟩]
def l15_0 : PC := (.seq (.seq (.reg r15_4) (.cond (Operand.tmp 14) .skip (.exit 0))) (.seq (.block 1 (.seq (.fz r15_6) (.cond (Operand.tmp 26) (.seq (.reg r15_7) .ret) .skip))) (.reg r15_5)))
def r15_8 : List PO := [⟨(some 4), (Op.assign (Operand.const (Value.bool true))), none⟩]
def c15 : PC := (.seq (.reg r15_0) (.seq (.seq (.reg r15_1) (.cond (Operand.tmp 10) (.seq (.reg r15_2) .ret) .skip)) (.seq (.seq (.reg r15_3) (.block 0 (.loop l15_0))) (.seq (.reg r15_8) .ret))))
def i15 : FnI := ⟨27, [(ResultVar.tmp 4)], c15, 0, [[3], [3]], [[0]], false⟩
-- loop.example/g00344/spec.IsValleyFree
def r22_0 : List PO := [⟨(some 6), (Op.assign (Operand.const (Value.bool false))), none⟩,
  ⟨(some 7), (Op.assign (Operand.const (Value.bool false))), none⟩]
def r22_1 : List PO := [⟨(some 8), (Op.move (Operand.tmp 0)), none⟩,
  ⟨(some 9), (Op.move (Operand.tmp 1)), none⟩,
  ⟨(some 10), (Op.call { callee := (Callee.value (Operand.func 12)), args := #[(Operand.tmp 8), (Operand.tmp 9)], argTypes := #[3, 25] }), none⟩,
  ⟨(some 11), (Op.unOp UnOp.not 4 (Operand.tmp 10)), none⟩,
  ⟨(some 12), (Op.move (Operand.tmp 11)), none⟩,
  ⟨(some 13), (Op.move (Operand.tmp 0)), (some (12, false))⟩,
  ⟨(some 14), (Op.move (Operand.tmp 1)), (some (12, false))⟩,
  ⟨(some 15), (Op.move (Operand.tmp 2)), (some (12, false))⟩,
  ⟨(some 16), (Op.call { callee := (Callee.value (Operand.func 53)), args := #[(Operand.tmp 13), (Operand.tmp 14), (Operand.tmp 15)], argTypes := #[3, 25, 36] }), (some (12, false))⟩,
  ⟨(some 17), (Op.unOp UnOp.not 4 (Operand.tmp 16)), (some (12, false))⟩,
  ⟨(some 18), (Op.pick (Operand.tmp 12) (Operand.const (Value.bool true)) (Operand.tmp 17)), none⟩]
def r22_2 : List PO := [⟨(some 6), (Op.assign (Operand.const (Value.bool false))), none⟩,
  ⟨(some 7), (Op.assign (Operand.const (Value.bool false))), none⟩]
def r22_3 : List PO := [⟨(some 19), (Op.move (Operand.tmp 1)), none⟩,
  ⟨(some 20), (Op.move (Operand.tmp 2)), none⟩,
  ⟨(some 21), (Op.call { callee := (Callee.value (Operand.func 54)), args := #[(Operand.tmp 19), (Operand.tmp 20)], argTypes := #[25, 36] }), none⟩,
  ⟨(some 6), (Op.assign (Operand.tmp 21)), none⟩,
  ⟨(some 7), (Op.assign (Operand.const (Value.bool true))), none⟩]
def c22 : PC := (.seq (.reg r22_0) (.seq (.seq (.reg r22_1) (.cond (Operand.tmp 18) (.seq (.reg r22_2) .ret) .skip)) (.seq (.reg r22_3) .ret)))
def i22 : FnI := ⟨22, [(ResultVar.tmp 6), (ResultVar.tmp 7)], c22, 0, [[0], [3], [1]], [[0], [0]], false⟩
-- loop.example/g00344/laws.toIntS
def r23_0 : List PO := [⟨(some 2), (Op.assign (Operand.const (Value.slice none 0 0))), none⟩]
def r23_1 : List PO := [⟨(some 5), (Op.move (Operand.tmp 0)), none⟩,
  ⟨(some 6), (Op.call { callee := (Callee.builtin Builtin.len), args := #[(Operand.tmp 5)], argTypes := #[36] }), none⟩,
  ⟨(some 7), (Op.makeSlice 36 (Operand.tmp 6) (Operand.tmp 6)), none⟩,
  ⟨(some 3), (Op.assign (Operand.tmp 7)), none⟩]
def r23_2 : List PO := [⟨(some 4), (Op.assign (Operand.const (Value.int IntKind.i64 0))), none⟩]
def r23_3 : List PO := [⟨(some 8), (Op.move (Operand.tmp 4)), none⟩,
  ⟨(some 9), (Op.move (Operand.tmp 0)), none⟩,
  ⟨(some 10), (Op.call { callee := (Callee.builtin Builtin.len), args := #[(Operand.tmp 9)], argTypes := #[36] }), none⟩,
  ⟨(some 11), (Op.binOp BinOp.lss 3 (Operand.tmp 8) (Operand.tmp 10) 3), none⟩]
def r23_5 : List PO := [⟨(some 14), (Op.move (Operand.tmp 3)), none⟩,
  ⟨(some 15), (Op.move (Operand.tmp 4)), none⟩,
  ⟨(some 16), (Op.move (Operand.tmp 0)), none⟩,
  ⟨(some 17), (Op.move (Operand.tmp 4)), none⟩,
  ⟨(some 18), (Op.indexAddr 36 (Operand.tmp 16) (Operand.tmp 17)), none⟩,
  ⟨(some 19), (Op.load 3 (Operand.tmp 18)), none⟩,
  ⟨(some 20), (Op.indexAddr 36 (Operand.tmp 14) (Operand.tmp 15)), none⟩,
  ⟨none, (Op.store 3 (Operand.tmp 20) (Operand.tmp 19)), none⟩]
def r23_4 : List PO := [⟨(some 12), (Op.move (Operand.tmp 4)), none⟩,
  ⟨(some 13), (Op.binOp BinOp.add 3 (Operand.tmp 12) (Operand.const (Value.int IntKind.i64 1)) 3), none⟩,
  ⟨(some 4), (Op.assign (Operand.tmp 13)), none⟩]
def l23_0 : PC := (.seq (.seq (.reg r23_3) (.cond (Operand.tmp 11) .skip (.exit 0))) (.seq (.block 1 (.reg r23_5)) (.reg r23_4)))
def r23_6 : List PO := [⟨(some 21), (Op.move (Operand.tmp 3)), none⟩,
  ⟨(some 2), (Op.assign (Operand.tmp 21)), none⟩]
def c23 : PC := (.seq (.reg r23_0) (.seq (.reg r23_1) (.seq (.seq (.reg r23_2) (.block 0 (.loop l23_0))) (.seq (.reg r23_6) .ret))))
def i23 : FnI := ⟨22, [(ResultVar.tmp 2)], c23, 0, [[1]], [[1]], false⟩
-- loop.example/g00344/impl.IsValleyFree
def r24_0 : List PO := [⟨(some 6), (Op.assign (Operand.const (Value.bool false))), none⟩,
  ⟨(some 7), (Op.assign (Operand.const (Value.bool false))), none⟩]
def r24_1 : List PO := [⟨(some 10), (Op.move (Operand.tmp 0)), none⟩,
  ⟨(some 11), (Op.move (Operand.tmp 1)), none⟩,
  ⟨(some 12), (Op.call { callee := (Callee.value (Operand.func 14)), args := #[(Operand.tmp 10), (Operand.tmp 11)], argTypes := #[3, 25] }), none⟩,
  ⟨(some 13), (Op.unOp UnOp.not 4 (Operand.tmp 12)), none⟩,
  ⟨(some 14), (Op.move (Operand.tmp 13)), none⟩,
  ⟨(some 15), (Op.move (Operand.tmp 2)), (some (14, false))⟩,
  ⟨(some 16), (Op.call { callee := (Callee.builtin Builtin.len), args := #[(Operand.tmp 15)], argTypes := #[36] }), (some (14, false))⟩,
  ⟨(some 17), (Op.call { callee := (Callee.value (Operand.func 41)), args := #[(Operand.tmp 16), (Operand.const (Value.int IntKind.i64 2)), (Operand.const (Value.int IntKind.i64 6))], argTypes := #[3, 3, 3] }), (some (14, false))⟩,
  ⟨(some 18), (Op.unOp UnOp.not 4 (Operand.tmp 17)), (some (14, false))⟩,
  ⟨(some 19), (Op.pick (Operand.tmp 14) (Operand.const (Value.bool true)) (Operand.tmp 18)), none⟩]
def r24_2 : List PO := [⟨(some 6), (Op.assign (Operand.const (Value.bool false))), none⟩,
  ⟨(some 7), (Op.assign (Operand.const (Value.bool false))), none⟩]
def r24_3 : List PO := [⟨(some 20), (Op.move (Operand.tmp 2)), none⟩,
  ⟨(some 21), (Op.call { callee := (Callee.builtin Builtin.len), args := #[(Operand.tmp 20)], argTypes := #[36] }), none⟩,
  ⟨(some 22), (Op.move (Operand.const (Value.int IntKind.i64 0))), none⟩]
def r24_4 : List PO := [⟨(some 23), (Op.binOp BinOp.lss 3 (Operand.tmp 22) (Operand.tmp 21) 3), none⟩]
def r24_5 : List PO := [⟨(some 24), (Op.move (Operand.tmp 22)), none⟩,
  ⟨(some 25), (Op.indexAddr 36 (Operand.tmp 20) (Operand.tmp 22)), none⟩,
  ⟨(some 26), (Op.load 3 (Operand.tmp 25)), none⟩,
  ⟨(some 8), (Op.assign (Operand.tmp 24)), none⟩,
  ⟨(some 9), (Op.assign (Operand.tmp 26)), none⟩]
def r24_6 : List PO := [⟨(some 27), (Op.move (Operand.tmp 9)), none⟩,
  ⟨(some 28), (Op.move (Operand.tmp 0)), none⟩,
  ⟨(some 29), (Op.call { callee := (Callee.value (Operand.func 41)), args := #[(Operand.tmp 27), (Operand.const (Value.int IntKind.i64 0)), (Operand.tmp 28)], argTypes := #[3, 3, 3] }), none⟩,
  ⟨(some 30), (Op.unOp UnOp.not 4 (Operand.tmp 29)), none⟩,
  ⟨(some 31), (Op.move (Operand.tmp 30)), none⟩,
  ⟨(some 32), (Op.move (Operand.tmp 2)), (some (31, false))⟩,
  ⟨(some 33), (Op.move (Operand.tmp 8)), (some (31, false))⟩,
  ⟨(some 34), (Op.slice 36 (Operand.tmp 32) none (some (Operand.tmp 33)) none), (some (31, false))⟩,
  ⟨(some 35), (Op.move (Operand.tmp 9)), (some (31, false))⟩,
  ⟨(some 36), (Op.call { callee := (Callee.value (Operand.func 55)), args := #[(Operand.tmp 34), (Operand.tmp 35)], argTypes := #[36, 3] }), (some (31, false))⟩,
  ⟨(some 37), (Op.pick (Operand.tmp 31) (Operand.const (Value.bool true)) (Operand.tmp 36)), none⟩,
  ⟨(some 38), (Op.move (Operand.tmp 37)), none⟩,
  ⟨(some 39), (Op.move (Operand.tmp 8)), (some (38, false))⟩,
  ⟨(some 40), (Op.binOp BinOp.gtr 3 (Operand.tmp 39) (Operand.const (Value.int IntKind.i64 0)) 3), (some (38, false))⟩,
  ⟨(some 41), (Op.move (Operand.tmp 40)), (some (38, false))⟩,
  ⟨(some 42), (Op.move (Operand.tmp 1)), (some (41, true))⟩,
  ⟨(some 43), (Op.move (Operand.tmp 2)), (some (41, true))⟩,
  ⟨(some 44), (Op.move (Operand.tmp 8)), (some (41, true))⟩,
  ⟨(some 45), (Op.binOp BinOp.sub 3 (Operand.tmp 44) (Operand.const (Value.int IntKind.i64 1)) 3), (some (41, true))⟩,
  ⟨(some 46), (Op.indexAddr 36 (Operand.tmp 43) (Operand.tmp 45)), (some (41, true))⟩,
  ⟨(some 47), (Op.load 3 (Operand.tmp 46)), (some (41, true))⟩,
  ⟨(some 48), (Op.move (Operand.tmp 9)), (some (41, true))⟩,
  ⟨(some 49), (Op.call { callee := (Callee.value (Operand.func 46)), args := #[(Operand.tmp 42), (Operand.tmp 47), (Operand.tmp 48)], argTypes := #[25, 3, 3] }), (some (41, true))⟩,
  ⟨(some 50), (Op.binOp BinOp.eql 3 (Operand.tmp 49) (Operand.const (Value.int IntKind.i64 0)) 3), (some (41, true))⟩,
  ⟨(some 51), (Op.pick (Operand.tmp 41) (Operand.tmp 50) (Operand.const (Value.bool false))), (some (38, false))⟩,
  ⟨(some 52), (Op.pick (Operand.tmp 38) (Operand.const (Value.bool true)) (Operand.tmp 51)), none⟩]
def r24_7 : List PO := [⟨(some 6), (Op.assign (Operand.const (Value.bool false))), none⟩,
  ⟨(some 7), (Op.assign (Operand.const (Value.bool false))), none⟩]
def r24_8 : List PO := [⟨(some 53), (Op.binOp BinOp.add 3 (Operand.tmp 22) (Operand.const (Value.int IntKind.i64 1)) 3), none⟩,
  ⟨(some 22), (Op.move (Operand.tmp 53)), none⟩]
def l24_0 : PC := (.seq (.reg r24_4) (.seq (.cond (Operand.tmp 23) .skip (.exit 0)) (.seq (.block 1 (.seq (.reg r24_5) (.seq (.reg r24_6) (.cond (Operand.tmp 52) (.seq (.reg r24_7) .ret) .skip)))) (.reg r24_8))))
def r24_9 : List PO := [⟨(some 54), (Op.move (Operand.tmp 1)), none⟩,
  ⟨(some 55), (Op.move (Operand.tmp 2)), none⟩,
  ⟨(some 56), (Op.call { callee := (Callee.value (Operand.func 56)), args := #[(Operand.tmp 54), (Operand.tmp 55)], argTypes := #[25, 36] }), none⟩,
  ⟨(some 6), (Op.assign (Operand.tmp 56)), none⟩,
  ⟨(some 7), (Op.assign (Operand.const (Value.bool true))), none⟩]
def c24 : PC := (.seq (.reg r24_0) (.seq (.seq (.reg r24_1) (.cond (Operand.tmp 19) (.seq (.reg r24_2) .ret) .skip)) (.seq (.seq (.reg r24_3) (.block 0 (.loop l24_0))) (.seq (.reg r24_9) .ret))))
def i24 : FnI := ⟨57, [(ResultVar.tmp 6), (ResultVar.tmp 7)], c24, 0, [[0], [3], [1]], [[0], [0]], false⟩
-- loop.example/g00344/laws.eqIntS
def r25_0 : List PO := [⟨(some 4), (Op.assign (Operand.const (Value.bool false))), none⟩]
def r25_1 : List PO := [⟨(some 6), (Op.move (Operand.tmp 0)), none⟩,
  ⟨(some 7), (Op.call { callee := (Callee.builtin Builtin.len), args := #[(Operand.tmp 6)], argTypes := #[36] }), none⟩,
  ⟨(some 8), (Op.move (Operand.tmp 1)), none⟩,
  ⟨(some 9), (Op.call { callee := (Callee.builtin Builtin.len), args := #[(Operand.tmp 8)], argTypes := #[36] }), none⟩,
  ⟨(some 10), (Op.binOp BinOp.neq 3 (Operand.tmp 7) (Operand.tmp 9) 3), none⟩]
def r25_2 : List PO := [⟨(some 4), (Op.assign (Operand.const (Value.bool false))), none⟩]
def r25_3 : List PO := [⟨(some 5), (Op.assign (Operand.const (Value.int IntKind.i64 0))), none⟩]
def r25_4 : List PO := [⟨(some 11), (Op.move (Operand.tmp 5)), none⟩,
  ⟨(some 12), (Op.move (Operand.tmp 0)), none⟩,
  ⟨(some 13), (Op.call { callee := (Callee.builtin Builtin.len), args := #[(Operand.tmp 12)], argTypes := #[36] }), none⟩,
  ⟨(some 14), (Op.binOp BinOp.lss 3 (Operand.tmp 11) (Operand.tmp 13) 3), none⟩]
def r25_6 : List PO := [⟨(some 17), (Op.move (Operand.tmp 0)), none⟩,
  ⟨(some 18), (Op.move (Operand.tmp 5)), none⟩,
  ⟨(some 19), (Op.indexAddr 36 (Operand.tmp 17) (Operand.tmp 18)), none⟩,
  ⟨(some 20), (Op.load 3 (Operand.tmp 19)), none⟩,
  ⟨(some 21), (Op.move (Operand.tmp 1)), none⟩,
  ⟨(some 22), (Op.move (Operand.tmp 5)), none⟩,
  ⟨(some 23), (Op.indexAddr 36 (Operand.tmp 21) (Operand.tmp 22)), none⟩,
  ⟨(some 24), (Op.load 3 (Operand.tmp 23)), none⟩,
  ⟨(some 25), (Op.binOp BinOp.neq 3 (Operand.tmp 20) (Operand.tmp 24) 3), none⟩]
def r25_7 : List PO := [⟨(some 4), (Op.assign (Operand.const (Value.bool false))), none⟩]
def r25_5 : List PO := [⟨(some 15), (Op.move (Operand.tmp 5)), none⟩,
  ⟨(some 16), (Op.binOp BinOp.add 3 (Operand.tmp 15) (Operand.const (Value.int IntKind.i64 1)) 3), none⟩,
  ⟨(some 5), (Op.assign (Operand.tmp 16)), none⟩]
def l25_0 : PC := (.seq (.seq (.reg r25_4) (.cond (Operand.tmp 14) .skip (.exit 0))) (.seq (.block 1 (.seq (.fz r25_6) (.cond (Operand.tmp 25) (.seq (.reg r25_7) .ret) .skip))) (.reg r25_5)))
def r25_8 : List PO := [⟨(some 4), (Op.assign (Operand.const (Value.bool true))), none⟩]
def c25 : PC := (.seq (.reg r25_0) (.seq (.seq (.reg r25_1) (.cond (Operand.tmp 10) (.seq (.reg r25_2) .ret) .skip)) (.seq (.seq (.reg r25_3) (.block 0 (.loop l25_0))) (.seq (.reg r25_8) .ret))))
def i25 : FnI := ⟨26, [(ResultVar.tmp 4)], c25, 0, [[1], [1]], [[0]], false⟩
-- loop.example/g00344/spec.l1In
def r39_0 : List PO := [⟨(some 6), (Op.assign (Operand.const (Value.bool false))), none⟩]
def r39_1 : List PO := [⟨(some 7), (Op.move (Operand.tmp 0)), none⟩,
  ⟨(some 8), (Op.move (Operand.tmp 1)), none⟩,
  ⟨(some 9), (Op.binOp BinOp.geq 3 (Operand.tmp 7) (Operand.tmp 8) 3), none⟩,
  ⟨(some 10), (Op.move (Operand.tmp 9)), none⟩,
  ⟨(some 11), (Op.move (Operand.tmp 0)), (some (10, true))⟩,
  ⟨(some 12), (Op.move (Operand.tmp 2)), (some (10, true))⟩,
  ⟨(some 13), (Op.binOp BinOp.leq 3 (Operand.tmp 11) (Operand.tmp 12) 3), (some (10, true))⟩,
  ⟨(some 14), (Op.pick (Operand.tmp 10) (Operand.tmp 13) (Operand.const (Value.bool false))), none⟩,
  ⟨(some 6), (Op.assign (Operand.tmp 14)), none⟩]
def c39 : PC := (.seq (.reg r39_0) (.seq (.reg r39_1) .ret))
def i39 : FnI := ⟨15, [(ResultVar.tmp 6)], c39, 0, [[0], [0], [0]], [[0]], false⟩
-- loop.example/g00344/laws.toRel
def r40_0 : List PO := [⟨(some 1), (Op.box 65 (Operand.tmp 0)), none⟩,
  ⟨(some 2), (Op.alloc 63), none⟩]
def r40_1 : List PO := [⟨(some 3), (Op.alloc 63), none⟩]
def r40_2 : List PO := [⟨(some 4), (Op.fieldAddr 65 (Operand.tmp 1) 0), none⟩,
  ⟨(some 5), (Op.load 3 (Operand.tmp 4)), none⟩,
  ⟨(some 6), (Op.fieldAddr 63 (Operand.tmp 3) 0), none⟩,
  ⟨none, (Op.store 3 (Operand.tmp 6) (Operand.tmp 5)), none⟩]
def r40_3 : List PO := [⟨(some 7), (Op.fieldAddr 65 (Operand.tmp 1) 1), none⟩,
  ⟨(some 8), (Op.load 3 (Operand.tmp 7)), none⟩,
  ⟨(some 9), (Op.fieldAddr 63 (Operand.tmp 3) 1), none⟩,
  ⟨none, (Op.store 3 (Operand.tmp 9) (Operand.tmp 8)), none⟩]
def r40_4 : List PO := [⟨(some 10), (Op.fieldAddr 65 (Operand.tmp 1) 2), none⟩,
  ⟨(some 11), (Op.load 3 (Operand.tmp 10)), none⟩,
  ⟨(some 12), (Op.fieldAddr 63 (Operand.tmp 3) 2), none⟩,
  ⟨none, (Op.store 3 (Operand.tmp 12) (Operand.tmp 11)), none⟩]
def r40_5 : List PO := [⟨(some 13), (Op.load 63 (Operand.tmp 3)), none⟩,
  ⟨none, (Op.store 63 (Operand.tmp 2) (Operand.tmp 13)), none⟩]
def c40 : PC := (.seq (.reg r40_0) (.seq (.reg r40_1) (.seq (.reg r40_2) (.seq (.reg r40_3) (.seq (.reg r40_4) (.seq (.reg r40_5) .ret))))))
def i40 : FnI := ⟨14, [(ResultVar.cell 2 63)], c40, 0, [[0, 0, 0]], [[0, 0, 0]], false⟩
-- loop.example/g00344/impl.within
def r41_0 : List PO := [⟨(some 6), (Op.assign (Operand.const (Value.bool false))), none⟩]
def r41_1 : List PO := [⟨(some 7), (Op.move (Operand.tmp 0)), none⟩,
  ⟨(some 8), (Op.move (Operand.tmp 1)), none⟩,
  ⟨(some 9), (Op.binOp BinOp.geq 3 (Operand.tmp 7) (Operand.tmp 8) 3), none⟩,
  ⟨(some 10), (Op.move (Operand.tmp 9)), none⟩,
  ⟨(some 11), (Op.move (Operand.tmp 0)), (some (10, true))⟩,
  ⟨(some 12), (Op.move (Operand.tmp 2)), (some (10, true))⟩,
  ⟨(some 13), (Op.binOp BinOp.leq 3 (Operand.tmp 11) (Operand.tmp 12) 3), (some (10, true))⟩,
  ⟨(some 14), (Op.pick (Operand.tmp 10) (Operand.tmp 13) (Operand.const (Value.bool false))), none⟩,
  ⟨(some 6), (Op.assign (Operand.tmp 14)), none⟩]
def c41 : PC := (.seq (.reg r41_0) (.seq (.reg r41_1) .ret))
def i41 : FnI := ⟨15, [(ResultVar.tmp 6)], c41, 0, [[0], [0], [0]], [[0]], false⟩
-- slices.ContainsFunc[[]loop.example/g00344/impl.Rel,loop.example/g00344/impl.Rel]
def r42_0 : List PO := [⟨(some 4), (Op.assign (Operand.const (Value.bool false))), none⟩]
def r42_1 : List PO := [⟨(some 5), (Op.move (Operand.tmp 0)), none⟩,
  ⟨(some 6), (Op.move (Operand.tmp 1)), none⟩,
  ⟨(some 7), (Op.call { callee := (Callee.value (Operand.func 70)), args := #[(Operand.tmp 5), (Operand.tmp 6)], argTypes := #[25, 67] }), none⟩,
  ⟨(some 8), (Op.binOp BinOp.geq 3 (Operand.tmp 7) (Operand.const (Value.int IntKind.i64 0)) 3), none⟩,
  ⟨(some 4), (Op.assign (Operand.tmp 8)), none⟩]
def c42 : PC := (.seq (.reg r42_0) (.seq (.reg r42_1) .ret))
def i42 : FnI := ⟨9, [(ResultVar.tmp 4)], c42, 0, [[3], [0]], [[0]], false⟩
-- loop.example/g00344/impl.GoodRels$1
def r43_0 : List PO := [⟨(some 2), (Op.box 63 (Operand.tmp 0)), none⟩,
  ⟨(some 3), (Op.assign (Operand.const (Value.bool false))), none⟩]
def r43_1 : List PO := [⟨(some 4), (Op.fieldAddr 63 (Operand.tmp 1) 0), none⟩,
  ⟨(some 5), (Op.load 3 (Operand.tmp 4)), none⟩,
  ⟨(some 6), (Op.fieldAddr 63 (Operand.tmp 2) 0), none⟩,
  ⟨(some 7), (Op.load 3 (Operand.tmp 6)), none⟩,
  ⟨(some 8), (Op.binOp BinOp.eql 3 (Operand.tmp 5) (Operand.tmp 7) 3), none⟩,
  ⟨(some 9), (Op.move (Operand.tmp 8)), none⟩,
  ⟨(some 10), (Op.fieldAddr 63 (Operand.tmp 1) 1), (some (9, true))⟩,
  ⟨(some 11), (Op.load 3 (Operand.tmp 10)), (some (9, true))⟩,
  ⟨(some 12), (Op.fieldAddr 63 (Operand.tmp 2) 1), (some (9, true))⟩,
  ⟨(some 13), (Op.load 3 (Operand.tmp 12)), (some (9, true))⟩,
  ⟨(some 14), (Op.binOp BinOp.eql 3 (Operand.tmp 11) (Operand.tmp 13) 3), (some (9, true))⟩,
  ⟨(some 15), (Op.pick (Operand.tmp 9) (Operand.tmp 14) (Operand.const (Value.bool false))), none⟩,
  ⟨(some 3), (Op.assign (Operand.tmp 15)), none⟩]
def c43 : PC := (.seq (.reg r43_0) (.seq (.reg r43_1) .ret))
def i43 : FnI := ⟨16, [(ResultVar.tmp 3)], c43, 0, [[0, 0, 0], [0]], [[0]], false⟩
-- loop.example/g00344/laws.eqRel
def r44_0 : List PO := [⟨(some 2), (Op.box 63 (Operand.tmp 0)), none⟩,
  ⟨(some 3), (Op.box 63 (Operand.tmp 1)), none⟩,
  ⟨(some 4), (Op.assign (Operand.const (Value.bool false))), none⟩]
def r44_1 : List PO := [⟨(some 5), (Op.fieldAddr 63 (Operand.tmp 2) 0), none⟩,
  ⟨(some 6), (Op.load 3 (Operand.tmp 5)), none⟩,
  ⟨(some 7), (Op.fieldAddr 63 (Operand.tmp 3) 0), none⟩,
  ⟨(some 8), (Op.load 3 (Operand.tmp 7)), none⟩,
  ⟨(some 9), (Op.binOp BinOp.neq 3 (Operand.tmp 6) (Operand.tmp 8) 3), none⟩]
def r44_2 : List PO := [⟨(some 4), (Op.assign (Operand.const (Value.bool false))), none⟩]
def r44_3 : List PO := [⟨(some 10), (Op.fieldAddr 63 (Operand.tmp 2) 1), none⟩,
  ⟨(some 11), (Op.load 3 (Operand.tmp 10)), none⟩,
  ⟨(some 12), (Op.fieldAddr 63 (Operand.tmp 3) 1), none⟩,
  ⟨(some 13), (Op.load 3 (Operand.tmp 12)), none⟩,
  ⟨(some 14), (Op.binOp BinOp.neq 3 (Operand.tmp 11) (Operand.tmp 13) 3), none⟩]
def r44_4 : List PO := [⟨(some 4), (Op.assign (Operand.const (Value.bool false))), none⟩]
def r44_5 : List PO := [⟨(some 15), (Op.fieldAddr 63 (Operand.tmp 2) 2), none⟩,
  ⟨(some 16), (Op.load 3 (Operand.tmp 15)), none⟩,
  ⟨(some 17), (Op.fieldAddr 63 (Operand.tmp 3) 2), none⟩,
  ⟨(some 18), (Op.load 3 (Operand.tmp 17)), none⟩,
  ⟨(some 19), (Op.binOp BinOp.neq 3 (Operand.tmp 16) (Operand.tmp 18) 3), none⟩]
def r44_6 : List PO := [⟨(some 4), (Op.assign (Operand.const (Value.bool false))), none⟩]
def r44_7 : List PO := [⟨(some 4), (Op.assign (Operand.const (Value.bool true))), none⟩]
def c44 : PC := (.seq (.reg r44_0) (.seq (.seq (.reg r44_1) (.cond (Operand.tmp 9) (.seq (.reg r44_2) .ret) .skip)) (.seq (.seq (.reg r44_3) (.cond (Operand.tmp 14) (.seq (.reg r44_4) .ret) .skip)) (.seq (.seq (.reg r44_5) (.cond (Operand.tmp 19) (.seq (.reg r44_6) .ret) .skip)) (.seq (.reg r44_7) .ret)))))
def i44 : FnI := ⟨20, [(ResultVar.tmp 4)], c44, 0, [[0, 0, 0], [0, 0, 0]], [[0]], false⟩
-- loop.example/g00344/spec.l11Kind
def r45_0 : List PO := [⟨(some 6), (Op.assign (Operand.const (Value.int IntKind.i64 0))), none⟩]
def r45_1 : List PO := [⟨(some 9), (Op.move (Operand.tmp 0)), none⟩,
  ⟨(some 10), (Op.call { callee := (Callee.builtin Builtin.len), args := #[(Operand.tmp 9)], argTypes := #[25] }), none⟩,
  ⟨(some 11), (Op.move (Operand.const (Value.int IntKind.i64 0))), none⟩]
def r45_2 : List PO := [⟨(some 12), (Op.binOp BinOp.lss 3 (Operand.tmp 11) (Operand.tmp 10) 3), none⟩]
def r45_3 : List PO := [⟨(some 13), (Op.indexAddr 25 (Operand.tmp 9) (Operand.tmp 11)), none⟩,
  ⟨(some 14), (Op.load 63 (Operand.tmp 13)), none⟩,
  ⟨(some 8), (Op.alloc 63), none⟩,
  ⟨none, (Op.store 63 (Operand.tmp 8) (Operand.tmp 14)), none⟩]
def r45_4 : List PO := [⟨(some 15), (Op.fieldAddr 63 (Operand.tmp 8) 0), none⟩,
  ⟨(some 16), (Op.load 3 (Operand.tmp 15)), none⟩,
  ⟨(some 17), (Op.move (Operand.tmp 1)), none⟩,
  ⟨(some 18), (Op.binOp BinOp.eql 3 (Operand.tmp 16) (Operand.tmp 17) 3), none⟩,
  ⟨(some 19), (Op.move (Operand.tmp 18)), none⟩,
  ⟨(some 20), (Op.fieldAddr 63 (Operand.tmp 8) 1), (some (19, true))⟩,
  ⟨(some 21), (Op.load 3 (Operand.tmp 20)), (some (19, true))⟩,
  ⟨(some 22), (Op.move (Operand.tmp 2)), (some (19, true))⟩,
  ⟨(some 23), (Op.binOp BinOp.eql 3 (Operand.tmp 21) (Operand.tmp 22) 3), (some (19, true))⟩,
  ⟨(some 24), (Op.pick (Operand.tmp 19) (Operand.tmp 23) (Operand.const (Value.bool false))), none⟩]
def r45_5 : List PO := [⟨(some 25), (Op.fieldAddr 63 (Operand.tmp 8) 2), none⟩,
  ⟨(some 26), (Op.load 3 (Operand.tmp 25)), none⟩,
  ⟨(some 6), (Op.assign (Operand.tmp 26)), none⟩]
def r45_6 : List PO := [⟨(some 27), (Op.fieldAddr 63 (Operand.tmp 8) 0), none⟩,
  ⟨(some 28), (Op.load 3 (Operand.tmp 27)), none⟩,
  ⟨(some 29), (Op.move (Operand.tmp 2)), none⟩,
  ⟨(some 30), (Op.binOp BinOp.eql 3 (Operand.tmp 28) (Operand.tmp 29) 3), none⟩,
  ⟨(some 31), (Op.move (Operand.tmp 30)), none⟩,
  ⟨(some 32), (Op.fieldAddr 63 (Operand.tmp 8) 1), (some (31, true))⟩,
  ⟨(some 33), (Op.load 3 (Operand.tmp 32)), (some (31, true))⟩,
  ⟨(some 34), (Op.move (Operand.tmp 1)), (some (31, true))⟩,
  ⟨(some 35), (Op.binOp BinOp.eql 3 (Operand.tmp 33) (Operand.tmp 34) 3), (some (31, true))⟩,
  ⟨(some 36), (Op.pick (Operand.tmp 31) (Operand.tmp 35) (Operand.const (Value.bool false))), none⟩]
def r45_7 : List PO := [⟨(some 37), (Op.fieldAddr 63 (Operand.tmp 8) 2), none⟩,
  ⟨(some 38), (Op.load 3 (Operand.tmp 37)), none⟩,
  ⟨(some 39), (Op.binOp BinOp.sub 3 (Operand.const (Value.int IntKind.i64 4)) (Operand.tmp 38) 3), none⟩,
  ⟨(some 6), (Op.assign (Operand.tmp 39)), none⟩]
def r45_8 : List PO := [⟨(some 40), (Op.binOp BinOp.add 3 (Operand.tmp 11) (Operand.const (Value.int IntKind.i64 1)) 3), none⟩,
  ⟨(some 11), (Op.move (Operand.tmp 40)), none⟩]
def l45_0 : PC := (.seq (.reg r45_2) (.seq (.cond (Operand.tmp 12) .skip (.exit 0)) (.seq (.block 1 (.seq (.reg r45_3) (.seq (.seq (.reg r45_4) (.cond (Operand.tmp 24) (.seq (.reg r45_5) .ret) .skip)) (.seq (.reg r45_6) (.cond (Operand.tmp 36) (.seq (.reg r45_7) .ret) .skip))))) (.reg r45_8))))
def r45_9 : List PO := [⟨(some 6), (Op.assign (Operand.const (Value.int IntKind.i64 0))), none⟩]
def c45 : PC := (.seq (.reg r45_0) (.seq (.seq (.reg r45_1) (.block 0 (.loop l45_0))) (.seq (.reg r45_9) .ret)))
def i45 : FnI := ⟨41, [(ResultVar.tmp 6)], c45, 0, [[3], [0], [0]], [[0]], false⟩
-- loop.example/g00344/impl.kindTo
def r46_0 : List PO := [⟨(some 6), (Op.assign (Operand.const (Value.int IntKind.i64 0))), none⟩]
def r46_1 : List PO := [⟨(some 9), (Op.move (Operand.tmp 0)), none⟩,
  ⟨(some 10), (Op.call { callee := (Callee.builtin Builtin.len), args := #[(Operand.tmp 9)], argTypes := #[25] }), none⟩,
  ⟨(some 11), (Op.move (Operand.const (Value.int IntKind.i64 0))), none⟩]
def r46_2 : List PO := [⟨(some 12), (Op.binOp BinOp.lss 3 (Operand.tmp 11) (Operand.tmp 10) 3), none⟩]
def r46_3 : List PO := [⟨(some 13), (Op.indexAddr 25 (Operand.tmp 9) (Operand.tmp 11)), none⟩,
  ⟨(some 14), (Op.load 63 (Operand.tmp 13)), none⟩,
  ⟨(some 8), (Op.alloc 63), none⟩,
  ⟨none, (Op.store 63 (Operand.tmp 8) (Operand.tmp 14)), none⟩]
def r46_4 : List PO := [⟨(some 15), (Op.fieldAddr 63 (Operand.tmp 8) 0), none⟩,
  ⟨(some 16), (Op.load 3 (Operand.tmp 15)), none⟩,
  ⟨(some 17), (Op.move (Operand.tmp 1)), none⟩,
  ⟨(some 18), (Op.binOp BinOp.eql 3 (Operand.tmp 16) (Operand.tmp 17) 3), none⟩,
  ⟨(some 19), (Op.move (Operand.tmp 18)), none⟩,
  ⟨(some 20), (Op.fieldAddr 63 (Operand.tmp 8) 1), (some (19, true))⟩,
  ⟨(some 21), (Op.load 3 (Operand.tmp 20)), (some (19, true))⟩,
  ⟨(some 22), (Op.move (Operand.tmp 2)), (some (19, true))⟩,
  ⟨(some 23), (Op.binOp BinOp.eql 3 (Operand.tmp 21) (Operand.tmp 22) 3), (some (19, true))⟩,
  ⟨(some 24), (Op.pick (Operand.tmp 19) (Operand.tmp 23) (Operand.const (Value.bool false))), none⟩]
def r46_5 : List PO := [⟨(some 25), (Op.fieldAddr 63 (Operand.tmp 8) 2), none⟩,
  ⟨(some 26), (Op.load 3 (Operand.tmp 25)), none⟩,
  ⟨(some 6), (Op.assign (Operand.tmp 26)), none⟩]
def r46_6 : List PO := [⟨(some 27), (Op.fieldAddr 63 (Operand.tmp 8) 0), none⟩,
  ⟨(some 28), (Op.load 3 (Operand.tmp 27)), none⟩,
  ⟨(some 29), (Op.move (Operand.tmp 2)), none⟩,
  ⟨(some 30), (Op.binOp BinOp.eql 3 (Operand.tmp 28) (Operand.tmp 29) 3), none⟩,
  ⟨(some 31), (Op.move (Operand.tmp 30)), none⟩,
  ⟨(some 32), (Op.fieldAddr 63 (Operand.tmp 8) 1), (some (31, true))⟩,
  ⟨(some 33), (Op.load 3 (Operand.tmp 32)), (some (31, true))⟩,
  ⟨(some 34), (Op.move (Operand.tmp 1)), (some (31, true))⟩,
  ⟨(some 35), (Op.binOp BinOp.eql 3 (Operand.tmp 33) (Operand.tmp 34) 3), (some (31, true))⟩,
  ⟨(some 36), (Op.pick (Operand.tmp 31) (Operand.tmp 35) (Operand.const (Value.bool false))), none⟩]
def r46_7 : List PO := [⟨(some 37), (Op.fieldAddr 63 (Operand.tmp 8) 2), none⟩,
  ⟨(some 38), (Op.load 3 (Operand.tmp 37)), none⟩,
  ⟨(some 39), (Op.binOp BinOp.sub 3 (Operand.const (Value.int IntKind.i64 4)) (Operand.tmp 38) 3), none⟩,
  ⟨(some 6), (Op.assign (Operand.tmp 39)), none⟩]
def r46_8 : List PO := [⟨(some 40), (Op.binOp BinOp.add 3 (Operand.tmp 11) (Operand.const (Value.int IntKind.i64 1)) 3), none⟩,
  ⟨(some 11), (Op.move (Operand.tmp 40)), none⟩]
def l46_0 : PC := (.seq (.reg r46_2) (.seq (.cond (Operand.tmp 12) .skip (.exit 0)) (.seq (.block 1 (.seq (.reg r46_3) (.seq (.seq (.reg r46_4) (.cond (Operand.tmp 24) (.seq (.reg r46_5) .ret) .skip)) (.seq (.reg r46_6) (.cond (Operand.tmp 36) (.seq (.reg r46_7) .ret) .skip))))) (.reg r46_8))))
def r46_9 : List PO := [⟨(some 6), (Op.assign (Operand.const (Value.int IntKind.i64 0))), none⟩]
def c46 : PC := (.seq (.reg r46_0) (.seq (.seq (.reg r46_1) (.block 0 (.loop l46_0))) (.seq (.reg r46_9) .ret)))
def i46 : FnI := ⟨41, [(ResultVar.tmp 6)], c46, 0, [[3], [0], [0]], [[0]], false⟩
-- loop.example/g00344/spec.l1Has
def r47_0 : List PO := [⟨(some 4), (Op.assign (Operand.const (Value.bool false))), none⟩]
def r47_1 : List PO := [⟨(some 7), (Op.move (Operand.tmp 0)), none⟩,
  ⟨(some 8), (Op.call { callee := (Callee.builtin Builtin.len), args := #[(Operand.tmp 7)], argTypes := #[36] }), none⟩,
  ⟨(some 9), (Op.move (Operand.const (Value.int IntKind.i64 0))), none⟩]
def r47_2 : List PO := [⟨(some 10), (Op.binOp BinOp.lss 3 (Operand.tmp 9) (Operand.tmp 8) 3), none⟩]
def r47_3 : List PO := [⟨(some 11), (Op.indexAddr 36 (Operand.tmp 7) (Operand.tmp 9)), none⟩,
  ⟨(some 12), (Op.load 3 (Operand.tmp 11)), none⟩,
  ⟨(some 6), (Op.assign (Operand.tmp 12)), none⟩]
def r47_4 : List PO := [⟨(some 13), (Op.move (Operand.tmp 6)), none⟩,
  ⟨(some 14), (Op.move (Operand.tmp 1)), none⟩,
  ⟨(some 15), (Op.binOp BinOp.eql 3 (Operand.tmp 13) (Operand.tmp 14) 3), none⟩]
def r47_5 : List PO := [⟨(some 4), (Op.assign (Operand.const (Value.bool true))), none⟩]
def r47_6 : List PO := [⟨(some 16), (Op.binOp BinOp.add 3 (Operand.tmp 9) (Operand.const (Value.int IntKind.i64 1)) 3), none⟩,
  ⟨(some 9), (Op.move (Operand.tmp 16)), none⟩]
def l47_0 : PC := (.seq (.reg r47_2) (.seq (.cond (Operand.tmp 10) .skip (.exit 0)) (.seq (.block 1 (.seq (.reg r47_3) (.seq (.reg r47_4) (.cond (Operand.tmp 15) (.seq (.reg r47_5) .ret) .skip)))) (.reg r47_6))))
def r47_7 : List PO := [⟨(some 4), (Op.assign (Operand.const (Value.bool false))), none⟩]
def c47 : PC := (.seq (.reg r47_0) (.seq (.seq (.reg r47_1) (.block 0 (.loop l47_0))) (.seq (.reg r47_7) .ret)))
def i47 : FnI := ⟨17, [(ResultVar.tmp 4)], c47, 0, [[1], [0]], [[0]], false⟩
-- loop.example/g00344/spec.l11Row
def r53_0 : List PO := [⟨(some 6), (Op.assign (Operand.const (Value.bool false))), none⟩]
def r53_1 : List PO := [⟨(some 9), (Op.move (Operand.tmp 2)), none⟩,
  ⟨(some 10), (Op.call { callee := (Callee.builtin Builtin.len), args := #[(Operand.tmp 9)], argTypes := #[36] }), none⟩,
  ⟨(some 11), (Op.move (Operand.const (Value.int IntKind.i64 0))), none⟩]
def r53_2 : List PO := [⟨(some 12), (Op.binOp BinOp.lss 3 (Operand.tmp 11) (Operand.tmp 10) 3), none⟩]
def r53_3 : List PO := [⟨(some 13), (Op.move (Operand.tmp 11)), none⟩,
  ⟨(some 14), (Op.indexAddr 36 (Operand.tmp 9) (Operand.tmp 11)), none⟩,
  ⟨(some 15), (Op.load 3 (Operand.tmp 14)), none⟩,
  ⟨(some 7), (Op.assign (Operand.tmp 13)), none⟩,
  ⟨(some 8), (Op.assign (Operand.tmp 15)), none⟩]
def r53_4 : List PO := [⟨(some 16), (Op.move (Operand.tmp 8)), none⟩,
  ⟨(some 17), (Op.binOp BinOp.lss 3 (Operand.tmp 16) (Operand.const (Value.int IntKind.i64 0)) 3), none⟩,
  ⟨(some 18), (Op.move (Operand.tmp 17)), none⟩,
  ⟨(some 19), (Op.move (Operand.tmp 8)), (some (18, false))⟩,
  ⟨(some 20), (Op.move (Operand.tmp 0)), (some (18, false))⟩,
  ⟨(some 21), (Op.binOp BinOp.gtr 3 (Operand.tmp 19) (Operand.tmp 20) 3), (some (18, false))⟩,
  ⟨(some 22), (Op.pick (Operand.tmp 18) (Operand.const (Value.bool true)) (Operand.tmp 21)), none⟩,
  ⟨(some 23), (Op.move (Operand.tmp 22)), none⟩,
  ⟨(some 24), (Op.move (Operand.tmp 2)), (some (23, false))⟩,
  ⟨(some 25), (Op.move (Operand.tmp 7)), (some (23, false))⟩,
  ⟨(some 26), (Op.slice 36 (Operand.tmp 24) none (some (Operand.tmp 25)) none), (some (23, false))⟩,
  ⟨(some 27), (Op.move (Operand.tmp 8)), (some (23, false))⟩,
  ⟨(some 28), (Op.call { callee := (Callee.value (Operand.func 47)), args := #[(Operand.tmp 26), (Operand.tmp 27)], argTypes := #[36, 3] }), (some (23, false))⟩,
  ⟨(some 29), (Op.pick (Operand.tmp 23) (Operand.const (Value.bool true)) (Operand.tmp 28)), none⟩,
  ⟨(some 30), (Op.move (Operand.tmp 29)), none⟩,
  ⟨(some 31), (Op.move (Operand.tmp 7)), (some (30, false))⟩,
  ⟨(some 32), (Op.binOp BinOp.gtr 3 (Operand.tmp 31) (Operand.const (Value.int IntKind.i64 0)) 3), (some (30, false))⟩,
  ⟨(some 33), (Op.move (Operand.tmp 32)), (some (30, false))⟩,
  ⟨(some 34), (Op.move (Operand.tmp 1)), (some (33, true))⟩,
  ⟨(some 35), (Op.move (Operand.tmp 2)), (some (33, true))⟩,
  ⟨(some 36), (Op.move (Operand.tmp 7)), (some (33, true))⟩,
  ⟨(some 37), (Op.binOp BinOp.sub 3 (Operand.tmp 36) (Operand.const (Value.int IntKind.i64 1)) 3), (some (33, true))⟩,
  ⟨(some 38), (Op.indexAddr 36 (Operand.tmp 35) (Operand.tmp 37)), (some (33, true))⟩,
  ⟨(some 39), (Op.load 3 (Operand.tmp 38)), (some (33, true))⟩,
  ⟨(some 40), (Op.move (Operand.tmp 8)), (some (33, true))⟩,
  ⟨(some 41), (Op.call { callee := (Callee.value (Operand.func 45)), args := #[(Operand.tmp 34), (Operand.tmp 39), (Operand.tmp 40)], argTypes := #[25, 3, 3] }), (some (33, true))⟩,
  ⟨(some 42), (Op.binOp BinOp.eql 3 (Operand.tmp 41) (Operand.const (Value.int IntKind.i64 0)) 3), (some (33, true))⟩,
  ⟨(some 43), (Op.pick (Operand.tmp 33) (Operand.tmp 42) (Operand.const (Value.bool false))), (some (30, false))⟩,
  ⟨(some 44), (Op.pick (Operand.tmp 30) (Operand.const (Value.bool true)) (Operand.tmp 43)), none⟩]
def r53_5 : List PO := [⟨(some 6), (Op.assign (Operand.const (Value.bool false))), none⟩]
def r53_6 : List PO := [⟨(some 45), (Op.binOp BinOp.add 3 (Operand.tmp 11) (Operand.const (Value.int IntKind.i64 1)) 3), none⟩,
  ⟨(some 11), (Op.move (Operand.tmp 45)), none⟩]
def l53_0 : PC := (.seq (.reg r53_2) (.seq (.cond (Operand.tmp 12) .skip (.exit 0)) (.seq (.block 1 (.seq (.reg r53_3) (.seq (.reg r53_4) (.cond (Operand.tmp 44) (.seq (.reg r53_5) .ret) .skip)))) (.reg r53_6))))
def r53_7 : List PO := [⟨(some 46), (Op.move (Operand.tmp 2)), none⟩,
  ⟨(some 47), (Op.call { callee := (Callee.builtin Builtin.len), args := #[(Operand.tmp 46)], argTypes := #[36] }), none⟩,
  ⟨(some 48), (Op.call { callee := (Callee.value (Operand.func 39)), args := #[(Operand.tmp 47), (Operand.const (Value.int IntKind.i64 2)), (Operand.const (Value.int IntKind.i64 6))], argTypes := #[3, 3, 3] }), none⟩,
  ⟨(some 6), (Op.assign (Operand.tmp 48)), none⟩]
def c53 : PC := (.seq (.reg r53_0) (.seq (.seq (.reg r53_1) (.block 0 (.loop l53_0))) (.seq (.reg r53_7) .ret)))
def i53 : FnI := ⟨49, [(ResultVar.tmp 6)], c53, 0, [[0], [3], [1]], [[0]], false⟩
-- loop.example/g00344/spec.l11Free
def r54_0 : List PO := [⟨(some 4), (Op.assign (Operand.const (Value.bool false))), none⟩]
def r54_1 : List PO := [⟨(some 5), (Op.assign (Operand.const (Value.bool false))), none⟩]
def r54_2 : List PO := [⟨(some 6), (Op.assign (Operand.const (Value.int IntKind.i64 1))), none⟩]
def r54_3 : List PO := [⟨(some 8), (Op.move (Operand.tmp 6)), none⟩,
  ⟨(some 9), (Op.move (Operand.tmp 1)), none⟩,
  ⟨(some 10), (Op.call { callee := (Callee.builtin Builtin.len), args := #[(Operand.tmp 9)], argTypes := #[36] }), none⟩,
  ⟨(some 11), (Op.binOp BinOp.lss 3 (Operand.tmp 8) (Operand.tmp 10) 3), none⟩]
def r54_5 : List PO := [⟨(some 14), (Op.move (Operand.tmp 0)), none⟩,
  ⟨(some 15), (Op.move (Operand.tmp 1)), none⟩,
  ⟨(some 16), (Op.move (Operand.tmp 6)), none⟩,
  ⟨(some 17), (Op.binOp BinOp.sub 3 (Operand.tmp 16) (Operand.const (Value.int IntKind.i64 1)) 3), none⟩,
  ⟨(some 18), (Op.indexAddr 36 (Operand.tmp 15) (Operand.tmp 17)), none⟩,
  ⟨(some 19), (Op.load 3 (Operand.tmp 18)), none⟩,
  ⟨(some 20), (Op.move (Operand.tmp 1)), none⟩,
  ⟨(some 21), (Op.move (Operand.tmp 6)), none⟩,
  ⟨(some 22), (Op.indexAddr 36 (Operand.tmp 20) (Operand.tmp 21)), none⟩,
  ⟨(some 23), (Op.load 3 (Operand.tmp 22)), none⟩,
  ⟨(some 24), (Op.call { callee := (Callee.value (Operand.func 45)), args := #[(Operand.tmp 14), (Operand.tmp 19), (Operand.tmp 23)], argTypes := #[25, 3, 3] }), none⟩,
  ⟨(some 7), (Op.assign (Operand.tmp 24)), none⟩]
def r54_6 : List PO := [⟨(some 25), (Op.move (Operand.tmp 5)), none⟩,
  ⟨(some 26), (Op.move (Operand.tmp 25)), none⟩,
  ⟨(some 27), (Op.move (Operand.tmp 7)), (some (26, true))⟩,
  ⟨(some 28), (Op.binOp BinOp.neq 3 (Operand.tmp 27) (Operand.const (Value.int IntKind.i64 1)) 3), (some (26, true))⟩,
  ⟨(some 29), (Op.pick (Operand.tmp 26) (Operand.tmp 28) (Operand.const (Value.bool false))), none⟩]
def r54_7 : List PO := [⟨(some 4), (Op.assign (Operand.const (Value.bool false))), none⟩]
def r54_8 : List PO := [⟨(some 30), (Op.move (Operand.tmp 5)), none⟩,
  ⟨(some 31), (Op.move (Operand.tmp 30)), none⟩,
  ⟨(some 32), (Op.move (Operand.tmp 7)), (some (31, false))⟩,
  ⟨(some 33), (Op.binOp BinOp.neq 3 (Operand.tmp 32) (Operand.const (Value.int IntKind.i64 3)) 3), (some (31, false))⟩,
  ⟨(some 34), (Op.pick (Operand.tmp 31) (Operand.const (Value.bool true)) (Operand.tmp 33)), none⟩,
  ⟨(some 5), (Op.assign (Operand.tmp 34)), none⟩]
def r54_4 : List PO := [⟨(some 12), (Op.move (Operand.tmp 6)), none⟩,
  ⟨(some 13), (Op.binOp BinOp.add 3 (Operand.tmp 12) (Operand.const (Value.int IntKind.i64 1)) 3), none⟩,
  ⟨(some 6), (Op.assign (Operand.tmp 13)), none⟩]
def l54_0 : PC := (.seq (.seq (.reg r54_3) (.cond (Operand.tmp 11) .skip (.exit 0))) (.seq (.block 1 (.seq (.fz r54_5) (.seq (.seq (.reg r54_6) (.cond (Operand.tmp 29) (.seq (.reg r54_7) .ret) .skip)) (.reg r54_8)))) (.reg r54_4)))
def r54_9 : List PO := [⟨(some 4), (Op.assign (Operand.const (Value.bool true))), none⟩]
def c54 : PC := (.seq (.reg r54_0) (.seq (.reg r54_1) (.seq (.seq (.reg r54_2) (.block 0 (.loop l54_0))) (.seq (.reg r54_9) .ret))))
def i54 : FnI := ⟨35, [(ResultVar.tmp 4)], c54, 0, [[3], [1]], [[0]], false⟩
-- slices.Contains[[]int,int]
def r55_0 : List PO := [⟨(some 4), (Op.assign (Operand.const (Value.bool false))), none⟩]
def r55_1 : List PO := [⟨(some 5), (Op.move (Operand.tmp 0)), none⟩,
  ⟨(some 6), (Op.move (Operand.tmp 1)), none⟩,
  ⟨(some 7), (Op.call { callee := (Callee.value (Operand.func 72)), args := #[(Operand.tmp 5), (Operand.tmp 6)], argTypes := #[36, 3] }), none⟩,
  ⟨(some 8), (Op.binOp BinOp.geq 3 (Operand.tmp 7) (Operand.const (Value.int IntKind.i64 0)) 3), none⟩,
  ⟨(some 4), (Op.assign (Operand.tmp 8)), none⟩]
def c55 : PC := (.seq (.reg r55_0) (.seq (.reg r55_1) .ret))
def i55 : FnI := ⟨9, [(ResultVar.tmp 4)], c55, 0, [[1], [0]], [[0]], false⟩
-- loop.example/g00344/impl.isValleyFree
def r56_0 : List PO := [⟨(some 4), (Op.assign (Operand.const (Value.bool false))), none⟩]
def r56_1 : List PO := [⟨(some 5), (Op.assign (Operand.const (Value.bool false))), none⟩]
def r56_2 : List PO := [⟨(some 6), (Op.assign (Operand.const (Value.int IntKind.i64 1))), none⟩]
def r56_3 : List PO := [⟨(some 8), (Op.move (Operand.tmp 6)), none⟩,
  ⟨(some 9), (Op.move (Operand.tmp 1)), none⟩,
  ⟨(some 10), (Op.call { callee := (Callee.builtin Builtin.len), args := #[(Operand.tmp 9)], argTypes := #[36] }), none⟩,
  ⟨(some 11), (Op.binOp BinOp.lss 3 (Operand.tmp 8) (Operand.tmp 10) 3), none⟩]
def r56_5 : List PO := [⟨(some 14), (Op.move (Operand.tmp 0)), none⟩,
  ⟨(some 15), (Op.move (Operand.tmp 1)), none⟩,
  ⟨(some 16), (Op.move (Operand.tmp 6)), none⟩,
  ⟨(some 17), (Op.binOp BinOp.sub 3 (Operand.tmp 16) (Operand.const (Value.int IntKind.i64 1)) 3), none⟩,
  ⟨(some 18), (Op.indexAddr 36 (Operand.tmp 15) (Operand.tmp 17)), none⟩,
  ⟨(some 19), (Op.load 3 (Operand.tmp 18)), none⟩,
  ⟨(some 20), (Op.move (Operand.tmp 1)), none⟩,
  ⟨(some 21), (Op.move (Operand.tmp 6)), none⟩,
  ⟨(some 22), (Op.indexAddr 36 (Operand.tmp 20) (Operand.tmp 21)), none⟩,
  ⟨(some 23), (Op.load 3 (Operand.tmp 22)), none⟩,
  ⟨(some 24), (Op.call { callee := (Callee.value (Operand.func 46)), args := #[(Operand.tmp 14), (Operand.tmp 19), (Operand.tmp 23)], argTypes := #[25, 3, 3] }), none⟩,
  ⟨(some 7), (Op.assign (Operand.tmp 24)), none⟩]
def r56_6 : List PO := [⟨(some 25), (Op.move (Operand.tmp 7)), none⟩,
  ⟨(some 26), (Op.binOp BinOp.eql 3 (Operand.tmp 25) (Operand.const (Value.int IntKind.i64 0)) 3), none⟩,
  ⟨(some 27), (Op.move (Operand.tmp 26)), none⟩,
  ⟨(some 28), (Op.move (Operand.tmp 5)), (some (27, false))⟩,
  ⟨(some 29), (Op.move (Operand.tmp 28)), (some (27, false))⟩,
  ⟨(some 30), (Op.move (Operand.tmp 7)), (some (29, true))⟩,
  ⟨(some 31), (Op.binOp BinOp.neq 3 (Operand.tmp 30) (Operand.const (Value.int IntKind.i64 1)) 3), (some (29, true))⟩,
  ⟨(some 32), (Op.pick (Operand.tmp 29) (Operand.tmp 31) (Operand.const (Value.bool false))), (some (27, false))⟩,
  ⟨(some 33), (Op.pick (Operand.tmp 27) (Operand.const (Value.bool true)) (Operand.tmp 32)), none⟩]
def r56_7 : List PO := [⟨(some 4), (Op.assign (Operand.const (Value.bool false))), none⟩]
def r56_8 : List PO := [⟨(some 34), (Op.move (Operand.tmp 5)), none⟩,
  ⟨(some 35), (Op.move (Operand.tmp 34)), none⟩,
  ⟨(some 36), (Op.move (Operand.tmp 7)), (some (35, false))⟩,
  ⟨(some 37), (Op.binOp BinOp.neq 3 (Operand.tmp 36) (Operand.const (Value.int IntKind.i64 3)) 3), (some (35, false))⟩,
  ⟨(some 38), (Op.pick (Operand.tmp 35) (Operand.const (Value.bool true)) (Operand.tmp 37)), none⟩,
  ⟨(some 5), (Op.assign (Operand.tmp 38)), none⟩]
def r56_4 : List PO := [⟨(some 12), (Op.move (Operand.tmp 6)), none⟩,
  ⟨(some 13), (Op.binOp BinOp.add 3 (Operand.tmp 12) (Operand.const (Value.int IntKind.i64 1)) 3), none⟩,
  ⟨(some 6), (Op.assign (Operand.tmp 13)), none⟩]
def l56_0 : PC := (.seq (.seq (.reg r56_3) (.cond (Operand.tmp 11) .skip (.exit 0))) (.seq (.block 1 (.seq (.fz r56_5) (.seq (.seq (.reg r56_6) (.cond (Operand.tmp 33) (.seq (.reg r56_7) .ret) .skip)) (.reg r56_8)))) (.reg r56_4)))
def r56_9 : List PO := [⟨(some 4), (Op.assign (Operand.const (Value.bool true))), none⟩]
def c56 : PC := (.seq (.reg r56_0) (.seq (.reg r56_1) (.seq (.seq (.reg r56_2) (.block 0 (.loop l56_0))) (.seq (.reg r56_9) .ret))))
def i56 : FnI := ⟨39, [(ResultVar.tmp 4)], c56, 0, [[3], [1]], [[0]], false⟩
-- slices.IndexFunc[[]loop.example/g00344/impl.Rel,loop.example/g00344/impl.Rel]
def r70_0 : List PO := [⟨(some 4), (Op.assign (Operand.const (Value.int IntKind.i64 0))), none⟩]
def r70_1 : List PO := [⟨(some 6), (Op.move (Operand.tmp 0)), none⟩,
  ⟨(some 7), (Op.call { callee := (Callee.builtin Builtin.len), args := #[(Operand.tmp 6)], argTypes := #[25] }), none⟩,
  ⟨(some 8), (Op.move (Operand.const (Value.int IntKind.i64 0))), none⟩]
def r70_2 : List PO := [⟨(some 9), (Op.binOp BinOp.lss 3 (Operand.tmp 8) (Operand.tmp 7) 3), none⟩]
def r70_3 : List PO := [⟨(some 10), (Op.move (Operand.tmp 8)), none⟩,
  ⟨(some 5), (Op.assign (Operand.tmp 10)), none⟩]
def r70_4 : List PO := [⟨(some 11), (Op.move (Operand.tmp 1)), none⟩,
  ⟨(some 12), (Op.move (Operand.tmp 0)), none⟩,
  ⟨(some 13), (Op.move (Operand.tmp 5)), none⟩,
  ⟨(some 14), (Op.indexAddr 25 (Operand.tmp 12) (Operand.tmp 13)), none⟩,
  ⟨(some 15), (Op.load 63 (Operand.tmp 14)), none⟩,
  ⟨(some 16), (Op.call { callee := (Callee.value (Operand.tmp 11)), args := #[(Operand.tmp 15)], argTypes := #[63] }), none⟩]
def r70_5 : List PO := [⟨(some 17), (Op.move (Operand.tmp 5)), none⟩,
  ⟨(some 4), (Op.assign (Operand.tmp 17)), none⟩]
def r70_6 : List PO := [⟨(some 18), (Op.binOp BinOp.add 3 (Operand.tmp 8) (Operand.const (Value.int IntKind.i64 1)) 3), none⟩,
  ⟨(some 8), (Op.move (Operand.tmp 18)), none⟩]
def l70_0 : PC := (.seq (.reg r70_2) (.seq (.cond (Operand.tmp 9) .skip (.exit 0)) (.seq (.block 1 (.seq (.reg r70_3) (.seq (.reg r70_4) (.cond (Operand.tmp 16) (.seq (.reg r70_5) .ret) .skip)))) (.reg r70_6))))
def r70_7 : List PO := [⟨(some 4), (Op.assign (Operand.const (Value.int IntKind.i64 (-1)))), none⟩]
def c70 : PC := (.seq (.reg r70_0) (.seq (.seq (.reg r70_1) (.block 0 (.loop l70_0))) (.seq (.reg r70_7) .ret)))
def i70 : FnI := ⟨19, [(ResultVar.tmp 4)], c70, 0, [[3], [0]], [[0]], false⟩
-- slices.Index[[]int,int]
def r72_0 : List PO := [⟨(some 4), (Op.assign (Operand.const (Value.int IntKind.i64 0))), none⟩]
def r72_1 : List PO := [⟨(some 6), (Op.move (Operand.tmp 0)), none⟩,
  ⟨(some 7), (Op.call { callee := (Callee.builtin Builtin.len), args := #[(Operand.tmp 6)], argTypes := #[36] }), none⟩,
  ⟨(some 8), (Op.move (Operand.const (Value.int IntKind.i64 0))), none⟩]
def r72_2 : List PO := [⟨(some 9), (Op.binOp BinOp.lss 3 (Operand.tmp 8) (Operand.tmp 7) 3), none⟩]
def r72_3 : List PO := [⟨(some 10), (Op.move (Operand.tmp 8)), none⟩,
  ⟨(some 5), (Op.assign (Operand.tmp 10)), none⟩]
def r72_4 : List PO := [⟨(some 11), (Op.move (Operand.tmp 1)), none⟩,
  ⟨(some 12), (Op.move (Operand.tmp 0)), none⟩,
  ⟨(some 13), (Op.move (Operand.tmp 5)), none⟩,
  ⟨(some 14), (Op.indexAddr 36 (Operand.tmp 12) (Operand.tmp 13)), none⟩,
  ⟨(some 15), (Op.load 3 (Operand.tmp 14)), none⟩,
  ⟨(some 16), (Op.binOp BinOp.eql 3 (Operand.tmp 11) (Operand.tmp 15) 3), none⟩]
def r72_5 : List PO := [⟨(some 17), (Op.move (Operand.tmp 5)), none⟩,
  ⟨(some 4), (Op.assign (Operand.tmp 17)), none⟩]
def r72_6 : List PO := [⟨(some 18), (Op.binOp BinOp.add 3 (Operand.tmp 8) (Operand.const (Value.int IntKind.i64 1)) 3), none⟩,
  ⟨(some 8), (Op.move (Operand.tmp 18)), none⟩]
def l72_0 : PC := (.seq (.reg r72_2) (.seq (.cond (Operand.tmp 9) .skip (.exit 0)) (.seq (.block 1 (.seq (.reg r72_3) (.seq (.reg r72_4) (.cond (Operand.tmp 16) (.seq (.reg r72_5) .ret) .skip)))) (.reg r72_6))))
def r72_7 : List PO := [⟨(some 4), (Op.assign (Operand.const (Value.int IntKind.i64 (-1)))), none⟩]
def c72 : PC := (.seq (.reg r72_0) (.seq (.seq (.reg r72_1) (.block 0 (.loop l72_0))) (.seq (.reg r72_7) .ret)))
def i72 : FnI := ⟨19, [(ResultVar.tmp 4)], c72, 0, [[1], [0]], [[0]], false⟩
def tys : List (Nat × TyI) := [(3, ⟨1, 8, false, [.int .i64 0], [0], 0, [], .int .i64, false⟩),
  (4, ⟨1, 1, false, [.bool false], [0], 0, [], .bool, false⟩),
  (22, ⟨1, 24, false, [.nil], [3], 65, [], .other, false⟩),
  (25, ⟨1, 24, false, [.nil], [3], 63, [], .other, false⟩),
  (36, ⟨1, 24, false, [.nil], [1], 3, [], .other, false⟩),
  (63, ⟨3, 24, true, [.int .i64 0, .int .i64 0, .int .i64 0], [0, 0, 0], 0, [(0, 1, false), (1, 1, false), (2, 1, false)], .other, false⟩),
  (65, ⟨3, 24, true, [.int .i64 0, .int .i64 0, .int .i64 0], [0, 0, 0], 0, [(0, 1, false), (1, 1, false), (2, 1, false)], .other, false⟩)]
def fns : List (Nat × FnI) := [(7, i7), (11, i11), (12, i12), (13, i13), (14, i14), (15, i15), (22, i22), (23, i23), (24, i24), (25, i25), (39, i39), (40, i40), (41, i41), (42, i42), (43, i43), (44, i44), (45, i45), (46, i46), (47, i47), (53, i53), (54, i54), (55, i55), (56, i56), (70, i70), (72, i72)]
def T : Tab := mkTab tys fns
@[simp] theorem ty3 : T.ty 3 = some ⟨1, 8, false, [.int .i64 0], [0], 0, [], .int .i64, false⟩ := rfl
@[simp] theorem base3 : T.baseOf 3 = Bs.int .i64 := rfl
@[simp] theorem ty4 : T.ty 4 = some ⟨1, 1, false, [.bool false], [0], 0, [], .bool, false⟩ := rfl
@[simp] theorem base4 : T.baseOf 4 = Bs.bool := rfl
@[simp] theorem ty22 : T.ty 22 = some ⟨1, 24, false, [.nil], [3], 65, [], .other, false⟩ := rfl
@[simp] theorem base22 : T.baseOf 22 = Bs.other := rfl
@[simp] theorem elem22 : T.elemOf 22 = some ⟨3, 24, true, [.int .i64 0, .int .i64 0, .int .i64 0], [0, 0, 0], 0, [(0, 1, false), (1, 1, false), (2, 1, false)], .other, false⟩ := rfl
@[simp] theorem ty25 : T.ty 25 = some ⟨1, 24, false, [.nil], [3], 63, [], .other, false⟩ := rfl
@[simp] theorem base25 : T.baseOf 25 = Bs.other := rfl
@[simp] theorem elem25 : T.elemOf 25 = some ⟨3, 24, true, [.int .i64 0, .int .i64 0, .int .i64 0], [0, 0, 0], 0, [(0, 1, false), (1, 1, false), (2, 1, false)], .other, false⟩ := rfl
@[simp] theorem ty36 : T.ty 36 = some ⟨1, 24, false, [.nil], [1], 3, [], .other, false⟩ := rfl
@[simp] theorem base36 : T.baseOf 36 = Bs.other := rfl
@[simp] theorem elem36 : T.elemOf 36 = some ⟨1, 8, false, [.int .i64 0], [0], 0, [], .int .i64, false⟩ := rfl
@[simp] theorem ty63 : T.ty 63 = some ⟨3, 24, true, [.int .i64 0, .int .i64 0, .int .i64 0], [0, 0, 0], 0, [(0, 1, false), (1, 1, false), (2, 1, false)], .other, false⟩ := rfl
@[simp] theorem base63 : T.baseOf 63 = Bs.other := rfl
@[simp] theorem ty65 : T.ty 65 = some ⟨3, 24, true, [.int .i64 0, .int .i64 0, .int .i64 0], [0, 0, 0], 0, [(0, 1, false), (1, 1, false), (2, 1, false)], .other, false⟩ := rfl
@[simp] theorem base65 : T.baseOf 65 = Bs.other := rfl
theorem ok7 : FnOk Try.prog (7, i7) := ⟨Try.f7, _, Try.func7, rfl, by kernel_rfl, rfl, rfl, by kernel_rfl⟩
theorem ok11 : FnOk Try.prog (11, i11) := ⟨Try.f11, _, Try.func11, rfl, by kernel_rfl, rfl, rfl, by kernel_rfl⟩
theorem ok12 : FnOk Try.prog (12, i12) := ⟨Try.f12, _, Try.func12, rfl, by kernel_rfl, rfl, rfl, by kernel_rfl⟩
theorem ok13 : FnOk Try.prog (13, i13) := ⟨Try.f13, _, Try.func13, rfl, by kernel_rfl, rfl, rfl, by kernel_rfl⟩
theorem ok14 : FnOk Try.prog (14, i14) := ⟨Try.f14, _, Try.func14, rfl, by kernel_rfl, rfl, rfl, by kernel_rfl⟩
theorem ok15 : FnOk Try.prog (15, i15) := ⟨Try.f15, _, Try.func15, rfl, by kernel_rfl, rfl, rfl, by kernel_rfl⟩
theorem ok22 : FnOk Try.prog (22, i22) := ⟨Try.f22, _, Try.func22, rfl, by kernel_rfl, rfl, rfl, by kernel_rfl⟩
theorem ok23 : FnOk Try.prog (23, i23) := ⟨Try.f23, _, Try.func23, rfl, by kernel_rfl, rfl, rfl, by kernel_rfl⟩
theorem ok24 : FnOk Try.prog (24, i24) := ⟨Try.f24, _, Try.func24, rfl, by kernel_rfl, rfl, rfl, by kernel_rfl⟩
theorem ok25 : FnOk Try.prog (25, i25) := ⟨Try.f25, _, Try.func25, rfl, by kernel_rfl, rfl, rfl, by kernel_rfl⟩
theorem ok39 : FnOk Try.prog (39, i39) := ⟨Try.f39, _, Try.func39, rfl, by kernel_rfl, rfl, rfl, by kernel_rfl⟩
theorem ok40 : FnOk Try.prog (40, i40) := ⟨Try.f40, _, Try.func40, rfl, by kernel_rfl, rfl, rfl, by kernel_rfl⟩
theorem ok41 : FnOk Try.prog (41, i41) := ⟨Try.f41, _, Try.func41, rfl, by kernel_rfl, rfl, rfl, by kernel_rfl⟩
theorem ok42 : FnOk Try.prog (42, i42) := ⟨Try.f42, _, Try.func42, rfl, by kernel_rfl, rfl, rfl, by kernel_rfl⟩
theorem ok43 : FnOk Try.prog (43, i43) := ⟨Try.f43, _, Try.func43, rfl, by kernel_rfl, rfl, rfl, by kernel_rfl⟩
theorem ok44 : FnOk Try.prog (44, i44) := ⟨Try.f44, _, Try.func44, rfl, by kernel_rfl, rfl, rfl, by kernel_rfl⟩
theorem ok45 : FnOk Try.prog (45, i45) := ⟨Try.f45, _, Try.func45, rfl, by kernel_rfl, rfl, rfl, by kernel_rfl⟩
theorem ok46 : FnOk Try.prog (46, i46) := ⟨Try.f46, _, Try.func46, rfl, by kernel_rfl, rfl, rfl, by kernel_rfl⟩
theorem ok47 : FnOk Try.prog (47, i47) := ⟨Try.f47, _, Try.func47, rfl, by kernel_rfl, rfl, rfl, by kernel_rfl⟩
theorem ok53 : FnOk Try.prog (53, i53) := ⟨Try.f53, _, Try.func53, rfl, by kernel_rfl, rfl, rfl, by kernel_rfl⟩
theorem ok54 : FnOk Try.prog (54, i54) := ⟨Try.f54, _, Try.func54, rfl, by kernel_rfl, rfl, rfl, by kernel_rfl⟩
theorem ok55 : FnOk Try.prog (55, i55) := ⟨Try.f55, _, Try.func55, rfl, by kernel_rfl, rfl, rfl, by kernel_rfl⟩
theorem ok56 : FnOk Try.prog (56, i56) := ⟨Try.f56, _, Try.func56, rfl, by kernel_rfl, rfl, rfl, by kernel_rfl⟩
theorem ok70 : FnOk Try.prog (70, i70) := ⟨Try.f70, _, Try.func70, rfl, by kernel_rfl, rfl, rfl, by kernel_rfl⟩
theorem ok72 : FnOk Try.prog (72, i72) := ⟨Try.f72, _, Try.func72, rfl, by kernel_rfl, rfl, rfl, by kernel_rfl⟩
theorem tab : TabOk Try.prog T := tabOk_of (by kernel_rfl) (.cons ok7 (.cons ok11 (.cons ok12 (.cons ok13 (.cons ok14 (.cons ok15 (.cons ok22 (.cons ok23 (.cons ok24 (.cons ok25 (.cons ok39 (.cons ok40 (.cons ok41 (.cons ok42 (.cons ok43 (.cons ok44 (.cons ok45 (.cons ok46 (.cons ok47 (.cons ok53 (.cons ok54 (.cons ok55 (.cons ok56 (.cons ok70 (.cons ok72 (.nil))))))))))))))))))))))))))
theorem fn7 : T.fn 7 = some i7 := rfl
theorem fn11 : T.fn 11 = some i11 := rfl
theorem fn12 : T.fn 12 = some i12 := rfl
theorem fn13 : T.fn 13 = some i13 := rfl
theorem fn14 : T.fn 14 = some i14 := rfl
theorem fn15 : T.fn 15 = some i15 := rfl
theorem fn22 : T.fn 22 = some i22 := rfl
theorem fn23 : T.fn 23 = some i23 := rfl
theorem fn24 : T.fn 24 = some i24 := rfl
theorem fn25 : T.fn 25 = some i25 := rfl
theorem fn39 : T.fn 39 = some i39 := rfl
theorem fn40 : T.fn 40 = some i40 := rfl
theorem fn41 : T.fn 41 = some i41 := rfl
theorem fn42 : T.fn 42 = some i42 := rfl
theorem fn43 : T.fn 43 = some i43 := rfl
theorem fn44 : T.fn 44 = some i44 := rfl
theorem fn45 : T.fn 45 = some i45 := rfl
theorem fn46 : T.fn 46 = some i46 := rfl
theorem fn47 : T.fn 47 = some i47 := rfl
theorem fn53 : T.fn 53 = some i53 := rfl
theorem fn54 : T.fn 54 = some i54 := rfl
theorem fn55 : T.fn 55 = some i55 := rfl
theorem fn56 : T.fn 56 = some i56 := rfl
theorem fn70 : T.fn 70 = some i70 := rfl
theorem fn72 : T.fn 72 = some i72 := rfl

end Go.Pi.Ytichbkallidkcaa.IsValleyFree
