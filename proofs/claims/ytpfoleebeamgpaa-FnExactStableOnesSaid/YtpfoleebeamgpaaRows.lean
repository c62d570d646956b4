/-
  No cell of these rows narrows 'for every input' (looked for: loops, veiled, ifaces, maps, wideKeys, modest, calm, conditions, laid).
  DERIVED. THE GIVEN ROWS OF THIS SEAT. 10 by the template 'for every input the law returns true; each argument reads behind the call as it read before'; 0 by the template 'total and deterministic' (their statements: YtpfoleebeamgpaaTotals.lean).
  GIVEN WITH THE SEED: the statements are not yours to turn. If you find one false, say at which input.
  Laid BY PROGRAM, IN A SANDBOX (cutbox-rows.mjs): the forced cells as the released guide's own fill.sh prints them over the translation ccae05e9c5b02d64… (all of the seat's roots in one cut). By AI agents, Wed Nov 11 2026. No macro, syntax, notation, axiom, sorry.
-/
import Derived.Test.YtpfoleebeamgpaaChecked
import GoSem.Claim
import GoSem.ClaimJoined
import GoSem.ClaimMapViews
import Derived.JoinedTies
import Derived.KernelRfl
namespace Go.Proofs.Ytpfoleebeamgpaa
/- THE CELL 'sum', in the pinned program and in every row, IS THE sha256 OF THE DUMP (.gsa) THAT YtpfoleebeamgpaaProg.lean LOADS. Nothing in Lean hashes anything: it is a label: what it is worth is what the hold of that sum in a sandbox is worth. -/
noncomputable def Try.pinned : Pinned := { name := "ytpfoleebeamgpaa", sum := "ccae05e9c5b02d646dbee722ef8ca9024c9358c1481b882c12d50b90ae84e210", checked := Try.checked }
namespace Rows
def none {H : Type} : Left H := { results := [], args := [] }

/-- 'laws.FnExactGoodSpp': WHATEVER THE INPUT: true; the input reads as it did. -/
def fnExactGoodSppSpec : ChangeSpec := { name := "fnExactGoodSpp", fn := fun _ => fun
  | [d] => { results := [.lit (.bool true)], args := [d] }
  | _ => none }
def fnExactGoodSppRow : OpenClaim := { program := "ytpfoleebeamgpaa", sum := "ccae05e9c5b02d646dbee722ef8ca9024c9358c1481b882c12d50b90ae84e210", func := "loop.example/g00344/laws.FnExactGoodSpp", spec := "fnExactGoodSpp", unfollowed := true, recurses := true, apart := false }
def FnExactGoodSppSaid : Prop := fnExactGoodSppRow.holds Try.pinned (OpenSpec.ofChange fnExactGoodSppSpec)

/-- ITS FALSE NEIGHBOUR: 'it returns false'. Refute it at one input. -/
def fnExactGoodSppWrong : ChangeSpec := { name := "fnExactGoodSpp", fn := fun _ => fun
  | [d] => { results := [.lit (.bool false)], args := [d] }
  | _ => none }
def FnExactGoodSppWrongFalsely : Prop := fnExactGoodSppRow.holds Try.pinned (OpenSpec.ofChange fnExactGoodSppWrong)

/-- 'laws.FnExactBestFor': WHATEVER THE INPUT: true; the input reads as it did. -/
def fnExactBestForSpec : ChangeSpec := { name := "fnExactBestFor", fn := fun _ => fun
  | [d1, d2, d3] => { results := [.lit (.bool true)], args := [d1, d2, d3] }
  | _ => none }
def fnExactBestForRow : OpenClaim := { program := "ytpfoleebeamgpaa", sum := "ccae05e9c5b02d646dbee722ef8ca9024c9358c1481b882c12d50b90ae84e210", func := "loop.example/g00344/laws.FnExactBestFor", spec := "fnExactBestFor", unfollowed := true, recurses := true, apart := false }
def FnExactBestForSaid : Prop := fnExactBestForRow.holds Try.pinned (OpenSpec.ofChange fnExactBestForSpec)

/-- ITS FALSE NEIGHBOUR: 'it returns false'. Refute it at one input. -/
def fnExactBestForWrong : ChangeSpec := { name := "fnExactBestFor", fn := fun _ => fun
  | [d1, d2, d3] => { results := [.lit (.bool false)], args := [d1, d2, d3] }
  | _ => none }
def FnExactBestForWrongFalsely : Prop := fnExactBestForRow.holds Try.pinned (OpenSpec.ofChange fnExactBestForWrong)

/-- 'laws.FnExactIsStable': WHATEVER THE INPUT: true; the input reads as it did. -/
def fnExactIsStableSpec : ChangeSpec := { name := "fnExactIsStable", fn := fun _ => fun
  | [d1, d2] => { results := [.lit (.bool true)], args := [d1, d2] }
  | _ => none }
def fnExactIsStableRow : OpenClaim := { program := "ytpfoleebeamgpaa", sum := "ccae05e9c5b02d646dbee722ef8ca9024c9358c1481b882c12d50b90ae84e210", func := "loop.example/g00344/laws.FnExactIsStable", spec := "fnExactIsStable", unfollowed := true, recurses := true, apart := false }
def FnExactIsStableSaid : Prop := fnExactIsStableRow.holds Try.pinned (OpenSpec.ofChange fnExactIsStableSpec)

/-- ITS FALSE NEIGHBOUR: 'it returns false'. Refute it at one input. -/
def fnExactIsStableWrong : ChangeSpec := { name := "fnExactIsStable", fn := fun _ => fun
  | [d1, d2] => { results := [.lit (.bool false)], args := [d1, d2] }
  | _ => none }
def FnExactIsStableWrongFalsely : Prop := fnExactIsStableRow.holds Try.pinned (OpenSpec.ofChange fnExactIsStableWrong)

/-- 'laws.FnExactHasWheel': WHATEVER THE INPUT: true; the input reads as it did. -/
def fnExactHasWheelSpec : ChangeSpec := { name := "fnExactHasWheel", fn := fun _ => fun
  | [d] => { results := [.lit (.bool true)], args := [d] }
  | _ => none }
def fnExactHasWheelRow : OpenClaim := { program := "ytpfoleebeamgpaa", sum := "ccae05e9c5b02d646dbee722ef8ca9024c9358c1481b882c12d50b90ae84e210", func := "loop.example/g00344/laws.FnExactHasWheel", spec := "fnExactHasWheel", unfollowed := true, recurses := true, apart := false }
def FnExactHasWheelSaid : Prop := fnExactHasWheelRow.holds Try.pinned (OpenSpec.ofChange fnExactHasWheelSpec)

/-- ITS FALSE NEIGHBOUR: 'it returns false'. Refute it at one input. -/
def fnExactHasWheelWrong : ChangeSpec := { name := "fnExactHasWheel", fn := fun _ => fun
  | [d] => { results := [.lit (.bool false)], args := [d] }
  | _ => none }
def FnExactHasWheelWrongFalsely : Prop := fnExactHasWheelRow.holds Try.pinned (OpenSpec.ofChange fnExactHasWheelWrong)

/-- 'laws.FnExactActivateAll': WHATEVER THE INPUT: true; the input reads as it did. -/
def fnExactActivateAllSpec : ChangeSpec := { name := "fnExactActivateAll", fn := fun _ => fun
  | [d1, d2] => { results := [.lit (.bool true)], args := [d1, d2] }
  | _ => none }
def fnExactActivateAllRow : OpenClaim := { program := "ytpfoleebeamgpaa", sum := "ccae05e9c5b02d646dbee722ef8ca9024c9358c1481b882c12d50b90ae84e210", func := "loop.example/g00344/laws.FnExactActivateAll", spec := "fnExactActivateAll", unfollowed := true, recurses := true, apart := false }
def FnExactActivateAllSaid : Prop := fnExactActivateAllRow.holds Try.pinned (OpenSpec.ofChange fnExactActivateAllSpec)

/-- ITS FALSE NEIGHBOUR: 'it returns false'. Refute it at one input. -/
def fnExactActivateAllWrong : ChangeSpec := { name := "fnExactActivateAll", fn := fun _ => fun
  | [d1, d2] => { results := [.lit (.bool false)], args := [d1, d2] }
  | _ => none }
def FnExactActivateAllWrongFalsely : Prop := fnExactActivateAllRow.holds Try.pinned (OpenSpec.ofChange fnExactActivateAllWrong)

/-- 'laws.FnExactStableOnes': WHATEVER THE INPUT: true; the input reads as it did. -/
def fnExactStableOnesSpec : ChangeSpec := { name := "fnExactStableOnes", fn := fun _ => fun
  | [d] => { results := [.lit (.bool true)], args := [d] }
  | _ => none }
def fnExactStableOnesRow : OpenClaim := { program := "ytpfoleebeamgpaa", sum := "ccae05e9c5b02d646dbee722ef8ca9024c9358c1481b882c12d50b90ae84e210", func := "loop.example/g00344/laws.FnExactStableOnes", spec := "fnExactStableOnes", unfollowed := true, recurses := true, apart := false }
def FnExactStableOnesSaid : Prop := fnExactStableOnesRow.holds Try.pinned (OpenSpec.ofChange fnExactStableOnesSpec)

/-- ITS FALSE NEIGHBOUR: 'it returns false'. Refute it at one input. -/
def fnExactStableOnesWrong : ChangeSpec := { name := "fnExactStableOnes", fn := fun _ => fun
  | [d] => { results := [.lit (.bool false)], args := [d] }
  | _ => none }
def FnExactStableOnesWrongFalsely : Prop := fnExactStableOnesRow.holds Try.pinned (OpenSpec.ofChange fnExactStableOnesWrong)

/-- 'laws.FnExactPlaySpp': WHATEVER THE INPUT: true; the input reads as it did. -/
def fnExactPlaySppSpec : ChangeSpec := { name := "fnExactPlaySpp", fn := fun _ => fun
  | [d1, d2] => { results := [.lit (.bool true)], args := [d1, d2] }
  | _ => none }
def fnExactPlaySppRow : OpenClaim := { program := "ytpfoleebeamgpaa", sum := "ccae05e9c5b02d646dbee722ef8ca9024c9358c1481b882c12d50b90ae84e210", func := "loop.example/g00344/laws.FnExactPlaySpp", spec := "fnExactPlaySpp", unfollowed := true, recurses := true, apart := false }
def FnExactPlaySppSaid : Prop := fnExactPlaySppRow.holds Try.pinned (OpenSpec.ofChange fnExactPlaySppSpec)

/-- ITS FALSE NEIGHBOUR: 'it returns false'. Refute it at one input. -/
def fnExactPlaySppWrong : ChangeSpec := { name := "fnExactPlaySpp", fn := fun _ => fun
  | [d1, d2] => { results := [.lit (.bool false)], args := [d1, d2] }
  | _ => none }
def FnExactPlaySppWrongFalsely : Prop := fnExactPlaySppRow.holds Try.pinned (OpenSpec.ofChange fnExactPlaySppWrong)

/-- 'laws.FnExactSettleSpp': WHATEVER THE INPUT: true; the input reads as it did. -/
def fnExactSettleSppSpec : ChangeSpec := { name := "fnExactSettleSpp", fn := fun _ => fun
  | [d] => { results := [.lit (.bool true)], args := [d] }
  | _ => none }
def fnExactSettleSppRow : OpenClaim := { program := "ytpfoleebeamgpaa", sum := "ccae05e9c5b02d646dbee722ef8ca9024c9358c1481b882c12d50b90ae84e210", func := "loop.example/g00344/laws.FnExactSettleSpp", spec := "fnExactSettleSpp", unfollowed := true, recurses := true, apart := false }
def FnExactSettleSppSaid : Prop := fnExactSettleSppRow.holds Try.pinned (OpenSpec.ofChange fnExactSettleSppSpec)

/-- ITS FALSE NEIGHBOUR: 'it returns false'. Refute it at one input. -/
def fnExactSettleSppWrong : ChangeSpec := { name := "fnExactSettleSpp", fn := fun _ => fun
  | [d] => { results := [.lit (.bool false)], args := [d] }
  | _ => none }
def FnExactSettleSppWrongFalsely : Prop := fnExactSettleSppRow.holds Try.pinned (OpenSpec.ofChange fnExactSettleSppWrong)

/-- 'laws.FnSettle': WHATEVER THE INPUT: true; the input reads as it did. -/
def fnSettleSpec : ChangeSpec := { name := "fnSettle", fn := fun _ => fun
  | [d1, d2] => { results := [.lit (.bool true)], args := [d1, d2] }
  | _ => none }
def fnSettleRow : OpenClaim := { program := "ytpfoleebeamgpaa", sum := "ccae05e9c5b02d646dbee722ef8ca9024c9358c1481b882c12d50b90ae84e210", func := "loop.example/g00344/laws.FnSettle", spec := "fnSettle", unfollowed := true, recurses := true, apart := false }
def FnSettleSaid : Prop := fnSettleRow.holds Try.pinned (OpenSpec.ofChange fnSettleSpec)

/-- ITS FALSE NEIGHBOUR: 'it returns false'. Refute it at one input. -/
def fnSettleWrong : ChangeSpec := { name := "fnSettle", fn := fun _ => fun
  | [d1, d2] => { results := [.lit (.bool false)], args := [d1, d2] }
  | _ => none }
def FnSettleWrongFalsely : Prop := fnSettleRow.holds Try.pinned (OpenSpec.ofChange fnSettleWrong)

/-- 'laws.FnStable': WHATEVER THE INPUT: true; the input reads as it did. -/
def fnStableSpec : ChangeSpec := { name := "fnStable", fn := fun _ => fun
  | [d1, d2] => { results := [.lit (.bool true)], args := [d1, d2] }
  | _ => none }
def fnStableRow : OpenClaim := { program := "ytpfoleebeamgpaa", sum := "ccae05e9c5b02d646dbee722ef8ca9024c9358c1481b882c12d50b90ae84e210", func := "loop.example/g00344/laws.FnStable", spec := "fnStable", unfollowed := true, recurses := true, apart := false }
def FnStableSaid : Prop := fnStableRow.holds Try.pinned (OpenSpec.ofChange fnStableSpec)

/-- ITS FALSE NEIGHBOUR: 'it returns false'. Refute it at one input. -/
def fnStableWrong : ChangeSpec := { name := "fnStable", fn := fun _ => fun
  | [d1, d2] => { results := [.lit (.bool false)], args := [d1, d2] }
  | _ => none }
def FnStableWrongFalsely : Prop := fnStableRow.holds Try.pinned (OpenSpec.ofChange fnStableWrong)

/- THE SECOND FORM. 'bulk': how many values and letters a reading holds, each counted each time it is reached (what is shared counts as often as it is met; a slice's spare places count too). A statement '..UptoSaid' is the law's where the arguments, and the package variables that the reading takes, are together of bulk at most 1048576: NARROWER than '..Said'. Prove '..Said' where nothing that the law and all that it calls make is longer than what came in: it says more and counts as full. Else prove '..UptoSaid'. A law counts once. -/
mutual
def uptoBulk {H : Type} : DataW H → Nat
  | .lit (.string bytes) => bytes.length + 1
  | .lit _ => 1
  | .nil => 1
  | .ptr d => uptoBulk d + 1
  | .slice elems spare => uptoBulkAll elems + uptoBulkAll spare + 1
  | .agg parts => uptoBulkAll parts + 1
  | .iface _ d => uptoBulk d + 1
  | .map entries => uptoBulkEntries entries + 1
  | .held _ => 1
def uptoBulkAll {H : Type} : List (DataW H) → Nat
  | [] => 0
  | d :: r => uptoBulk d + uptoBulkAll r
def uptoBulkEntries {H : Type} : List (Lit × DataW H) → Nat
  | [] => 0
  | x :: r => uptoBulkEntry x + uptoBulkEntries r
def uptoBulkEntry {H : Type} : Lit × DataW H → Nat
  | (.string bytes, d) => bytes.length + uptoBulk d + 1
  | (_, d) => uptoBulk d + 1
 end
def uptoSmall : (H : Type) → List (DataW H) → Bool := fun _ ds => decide (uptoBulkAll ds ≤ 1048576)
def OpenSpec.upto (s : _root_.Go.ChangeSpec) : _root_.Go.OpenSpec := { _root_.Go.OpenSpec.ofChange s with cond := some uptoSmall }

/-- 'laws.FnExactGoodSpp', WHERE WHAT IT READS IS OF BULK AT MOST 1048576: true; the input reads as it did. -/
def fnExactGoodSppUptoRow : OpenClaim := { program := "ytpfoleebeamgpaa", sum := "ccae05e9c5b02d646dbee722ef8ca9024c9358c1481b882c12d50b90ae84e210", func := "loop.example/g00344/laws.FnExactGoodSpp", spec := "fnExactGoodSpp", unfollowed := true, recurses := true, apart := false, narrowed := true }
def FnExactGoodSppUptoSaid : Prop := fnExactGoodSppUptoRow.holds Try.pinned (OpenSpec.upto fnExactGoodSppSpec)

/-- 'laws.FnExactBestFor', WHERE WHAT IT READS IS OF BULK AT MOST 1048576: true; the input reads as it did. -/
def fnExactBestForUptoRow : OpenClaim := { program := "ytpfoleebeamgpaa", sum := "ccae05e9c5b02d646dbee722ef8ca9024c9358c1481b882c12d50b90ae84e210", func := "loop.example/g00344/laws.FnExactBestFor", spec := "fnExactBestFor", unfollowed := true, recurses := true, apart := false, narrowed := true }
def FnExactBestForUptoSaid : Prop := fnExactBestForUptoRow.holds Try.pinned (OpenSpec.upto fnExactBestForSpec)

/-- 'laws.FnExactIsStable', WHERE WHAT IT READS IS OF BULK AT MOST 1048576: true; the input reads as it did. -/
def fnExactIsStableUptoRow : OpenClaim := { program := "ytpfoleebeamgpaa", sum := "ccae05e9c5b02d646dbee722ef8ca9024c9358c1481b882c12d50b90ae84e210", func := "loop.example/g00344/laws.FnExactIsStable", spec := "fnExactIsStable", unfollowed := true, recurses := true, apart := false, narrowed := true }
def FnExactIsStableUptoSaid : Prop := fnExactIsStableUptoRow.holds Try.pinned (OpenSpec.upto fnExactIsStableSpec)

/-- 'laws.FnExactHasWheel', WHERE WHAT IT READS IS OF BULK AT MOST 1048576: true; the input reads as it did. -/
def fnExactHasWheelUptoRow : OpenClaim := { program := "ytpfoleebeamgpaa", sum := "ccae05e9c5b02d646dbee722ef8ca9024c9358c1481b882c12d50b90ae84e210", func := "loop.example/g00344/laws.FnExactHasWheel", spec := "fnExactHasWheel", unfollowed := true, recurses := true, apart := false, narrowed := true }
def FnExactHasWheelUptoSaid : Prop := fnExactHasWheelUptoRow.holds Try.pinned (OpenSpec.upto fnExactHasWheelSpec)

/-- 'laws.FnExactActivateAll', WHERE WHAT IT READS IS OF BULK AT MOST 1048576: true; the input reads as it did. -/
def fnExactActivateAllUptoRow : OpenClaim := { program := "ytpfoleebeamgpaa", sum := "ccae05e9c5b02d646dbee722ef8ca9024c9358c1481b882c12d50b90ae84e210", func := "loop.example/g00344/laws.FnExactActivateAll", spec := "fnExactActivateAll", unfollowed := true, recurses := true, apart := false, narrowed := true }
def FnExactActivateAllUptoSaid : Prop := fnExactActivateAllUptoRow.holds Try.pinned (OpenSpec.upto fnExactActivateAllSpec)

/-- 'laws.FnExactStableOnes', WHERE WHAT IT READS IS OF BULK AT MOST 1048576: true; the input reads as it did. -/
def fnExactStableOnesUptoRow : OpenClaim := { program := "ytpfoleebeamgpaa", sum := "ccae05e9c5b02d646dbee722ef8ca9024c9358c1481b882c12d50b90ae84e210", func := "loop.example/g00344/laws.FnExactStableOnes", spec := "fnExactStableOnes", unfollowed := true, recurses := true, apart := false, narrowed := true }
def FnExactStableOnesUptoSaid : Prop := fnExactStableOnesUptoRow.holds Try.pinned (OpenSpec.upto fnExactStableOnesSpec)

/-- 'laws.FnExactPlaySpp', WHERE WHAT IT READS IS OF BULK AT MOST 1048576: true; the input reads as it did. -/
def fnExactPlaySppUptoRow : OpenClaim := { program := "ytpfoleebeamgpaa", sum := "ccae05e9c5b02d646dbee722ef8ca9024c9358c1481b882c12d50b90ae84e210", func := "loop.example/g00344/laws.FnExactPlaySpp", spec := "fnExactPlaySpp", unfollowed := true, recurses := true, apart := false, narrowed := true }
def FnExactPlaySppUptoSaid : Prop := fnExactPlaySppUptoRow.holds Try.pinned (OpenSpec.upto fnExactPlaySppSpec)

/-- 'laws.FnExactSettleSpp', WHERE WHAT IT READS IS OF BULK AT MOST 1048576: true; the input reads as it did. -/
def fnExactSettleSppUptoRow : OpenClaim := { program := "ytpfoleebeamgpaa", sum := "ccae05e9c5b02d646dbee722ef8ca9024c9358c1481b882c12d50b90ae84e210", func := "loop.example/g00344/laws.FnExactSettleSpp", spec := "fnExactSettleSpp", unfollowed := true, recurses := true, apart := false, narrowed := true }
def FnExactSettleSppUptoSaid : Prop := fnExactSettleSppUptoRow.holds Try.pinned (OpenSpec.upto fnExactSettleSppSpec)

/-- 'laws.FnSettle', WHERE WHAT IT READS IS OF BULK AT MOST 1048576: true; the input reads as it did. -/
def fnSettleUptoRow : OpenClaim := { program := "ytpfoleebeamgpaa", sum := "ccae05e9c5b02d646dbee722ef8ca9024c9358c1481b882c12d50b90ae84e210", func := "loop.example/g00344/laws.FnSettle", spec := "fnSettle", unfollowed := true, recurses := true, apart := false, narrowed := true }
def FnSettleUptoSaid : Prop := fnSettleUptoRow.holds Try.pinned (OpenSpec.upto fnSettleSpec)

/-- 'laws.FnStable', WHERE WHAT IT READS IS OF BULK AT MOST 1048576: true; the input reads as it did. -/
def fnStableUptoRow : OpenClaim := { program := "ytpfoleebeamgpaa", sum := "ccae05e9c5b02d646dbee722ef8ca9024c9358c1481b882c12d50b90ae84e210", func := "loop.example/g00344/laws.FnStable", spec := "fnStable", unfollowed := true, recurses := true, apart := false, narrowed := true }
def FnStableUptoSaid : Prop := fnStableUptoRow.holds Try.pinned (OpenSpec.upto fnStableSpec)

end Rows
end Go.Proofs.Ytpfoleebeamgpaa
