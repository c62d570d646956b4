/-
  No cell of these rows narrows 'for every input' (looked for: loops, veiled, ifaces, maps, wideKeys, modest, calm, conditions, laid).
  DERIVED. THE GIVEN ROWS OF THIS SEAT. 9 by the template 'for every input the law returns true; each argument reads behind the call as it read before'; 0 by the template 'total and deterministic' (their statements: YtbohlpligkfkiaaTotals.lean).
  GIVEN WITH THE SEED: the statements are not yours to turn. If you find one false, say at which input.
  Laid BY PROGRAM, IN A SANDBOX (cutbox-rows.mjs): the forced cells as the released guide's own fill.sh prints them over the translation 9a52d9e9e0f5d94d… (all of the seat's roots in one cut). By AI agents, Wed Nov 11 2026. No macro, syntax, notation, axiom, sorry.
-/
import Derived.Test.YtbohlpligkfkiaaChecked
import GoSem.Claim
import GoSem.ClaimJoined
import GoSem.ClaimMapViews
import Derived.JoinedTies
import Derived.KernelRfl
namespace Go.Proofs.Ytbohlpligkfkiaa
/- THE CELL 'sum', in the pinned program and in every row, IS THE sha256 OF THE DUMP (.gsa) THAT YtbohlpligkfkiaaProg.lean LOADS. Nothing in Lean hashes anything: it is a label: what it is worth is what the hold of that sum in a sandbox is worth. -/
noncomputable def Try.pinned : Pinned := { name := "ytbohlpligkfkiaa", sum := "9a52d9e9e0f5d94dc6e86b77734a64eaee53e675e5f29bfcbb5fc0ef578a858d", checked := Try.checked }
namespace Rows
def none {H : Type} : Left H := { results := [], args := [] }

/-- 'laws.FnExactGoodAlgebra': WHATEVER THE INPUT: true; the input reads as it did. -/
def fnExactGoodAlgebraSpec : ChangeSpec := { name := "fnExactGoodAlgebra", fn := fun _ => fun
  | [d] => { results := [.lit (.bool true)], args := [d] }
  | _ => none }
def fnExactGoodAlgebraRow : OpenClaim := { program := "ytbohlpligkfkiaa", sum := "9a52d9e9e0f5d94dc6e86b77734a64eaee53e675e5f29bfcbb5fc0ef578a858d", func := "loop.example/g00344/laws.FnExactGoodAlgebra", spec := "fnExactGoodAlgebra", unfollowed := true, recurses := true, apart := false }
def FnExactGoodAlgebraSaid : Prop := fnExactGoodAlgebraRow.holds Try.pinned (OpenSpec.ofChange fnExactGoodAlgebraSpec)

/-- ITS FALSE NEIGHBOUR: 'it returns false'. Refute it at one input. -/
def fnExactGoodAlgebraWrong : ChangeSpec := { name := "fnExactGoodAlgebra", fn := fun _ => fun
  | [d] => { results := [.lit (.bool false)], args := [d] }
  | _ => none }
def FnExactGoodAlgebraWrongFalsely : Prop := fnExactGoodAlgebraRow.holds Try.pinned (OpenSpec.ofChange fnExactGoodAlgebraWrong)

/-- 'laws.FnExactIsMonotone': WHATEVER THE INPUT: true; the input reads as it did. -/
def fnExactIsMonotoneSpec : ChangeSpec := { name := "fnExactIsMonotone", fn := fun _ => fun
  | [d] => { results := [.lit (.bool true)], args := [d] }
  | _ => none }
def fnExactIsMonotoneRow : OpenClaim := { program := "ytbohlpligkfkiaa", sum := "9a52d9e9e0f5d94dc6e86b77734a64eaee53e675e5f29bfcbb5fc0ef578a858d", func := "loop.example/g00344/laws.FnExactIsMonotone", spec := "fnExactIsMonotone", unfollowed := true, recurses := true, apart := false }
def FnExactIsMonotoneSaid : Prop := fnExactIsMonotoneRow.holds Try.pinned (OpenSpec.ofChange fnExactIsMonotoneSpec)

/-- ITS FALSE NEIGHBOUR: 'it returns false'. Refute it at one input. -/
def fnExactIsMonotoneWrong : ChangeSpec := { name := "fnExactIsMonotone", fn := fun _ => fun
  | [d] => { results := [.lit (.bool false)], args := [d] }
  | _ => none }
def FnExactIsMonotoneWrongFalsely : Prop := fnExactIsMonotoneRow.holds Try.pinned (OpenSpec.ofChange fnExactIsMonotoneWrong)

/-- 'laws.FnExactIsIsotone': WHATEVER THE INPUT: true; the input reads as it did. -/
def fnExactIsIsotoneSpec : ChangeSpec := { name := "fnExactIsIsotone", fn := fun _ => fun
  | [d] => { results := [.lit (.bool true)], args := [d] }
  | _ => none }
def fnExactIsIsotoneRow : OpenClaim := { program := "ytbohlpligkfkiaa", sum := "9a52d9e9e0f5d94dc6e86b77734a64eaee53e675e5f29bfcbb5fc0ef578a858d", func := "loop.example/g00344/laws.FnExactIsIsotone", spec := "fnExactIsIsotone", unfollowed := true, recurses := true, apart := false }
def FnExactIsIsotoneSaid : Prop := fnExactIsIsotoneRow.holds Try.pinned (OpenSpec.ofChange fnExactIsIsotoneSpec)

/-- ITS FALSE NEIGHBOUR: 'it returns false'. Refute it at one input. -/
def fnExactIsIsotoneWrong : ChangeSpec := { name := "fnExactIsIsotone", fn := fun _ => fun
  | [d] => { results := [.lit (.bool false)], args := [d] }
  | _ => none }
def FnExactIsIsotoneWrongFalsely : Prop := fnExactIsIsotoneRow.holds Try.pinned (OpenSpec.ofChange fnExactIsIsotoneWrong)

/-- 'laws.FnExactLexOf': WHATEVER THE INPUT: true; the input reads as it did. -/
def fnExactLexOfSpec : ChangeSpec := { name := "fnExactLexOf", fn := fun _ => fun
  | [d1, d2] => { results := [.lit (.bool true)], args := [d1, d2] }
  | _ => none }
def fnExactLexOfRow : OpenClaim := { program := "ytbohlpligkfkiaa", sum := "9a52d9e9e0f5d94dc6e86b77734a64eaee53e675e5f29bfcbb5fc0ef578a858d", func := "loop.example/g00344/laws.FnExactLexOf", spec := "fnExactLexOf", unfollowed := true, recurses := true, apart := false }
def FnExactLexOfSaid : Prop := fnExactLexOfRow.holds Try.pinned (OpenSpec.ofChange fnExactLexOfSpec)

/-- ITS FALSE NEIGHBOUR: 'it returns false'. Refute it at one input. -/
def fnExactLexOfWrong : ChangeSpec := { name := "fnExactLexOf", fn := fun _ => fun
  | [d1, d2] => { results := [.lit (.bool false)], args := [d1, d2] }
  | _ => none }
def FnExactLexOfWrongFalsely : Prop := fnExactLexOfRow.holds Try.pinned (OpenSpec.ofChange fnExactLexOfWrong)

/-- 'laws.FnExactWeightOf': WHATEVER THE INPUT: true; the input reads as it did. -/
def fnExactWeightOfSpec : ChangeSpec := { name := "fnExactWeightOf", fn := fun _ => fun
  | [d1, d2, d3] => { results := [.lit (.bool true)], args := [d1, d2, d3] }
  | _ => none }
def fnExactWeightOfRow : OpenClaim := { program := "ytbohlpligkfkiaa", sum := "9a52d9e9e0f5d94dc6e86b77734a64eaee53e675e5f29bfcbb5fc0ef578a858d", func := "loop.example/g00344/laws.FnExactWeightOf", spec := "fnExactWeightOf", unfollowed := true, recurses := true, apart := false }
def FnExactWeightOfSaid : Prop := fnExactWeightOfRow.holds Try.pinned (OpenSpec.ofChange fnExactWeightOfSpec)

/-- ITS FALSE NEIGHBOUR: 'it returns false'. Refute it at one input. -/
def fnExactWeightOfWrong : ChangeSpec := { name := "fnExactWeightOf", fn := fun _ => fun
  | [d1, d2, d3] => { results := [.lit (.bool false)], args := [d1, d2, d3] }
  | _ => none }
def FnExactWeightOfWrongFalsely : Prop := fnExactWeightOfRow.holds Try.pinned (OpenSpec.ofChange fnExactWeightOfWrong)

/-- 'laws.FnExactPathsTo': WHATEVER THE INPUT: true; the input reads as it did. -/
def fnExactPathsToSpec : ChangeSpec := { name := "fnExactPathsTo", fn := fun _ => fun
  | [d1, d2, d3] => { results := [.lit (.bool true)], args := [d1, d2, d3] }
  | _ => none }
def fnExactPathsToRow : OpenClaim := { program := "ytbohlpligkfkiaa", sum := "9a52d9e9e0f5d94dc6e86b77734a64eaee53e675e5f29bfcbb5fc0ef578a858d", func := "loop.example/g00344/laws.FnExactPathsTo", spec := "fnExactPathsTo", unfollowed := true, recurses := true, apart := false }
def FnExactPathsToSaid : Prop := fnExactPathsToRow.holds Try.pinned (OpenSpec.ofChange fnExactPathsToSpec)

/-- ITS FALSE NEIGHBOUR: 'it returns false'. Refute it at one input. -/
def fnExactPathsToWrong : ChangeSpec := { name := "fnExactPathsTo", fn := fun _ => fun
  | [d1, d2, d3] => { results := [.lit (.bool false)], args := [d1, d2, d3] }
  | _ => none }
def FnExactPathsToWrongFalsely : Prop := fnExactPathsToRow.holds Try.pinned (OpenSpec.ofChange fnExactPathsToWrong)

/-- 'laws.FnExactBestTo': WHATEVER THE INPUT: true; the input reads as it did. -/
def fnExactBestToSpec : ChangeSpec := { name := "fnExactBestTo", fn := fun _ => fun
  | [d1, d2, d3] => { results := [.lit (.bool true)], args := [d1, d2, d3] }
  | _ => none }
def fnExactBestToRow : OpenClaim := { program := "ytbohlpligkfkiaa", sum := "9a52d9e9e0f5d94dc6e86b77734a64eaee53e675e5f29bfcbb5fc0ef578a858d", func := "loop.example/g00344/laws.FnExactBestTo", spec := "fnExactBestTo", unfollowed := true, recurses := true, apart := false }
def FnExactBestToSaid : Prop := fnExactBestToRow.holds Try.pinned (OpenSpec.ofChange fnExactBestToSpec)

/-- ITS FALSE NEIGHBOUR: 'it returns false'. Refute it at one input. -/
def fnExactBestToWrong : ChangeSpec := { name := "fnExactBestTo", fn := fun _ => fun
  | [d1, d2, d3] => { results := [.lit (.bool false)], args := [d1, d2, d3] }
  | _ => none }
def FnExactBestToWrongFalsely : Prop := fnExactBestToRow.holds Try.pinned (OpenSpec.ofChange fnExactBestToWrong)

/-- 'laws.FnLex': WHATEVER THE INPUT: true; the input reads as it did. -/
def fnLexSpec : ChangeSpec := { name := "fnLex", fn := fun _ => fun
  | [d] => { results := [.lit (.bool true)], args := [d] }
  | _ => none }
def fnLexRow : OpenClaim := { program := "ytbohlpligkfkiaa", sum := "9a52d9e9e0f5d94dc6e86b77734a64eaee53e675e5f29bfcbb5fc0ef578a858d", func := "loop.example/g00344/laws.FnLex", spec := "fnLex", unfollowed := true, recurses := true, apart := false }
def FnLexSaid : Prop := fnLexRow.holds Try.pinned (OpenSpec.ofChange fnLexSpec)

/-- ITS FALSE NEIGHBOUR: 'it returns false'. Refute it at one input. -/
def fnLexWrong : ChangeSpec := { name := "fnLex", fn := fun _ => fun
  | [d] => { results := [.lit (.bool false)], args := [d] }
  | _ => none }
def FnLexWrongFalsely : Prop := fnLexRow.holds Try.pinned (OpenSpec.ofChange fnLexWrong)

/-- 'laws.FnAlgebra': WHATEVER THE INPUT: true; the input reads as it did. -/
def fnAlgebraSpec : ChangeSpec := { name := "fnAlgebra", fn := fun _ => fun
  | [d1, d2] => { results := [.lit (.bool true)], args := [d1, d2] }
  | _ => none }
def fnAlgebraRow : OpenClaim := { program := "ytbohlpligkfkiaa", sum := "9a52d9e9e0f5d94dc6e86b77734a64eaee53e675e5f29bfcbb5fc0ef578a858d", func := "loop.example/g00344/laws.FnAlgebra", spec := "fnAlgebra", unfollowed := true, recurses := true, apart := false }
def FnAlgebraSaid : Prop := fnAlgebraRow.holds Try.pinned (OpenSpec.ofChange fnAlgebraSpec)

/-- ITS FALSE NEIGHBOUR: 'it returns false'. Refute it at one input. -/
def fnAlgebraWrong : ChangeSpec := { name := "fnAlgebra", fn := fun _ => fun
  | [d1, d2] => { results := [.lit (.bool false)], args := [d1, d2] }
  | _ => none }
def FnAlgebraWrongFalsely : Prop := fnAlgebraRow.holds Try.pinned (OpenSpec.ofChange fnAlgebraWrong)

/- THE SECOND FORM. 'bulk': how many values and letters a reading holds, each counted each time it is reached (what is shared counts as often as it is met; a slice's spare places count too). A statement '..UptoSaid' is the law's where the arguments, and the package variables that the reading takes, are together of bulk at most 1048576: NARROWER than '..Said'. Prove '..Said' where nothing that the law and all that it calls make is longer than what came in: it says more and counts as full. Else prove '..UptoSaid'. A law counts once. -/
mutual
def uptoBulk {H : Type} : DataW H → Nat
  | .lit (.string bytes) => bytes.length + 1
  | .lit _ => 1
  | .nil => 1
  | .ptr d => uptoBulk d + 1
  | .slice elems spare => uptoBulkAll elems + uptoBulkAll spare + 1
  | .agg parts => uptoBulkAll parts + 1
  | .iface _ d => uptoBulk d + 1
  | .map entries => uptoBulkEntries entries + 1
  | .held _ => 1
def uptoBulkAll {H : Type} : List (DataW H) → Nat
  | [] => 0
  | d :: r => uptoBulk d + uptoBulkAll r
def uptoBulkEntries {H : Type} : List (Lit × DataW H) → Nat
  | [] => 0
  | x :: r => uptoBulkEntry x + uptoBulkEntries r
def uptoBulkEntry {H : Type} : Lit × DataW H → Nat
  | (.string bytes, d) => bytes.length + uptoBulk d + 1
  | (_, d) => uptoBulk d + 1
 end
def uptoSmall : (H : Type) → List (DataW H) → Bool := fun _ ds => decide (uptoBulkAll ds ≤ 1048576)
def OpenSpec.upto (s : _root_.Go.ChangeSpec) : _root_.Go.OpenSpec := { _root_.Go.OpenSpec.ofChange s with cond := some uptoSmall }

/-- 'laws.FnExactGoodAlgebra', WHERE WHAT IT READS IS OF BULK AT MOST 1048576: true; the input reads as it did. -/
def fnExactGoodAlgebraUptoRow : OpenClaim := { program := "ytbohlpligkfkiaa", sum := "9a52d9e9e0f5d94dc6e86b77734a64eaee53e675e5f29bfcbb5fc0ef578a858d", func := "loop.example/g00344/laws.FnExactGoodAlgebra", spec := "fnExactGoodAlgebra", unfollowed := true, recurses := true, apart := false, narrowed := true }
def FnExactGoodAlgebraUptoSaid : Prop := fnExactGoodAlgebraUptoRow.holds Try.pinned (OpenSpec.upto fnExactGoodAlgebraSpec)

/-- 'laws.FnExactIsMonotone', WHERE WHAT IT READS IS OF BULK AT MOST 1048576: true; the input reads as it did. -/
def fnExactIsMonotoneUptoRow : OpenClaim := { program := "ytbohlpligkfkiaa", sum := "9a52d9e9e0f5d94dc6e86b77734a64eaee53e675e5f29bfcbb5fc0ef578a858d", func := "loop.example/g00344/laws.FnExactIsMonotone", spec := "fnExactIsMonotone", unfollowed := true, recurses := true, apart := false, narrowed := true }
def FnExactIsMonotoneUptoSaid : Prop := fnExactIsMonotoneUptoRow.holds Try.pinned (OpenSpec.upto fnExactIsMonotoneSpec)

/-- 'laws.FnExactIsIsotone', WHERE WHAT IT READS IS OF BULK AT MOST 1048576: true; the input reads as it did. -/
def fnExactIsIsotoneUptoRow : OpenClaim := { program := "ytbohlpligkfkiaa", sum := "9a52d9e9e0f5d94dc6e86b77734a64eaee53e675e5f29bfcbb5fc0ef578a858d", func := "loop.example/g00344/laws.FnExactIsIsotone", spec := "fnExactIsIsotone", unfollowed := true, recurses := true, apart := false, narrowed := true }
def FnExactIsIsotoneUptoSaid : Prop := fnExactIsIsotoneUptoRow.holds Try.pinned (OpenSpec.upto fnExactIsIsotoneSpec)

/-- 'laws.FnExactLexOf', WHERE WHAT IT READS IS OF BULK AT MOST 1048576: true; the input reads as it did. -/
def fnExactLexOfUptoRow : OpenClaim := { program := "ytbohlpligkfkiaa", sum := "9a52d9e9e0f5d94dc6e86b77734a64eaee53e675e5f29bfcbb5fc0ef578a858d", func := "loop.example/g00344/laws.FnExactLexOf", spec := "fnExactLexOf", unfollowed := true, recurses := true, apart := false, narrowed := true }
def FnExactLexOfUptoSaid : Prop := fnExactLexOfUptoRow.holds Try.pinned (OpenSpec.upto fnExactLexOfSpec)

/-- 'laws.FnExactWeightOf', WHERE WHAT IT READS IS OF BULK AT MOST 1048576: true; the input reads as it did. -/
def fnExactWeightOfUptoRow : OpenClaim := { program := "ytbohlpligkfkiaa", sum := "9a52d9e9e0f5d94dc6e86b77734a64eaee53e675e5f29bfcbb5fc0ef578a858d", func := "loop.example/g00344/laws.FnExactWeightOf", spec := "fnExactWeightOf", unfollowed := true, recurses := true, apart := false, narrowed := true }
def FnExactWeightOfUptoSaid : Prop := fnExactWeightOfUptoRow.holds Try.pinned (OpenSpec.upto fnExactWeightOfSpec)

/-- 'laws.FnExactPathsTo', WHERE WHAT IT READS IS OF BULK AT MOST 1048576: true; the input reads as it did. -/
def fnExactPathsToUptoRow : OpenClaim := { program := "ytbohlpligkfkiaa", sum := "9a52d9e9e0f5d94dc6e86b77734a64eaee53e675e5f29bfcbb5fc0ef578a858d", func := "loop.example/g00344/laws.FnExactPathsTo", spec := "fnExactPathsTo", unfollowed := true, recurses := true, apart := false, narrowed := true }
def FnExactPathsToUptoSaid : Prop := fnExactPathsToUptoRow.holds Try.pinned (OpenSpec.upto fnExactPathsToSpec)

/-- 'laws.FnExactBestTo', WHERE WHAT IT READS IS OF BULK AT MOST 1048576: true; the input reads as it did. -/
def fnExactBestToUptoRow : OpenClaim := { program := "ytbohlpligkfkiaa", sum := "9a52d9e9e0f5d94dc6e86b77734a64eaee53e675e5f29bfcbb5fc0ef578a858d", func := "loop.example/g00344/laws.FnExactBestTo", spec := "fnExactBestTo", unfollowed := true, recurses := true, apart := false, narrowed := true }
def FnExactBestToUptoSaid : Prop := fnExactBestToUptoRow.holds Try.pinned (OpenSpec.upto fnExactBestToSpec)

/-- 'laws.FnLex', WHERE WHAT IT READS IS OF BULK AT MOST 1048576: true; the input reads as it did. -/
def fnLexUptoRow : OpenClaim := { program := "ytbohlpligkfkiaa", sum := "9a52d9e9e0f5d94dc6e86b77734a64eaee53e675e5f29bfcbb5fc0ef578a858d", func := "loop.example/g00344/laws.FnLex", spec := "fnLex", unfollowed := true, recurses := true, apart := false, narrowed := true }
def FnLexUptoSaid : Prop := fnLexUptoRow.holds Try.pinned (OpenSpec.upto fnLexSpec)

/-- 'laws.FnAlgebra', WHERE WHAT IT READS IS OF BULK AT MOST 1048576: true; the input reads as it did. -/
def fnAlgebraUptoRow : OpenClaim := { program := "ytbohlpligkfkiaa", sum := "9a52d9e9e0f5d94dc6e86b77734a64eaee53e675e5f29bfcbb5fc0ef578a858d", func := "loop.example/g00344/laws.FnAlgebra", spec := "fnAlgebra", unfollowed := true, recurses := true, apart := false, narrowed := true }
def FnAlgebraUptoSaid : Prop := fnAlgebraUptoRow.holds Try.pinned (OpenSpec.upto fnAlgebraSpec)

end Rows
end Go.Proofs.Ytbohlpligkfkiaa
