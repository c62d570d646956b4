/-
  No cell of these rows narrows 'for every input' (looked for: loops, veiled, ifaces, maps, wideKeys, modest, calm, conditions, laid).
  DERIVED. THE GIVEN ROWS OF THIS SEAT. 8 by the template 'for every input the law returns true; each argument reads behind the call as it read before'; 0 by the template 'total and deterministic' (their statements: YtichbkallidkcaaTotals.lean).
  GIVEN WITH THE SEED: the statements are not yours to turn. If you find one false, say at which input.
  Laid BY PROGRAM, IN A SANDBOX (cutbox-rows.mjs): the forced cells as the released guide's own fill.sh prints them over the translation 8e16fd61d381030c… (all of the seat's roots in one cut). By AI agents, Wed Nov 11 2026. No macro, syntax, notation, axiom, sorry.
-/
import Derived.Test.YtichbkallidkcaaChecked
import GoSem.Claim
import GoSem.ClaimJoined
import GoSem.ClaimMapViews
import Derived.JoinedTies
import Derived.KernelRfl
namespace Go.Proofs.Ytichbkallidkcaa
/- THE CELL 'sum', in the pinned program and in every row, IS THE sha256 OF THE DUMP (.gsa) THAT YtichbkallidkcaaProg.lean LOADS. Nothing in Lean hashes anything: it is a label: what it is worth is what the hold of that sum in a sandbox is worth. -/
noncomputable def Try.pinned : Pinned := { name := "ytichbkallidkcaa", sum := "8e16fd61d381030c51eb8fadf50427c959cdd7d8e2a1038ed61744b9b7d53749", checked := Try.checked }
namespace Rows
def none {H : Type} : Left H := { results := [], args := [] }

/-- 'laws.FnExactGoodRels': WHATEVER THE INPUT: true; the input reads as it did. -/
def fnExactGoodRelsSpec : ChangeSpec := { name := "fnExactGoodRels", fn := fun _ => fun
  | [d1, d2] => { results := [.lit (.bool true)], args := [d1, d2] }
  | _ => none }
def fnExactGoodRelsRow : OpenClaim := { program := "ytichbkallidkcaa", sum := "8e16fd61d381030c51eb8fadf50427c959cdd7d8e2a1038ed61744b9b7d53749", func := "loop.example/g00344/laws.FnExactGoodRels", spec := "fnExactGoodRels", unfollowed := true, recurses := true, apart := false }
def FnExactGoodRelsSaid : Prop := fnExactGoodRelsRow.holds Try.pinned (OpenSpec.ofChange fnExactGoodRelsSpec)

/-- ITS FALSE NEIGHBOUR: 'it returns false'. Refute it at one input. -/
def fnExactGoodRelsWrong : ChangeSpec := { name := "fnExactGoodRels", fn := fun _ => fun
  | [d1, d2] => { results := [.lit (.bool false)], args := [d1, d2] }
  | _ => none }
def FnExactGoodRelsWrongFalsely : Prop := fnExactGoodRelsRow.holds Try.pinned (OpenSpec.ofChange fnExactGoodRelsWrong)

/-- 'laws.FnExactKindTo': WHATEVER THE INPUT: true; the input reads as it did. -/
def fnExactKindToSpec : ChangeSpec := { name := "fnExactKindTo", fn := fun _ => fun
  | [d1, d2, d3, d4] => { results := [.lit (.bool true)], args := [d1, d2, d3, d4] }
  | _ => none }
def fnExactKindToRow : OpenClaim := { program := "ytichbkallidkcaa", sum := "8e16fd61d381030c51eb8fadf50427c959cdd7d8e2a1038ed61744b9b7d53749", func := "loop.example/g00344/laws.FnExactKindTo", spec := "fnExactKindTo", unfollowed := true, recurses := true, apart := false }
def FnExactKindToSaid : Prop := fnExactKindToRow.holds Try.pinned (OpenSpec.ofChange fnExactKindToSpec)

/-- ITS FALSE NEIGHBOUR: 'it returns false'. Refute it at one input. -/
def fnExactKindToWrong : ChangeSpec := { name := "fnExactKindTo", fn := fun _ => fun
  | [d1, d2, d3, d4] => { results := [.lit (.bool false)], args := [d1, d2, d3, d4] }
  | _ => none }
def FnExactKindToWrongFalsely : Prop := fnExactKindToRow.holds Try.pinned (OpenSpec.ofChange fnExactKindToWrong)

/-- 'laws.FnExactMayTell': WHATEVER THE INPUT: true; the input reads as it did. -/
def fnExactMayTellSpec : ChangeSpec := { name := "fnExactMayTell", fn := fun _ => fun
  | [d1, d2, d3, d4, d5] => { results := [.lit (.bool true)], args := [d1, d2, d3, d4, d5] }
  | _ => none }
def fnExactMayTellRow : OpenClaim := { program := "ytichbkallidkcaa", sum := "8e16fd61d381030c51eb8fadf50427c959cdd7d8e2a1038ed61744b9b7d53749", func := "loop.example/g00344/laws.FnExactMayTell", spec := "fnExactMayTell", unfollowed := true, recurses := true, apart := false }
def FnExactMayTellSaid : Prop := fnExactMayTellRow.holds Try.pinned (OpenSpec.ofChange fnExactMayTellSpec)

/-- ITS FALSE NEIGHBOUR: 'it returns false'. Refute it at one input. -/
def fnExactMayTellWrong : ChangeSpec := { name := "fnExactMayTell", fn := fun _ => fun
  | [d1, d2, d3, d4, d5] => { results := [.lit (.bool false)], args := [d1, d2, d3, d4, d5] }
  | _ => none }
def FnExactMayTellWrongFalsely : Prop := fnExactMayTellRow.holds Try.pinned (OpenSpec.ofChange fnExactMayTellWrong)

/-- 'laws.FnExactNoRing': WHATEVER THE INPUT: true; the input reads as it did. -/
def fnExactNoRingSpec : ChangeSpec := { name := "fnExactNoRing", fn := fun _ => fun
  | [d1, d2] => { results := [.lit (.bool true)], args := [d1, d2] }
  | _ => none }
def fnExactNoRingRow : OpenClaim := { program := "ytichbkallidkcaa", sum := "8e16fd61d381030c51eb8fadf50427c959cdd7d8e2a1038ed61744b9b7d53749", func := "loop.example/g00344/laws.FnExactNoRing", spec := "fnExactNoRing", unfollowed := true, recurses := true, apart := false }
def FnExactNoRingSaid : Prop := fnExactNoRingRow.holds Try.pinned (OpenSpec.ofChange fnExactNoRingSpec)

/-- ITS FALSE NEIGHBOUR: 'it returns false'. Refute it at one input. -/
def fnExactNoRingWrong : ChangeSpec := { name := "fnExactNoRing", fn := fun _ => fun
  | [d1, d2] => { results := [.lit (.bool false)], args := [d1, d2] }
  | _ => none }
def FnExactNoRingWrongFalsely : Prop := fnExactNoRingRow.holds Try.pinned (OpenSpec.ofChange fnExactNoRingWrong)

/-- 'laws.FnExactIsValleyFree': WHATEVER THE INPUT: true; the input reads as it did. -/
def fnExactIsValleyFreeSpec : ChangeSpec := { name := "fnExactIsValleyFree", fn := fun _ => fun
  | [d1, d2, d3] => { results := [.lit (.bool true)], args := [d1, d2, d3] }
  | _ => none }
def fnExactIsValleyFreeRow : OpenClaim := { program := "ytichbkallidkcaa", sum := "8e16fd61d381030c51eb8fadf50427c959cdd7d8e2a1038ed61744b9b7d53749", func := "loop.example/g00344/laws.FnExactIsValleyFree", spec := "fnExactIsValleyFree", unfollowed := true, recurses := true, apart := false }
def FnExactIsValleyFreeSaid : Prop := fnExactIsValleyFreeRow.holds Try.pinned (OpenSpec.ofChange fnExactIsValleyFreeSpec)

/-- ITS FALSE NEIGHBOUR: 'it returns false'. Refute it at one input. -/
def fnExactIsValleyFreeWrong : ChangeSpec := { name := "fnExactIsValleyFree", fn := fun _ => fun
  | [d1, d2, d3] => { results := [.lit (.bool false)], args := [d1, d2, d3] }
  | _ => none }
def FnExactIsValleyFreeWrongFalsely : Prop := fnExactIsValleyFreeRow.holds Try.pinned (OpenSpec.ofChange fnExactIsValleyFreeWrong)

/-- 'laws.FnValley': WHATEVER THE INPUT: true; the input reads as it did. -/
def fnValleySpec : ChangeSpec := { name := "fnValley", fn := fun _ => fun
  | [d1, d2] => { results := [.lit (.bool true)], args := [d1, d2] }
  | _ => none }
def fnValleyRow : OpenClaim := { program := "ytichbkallidkcaa", sum := "8e16fd61d381030c51eb8fadf50427c959cdd7d8e2a1038ed61744b9b7d53749", func := "loop.example/g00344/laws.FnValley", spec := "fnValley", unfollowed := true, recurses := true, apart := false }
def FnValleySaid : Prop := fnValleyRow.holds Try.pinned (OpenSpec.ofChange fnValleySpec)

/-- ITS FALSE NEIGHBOUR: 'it returns false'. Refute it at one input. -/
def fnValleyWrong : ChangeSpec := { name := "fnValley", fn := fun _ => fun
  | [d1, d2] => { results := [.lit (.bool false)], args := [d1, d2] }
  | _ => none }
def FnValleyWrongFalsely : Prop := fnValleyRow.holds Try.pinned (OpenSpec.ofChange fnValleyWrong)

/-- 'laws.FnExactSppOf': WHATEVER THE INPUT: true; the input reads as it did. -/
def fnExactSppOfSpec : ChangeSpec := { name := "fnExactSppOf", fn := fun _ => fun
  | [d1, d2] => { results := [.lit (.bool true)], args := [d1, d2] }
  | _ => none }
def fnExactSppOfRow : OpenClaim := { program := "ytichbkallidkcaa", sum := "8e16fd61d381030c51eb8fadf50427c959cdd7d8e2a1038ed61744b9b7d53749", func := "loop.example/g00344/laws.FnExactSppOf", spec := "fnExactSppOf", unfollowed := true, recurses := true, apart := false }
def FnExactSppOfSaid : Prop := fnExactSppOfRow.holds Try.pinned (OpenSpec.ofChange fnExactSppOfSpec)

/-- ITS FALSE NEIGHBOUR: 'it returns false'. Refute it at one input. -/
def fnExactSppOfWrong : ChangeSpec := { name := "fnExactSppOf", fn := fun _ => fun
  | [d1, d2] => { results := [.lit (.bool false)], args := [d1, d2] }
  | _ => none }
def FnExactSppOfWrongFalsely : Prop := fnExactSppOfRow.holds Try.pinned (OpenSpec.ofChange fnExactSppOfWrong)

/-- 'laws.FnExactRouteOf': WHATEVER THE INPUT: true; the input reads as it did. -/
def fnExactRouteOfSpec : ChangeSpec := { name := "fnExactRouteOf", fn := fun _ => fun
  | [d1, d2, d3] => { results := [.lit (.bool true)], args := [d1, d2, d3] }
  | _ => none }
def fnExactRouteOfRow : OpenClaim := { program := "ytichbkallidkcaa", sum := "8e16fd61d381030c51eb8fadf50427c959cdd7d8e2a1038ed61744b9b7d53749", func := "loop.example/g00344/laws.FnExactRouteOf", spec := "fnExactRouteOf", unfollowed := true, recurses := true, apart := false }
def FnExactRouteOfSaid : Prop := fnExactRouteOfRow.holds Try.pinned (OpenSpec.ofChange fnExactRouteOfSpec)

/-- ITS FALSE NEIGHBOUR: 'it returns false'. Refute it at one input. -/
def fnExactRouteOfWrong : ChangeSpec := { name := "fnExactRouteOf", fn := fun _ => fun
  | [d1, d2, d3] => { results := [.lit (.bool false)], args := [d1, d2, d3] }
  | _ => none }
def FnExactRouteOfWrongFalsely : Prop := fnExactRouteOfRow.holds Try.pinned (OpenSpec.ofChange fnExactRouteOfWrong)

/- THE SECOND FORM. 'bulk': how many values and letters a reading holds, each counted each time it is reached (what is shared counts as often as it is met; a slice's spare places count too). A statement '..UptoSaid' is the law's where the arguments, and the package variables that the reading takes, are together of bulk at most 1048576: NARROWER than '..Said'. Prove '..Said' where nothing that the law and all that it calls make is longer than what came in: it says more and counts as full. Else prove '..UptoSaid'. A law counts once. -/
mutual
def uptoBulk {H : Type} : DataW H → Nat
  | .lit (.string bytes) => bytes.length + 1
  | .lit _ => 1
  | .nil => 1
  | .ptr d => uptoBulk d + 1
  | .slice elems spare => uptoBulkAll elems + uptoBulkAll spare + 1
  | .agg parts => uptoBulkAll parts + 1
  | .iface _ d => uptoBulk d + 1
  | .map entries => uptoBulkEntries entries + 1
  | .held _ => 1
def uptoBulkAll {H : Type} : List (DataW H) → Nat
  | [] => 0
  | d :: r => uptoBulk d + uptoBulkAll r
def uptoBulkEntries {H : Type} : List (Lit × DataW H) → Nat
  | [] => 0
  | x :: r => uptoBulkEntry x + uptoBulkEntries r
def uptoBulkEntry {H : Type} : Lit × DataW H → Nat
  | (.string bytes, d) => bytes.length + uptoBulk d + 1
  | (_, d) => uptoBulk d + 1
 end
def uptoSmall : (H : Type) → List (DataW H) → Bool := fun _ ds => decide (uptoBulkAll ds ≤ 1048576)
def OpenSpec.upto (s : _root_.Go.ChangeSpec) : _root_.Go.OpenSpec := { _root_.Go.OpenSpec.ofChange s with cond := some uptoSmall }

/-- 'laws.FnExactGoodRels', WHERE WHAT IT READS IS OF BULK AT MOST 1048576: true; the input reads as it did. -/
def fnExactGoodRelsUptoRow : OpenClaim := { program := "ytichbkallidkcaa", sum := "8e16fd61d381030c51eb8fadf50427c959cdd7d8e2a1038ed61744b9b7d53749", func := "loop.example/g00344/laws.FnExactGoodRels", spec := "fnExactGoodRels", unfollowed := true, recurses := true, apart := false, narrowed := true }
def FnExactGoodRelsUptoSaid : Prop := fnExactGoodRelsUptoRow.holds Try.pinned (OpenSpec.upto fnExactGoodRelsSpec)

/-- 'laws.FnExactKindTo', WHERE WHAT IT READS IS OF BULK AT MOST 1048576: true; the input reads as it did. -/
def fnExactKindToUptoRow : OpenClaim := { program := "ytichbkallidkcaa", sum := "8e16fd61d381030c51eb8fadf50427c959cdd7d8e2a1038ed61744b9b7d53749", func := "loop.example/g00344/laws.FnExactKindTo", spec := "fnExactKindTo", unfollowed := true, recurses := true, apart := false, narrowed := true }
def FnExactKindToUptoSaid : Prop := fnExactKindToUptoRow.holds Try.pinned (OpenSpec.upto fnExactKindToSpec)

/-- 'laws.FnExactMayTell', WHERE WHAT IT READS IS OF BULK AT MOST 1048576: true; the input reads as it did. -/
def fnExactMayTellUptoRow : OpenClaim := { program := "ytichbkallidkcaa", sum := "8e16fd61d381030c51eb8fadf50427c959cdd7d8e2a1038ed61744b9b7d53749", func := "loop.example/g00344/laws.FnExactMayTell", spec := "fnExactMayTell", unfollowed := true, recurses := true, apart := false, narrowed := true }
def FnExactMayTellUptoSaid : Prop := fnExactMayTellUptoRow.holds Try.pinned (OpenSpec.upto fnExactMayTellSpec)

/-- 'laws.FnExactNoRing', WHERE WHAT IT READS IS OF BULK AT MOST 1048576: true; the input reads as it did. -/
def fnExactNoRingUptoRow : OpenClaim := { program := "ytichbkallidkcaa", sum := "8e16fd61d381030c51eb8fadf50427c959cdd7d8e2a1038ed61744b9b7d53749", func := "loop.example/g00344/laws.FnExactNoRing", spec := "fnExactNoRing", unfollowed := true, recurses := true, apart := false, narrowed := true }
def FnExactNoRingUptoSaid : Prop := fnExactNoRingUptoRow.holds Try.pinned (OpenSpec.upto fnExactNoRingSpec)

/-- 'laws.FnExactIsValleyFree', WHERE WHAT IT READS IS OF BULK AT MOST 1048576: true; the input reads as it did. -/
def fnExactIsValleyFreeUptoRow : OpenClaim := { program := "ytichbkallidkcaa", sum := "8e16fd61d381030c51eb8fadf50427c959cdd7d8e2a1038ed61744b9b7d53749", func := "loop.example/g00344/laws.FnExactIsValleyFree", spec := "fnExactIsValleyFree", unfollowed := true, recurses := true, apart := false, narrowed := true }
def FnExactIsValleyFreeUptoSaid : Prop := fnExactIsValleyFreeUptoRow.holds Try.pinned (OpenSpec.upto fnExactIsValleyFreeSpec)

/-- 'laws.FnValley', WHERE WHAT IT READS IS OF BULK AT MOST 1048576: true; the input reads as it did. -/
def fnValleyUptoRow : OpenClaim := { program := "ytichbkallidkcaa", sum := "8e16fd61d381030c51eb8fadf50427c959cdd7d8e2a1038ed61744b9b7d53749", func := "loop.example/g00344/laws.FnValley", spec := "fnValley", unfollowed := true, recurses := true, apart := false, narrowed := true }
def FnValleyUptoSaid : Prop := fnValleyUptoRow.holds Try.pinned (OpenSpec.upto fnValleySpec)

/-- 'laws.FnExactSppOf', WHERE WHAT IT READS IS OF BULK AT MOST 1048576: true; the input reads as it did. -/
def fnExactSppOfUptoRow : OpenClaim := { program := "ytichbkallidkcaa", sum := "8e16fd61d381030c51eb8fadf50427c959cdd7d8e2a1038ed61744b9b7d53749", func := "loop.example/g00344/laws.FnExactSppOf", spec := "fnExactSppOf", unfollowed := true, recurses := true, apart := false, narrowed := true }
def FnExactSppOfUptoSaid : Prop := fnExactSppOfUptoRow.holds Try.pinned (OpenSpec.upto fnExactSppOfSpec)

/-- 'laws.FnExactRouteOf', WHERE WHAT IT READS IS OF BULK AT MOST 1048576: true; the input reads as it did. -/
def fnExactRouteOfUptoRow : OpenClaim := { program := "ytichbkallidkcaa", sum := "8e16fd61d381030c51eb8fadf50427c959cdd7d8e2a1038ed61744b9b7d53749", func := "loop.example/g00344/laws.FnExactRouteOf", spec := "fnExactRouteOf", unfollowed := true, recurses := true, apart := false, narrowed := true }
def FnExactRouteOfUptoSaid : Prop := fnExactRouteOfUptoRow.holds Try.pinned (OpenSpec.upto fnExactRouteOfSpec)

end Rows
end Go.Proofs.Ytichbkallidkcaa
