/-
  No cell of these rows narrows 'for every input' (looked for: loops, veiled, ifaces, maps, wideKeys, modest, calm, conditions, laid).
  DERIVED. THE GIVEN ROWS OF THIS SEAT. 5 by the template 'for every input the law returns true; each argument reads behind the call as it read before'; 0 by the template 'total and deterministic' (their statements: YthidbgihjhkjaaaTotals.lean).
  GIVEN WITH THE SEED: the statements are not yours to turn. If you find one false, say at which input.
  Laid BY PROGRAM, IN A SANDBOX (cutbox-rows.mjs): the forced cells as the released guide's own fill.sh prints them over the translation 85ed6ba4e74ba820… (all of the seat's roots in one cut). By AI agents, Wed Nov 11 2026. No macro, syntax, notation, axiom, sorry.
-/
import Derived.Test.YthidbgihjhkjaaaChecked
import GoSem.Claim
import GoSem.ClaimJoined
import GoSem.ClaimMapViews
import Derived.JoinedTies
import Derived.KernelRfl
namespace Go.Proofs.Ythidbgihjhkjaaa
/- THE CELL 'sum', in the pinned program and in every row, IS THE sha256 OF THE DUMP (.gsa) THAT YthidbgihjhkjaaaProg.lean LOADS. Nothing in Lean hashes anything: it is a label: what it is worth is what the hold of that sum in a sandbox is worth. -/
noncomputable def Try.pinned : Pinned := { name := "ythidbgihjhkjaaa", sum := "85ed6ba4e74ba820ced1ea72702a0ca350e1763a56d2bc2081a9190bde993cb1", checked := Try.checked }
namespace Rows
def none {H : Type} : Left H := { results := [], args := [] }

/-- 'laws.FnExactGoodRoute': WHATEVER THE INPUT: true; the input reads as it did. -/
def fnExactGoodRouteSpec : ChangeSpec := { name := "fnExactGoodRoute", fn := fun _ => fun
  | [d] => { results := [.lit (.bool true)], args := [d] }
  | _ => none }
def fnExactGoodRouteRow : OpenClaim := { program := "ythidbgihjhkjaaa", sum := "85ed6ba4e74ba820ced1ea72702a0ca350e1763a56d2bc2081a9190bde993cb1", func := "loop.example/g00344/laws.FnExactGoodRoute", spec := "fnExactGoodRoute", unfollowed := true, recurses := true, apart := false }
def FnExactGoodRouteSaid : Prop := fnExactGoodRouteRow.holds Try.pinned (OpenSpec.ofChange fnExactGoodRouteSpec)

/-- ITS FALSE NEIGHBOUR: 'it returns false'. Refute it at one input. -/
def fnExactGoodRouteWrong : ChangeSpec := { name := "fnExactGoodRoute", fn := fun _ => fun
  | [d] => { results := [.lit (.bool false)], args := [d] }
  | _ => none }
def FnExactGoodRouteWrongFalsely : Prop := fnExactGoodRouteRow.holds Try.pinned (OpenSpec.ofChange fnExactGoodRouteWrong)

/-- 'laws.FnExactGoodPolicy': WHATEVER THE INPUT: true; the input reads as it did. -/
def fnExactGoodPolicySpec : ChangeSpec := { name := "fnExactGoodPolicy", fn := fun _ => fun
  | [d] => { results := [.lit (.bool true)], args := [d] }
  | _ => none }
def fnExactGoodPolicyRow : OpenClaim := { program := "ythidbgihjhkjaaa", sum := "85ed6ba4e74ba820ced1ea72702a0ca350e1763a56d2bc2081a9190bde993cb1", func := "loop.example/g00344/laws.FnExactGoodPolicy", spec := "fnExactGoodPolicy", unfollowed := true, recurses := true, apart := false }
def FnExactGoodPolicySaid : Prop := fnExactGoodPolicyRow.holds Try.pinned (OpenSpec.ofChange fnExactGoodPolicySpec)

/-- ITS FALSE NEIGHBOUR: 'it returns false'. Refute it at one input. -/
def fnExactGoodPolicyWrong : ChangeSpec := { name := "fnExactGoodPolicy", fn := fun _ => fun
  | [d] => { results := [.lit (.bool false)], args := [d] }
  | _ => none }
def FnExactGoodPolicyWrongFalsely : Prop := fnExactGoodPolicyRow.holds Try.pinned (OpenSpec.ofChange fnExactGoodPolicyWrong)

/-- 'laws.FnExactActOn': WHATEVER THE INPUT: true; the input reads as it did. -/
def fnExactActOnSpec : ChangeSpec := { name := "fnExactActOn", fn := fun _ => fun
  | [d1, d2] => { results := [.lit (.bool true)], args := [d1, d2] }
  | _ => none }
def fnExactActOnRow : OpenClaim := { program := "ythidbgihjhkjaaa", sum := "85ed6ba4e74ba820ced1ea72702a0ca350e1763a56d2bc2081a9190bde993cb1", func := "loop.example/g00344/laws.FnExactActOn", spec := "fnExactActOn", inPlace := ["slices.overlaps[int]"], unfollowed := true, recurses := true, apart := false }
def FnExactActOnSaid : Prop := fnExactActOnRow.holds Try.pinned (OpenSpec.ofChange fnExactActOnSpec)

/-- ITS FALSE NEIGHBOUR: 'it returns false'. Refute it at one input. -/
def fnExactActOnWrong : ChangeSpec := { name := "fnExactActOn", fn := fun _ => fun
  | [d1, d2] => { results := [.lit (.bool false)], args := [d1, d2] }
  | _ => none }
def FnExactActOnWrongFalsely : Prop := fnExactActOnRow.holds Try.pinned (OpenSpec.ofChange fnExactActOnWrong)

/-- 'laws.FnExactThenPolicy': WHATEVER THE INPUT: true; the input reads as it did. -/
def fnExactThenPolicySpec : ChangeSpec := { name := "fnExactThenPolicy", fn := fun _ => fun
  | [d1, d2] => { results := [.lit (.bool true)], args := [d1, d2] }
  | _ => none }
def fnExactThenPolicyRow : OpenClaim := { program := "ythidbgihjhkjaaa", sum := "85ed6ba4e74ba820ced1ea72702a0ca350e1763a56d2bc2081a9190bde993cb1", func := "loop.example/g00344/laws.FnExactThenPolicy", spec := "fnExactThenPolicy", unfollowed := true, recurses := true, apart := false }
def FnExactThenPolicySaid : Prop := fnExactThenPolicyRow.holds Try.pinned (OpenSpec.ofChange fnExactThenPolicySpec)

/-- ITS FALSE NEIGHBOUR: 'it returns false'. Refute it at one input. -/
def fnExactThenPolicyWrong : ChangeSpec := { name := "fnExactThenPolicy", fn := fun _ => fun
  | [d1, d2] => { results := [.lit (.bool false)], args := [d1, d2] }
  | _ => none }
def FnExactThenPolicyWrongFalsely : Prop := fnExactThenPolicyRow.holds Try.pinned (OpenSpec.ofChange fnExactThenPolicyWrong)

/-- 'laws.FnExactTermFits': WHATEVER THE INPUT: true; the input reads as it did. -/
def fnExactTermFitsSpec : ChangeSpec := { name := "fnExactTermFits", fn := fun _ => fun
  | [d1, d2] => { results := [.lit (.bool true)], args := [d1, d2] }
  | _ => none }
def fnExactTermFitsRow : OpenClaim := { program := "ythidbgihjhkjaaa", sum := "85ed6ba4e74ba820ced1ea72702a0ca350e1763a56d2bc2081a9190bde993cb1", func := "loop.example/g00344/laws.FnExactTermFits", spec := "fnExactTermFits", unfollowed := true, recurses := true, apart := false }
def FnExactTermFitsSaid : Prop := fnExactTermFitsRow.holds Try.pinned (OpenSpec.ofChange fnExactTermFitsSpec)

/-- ITS FALSE NEIGHBOUR: 'it returns false'. Refute it at one input. -/
def fnExactTermFitsWrong : ChangeSpec := { name := "fnExactTermFits", fn := fun _ => fun
  | [d1, d2] => { results := [.lit (.bool false)], args := [d1, d2] }
  | _ => none }
def FnExactTermFitsWrongFalsely : Prop := fnExactTermFitsRow.holds Try.pinned (OpenSpec.ofChange fnExactTermFitsWrong)

/- THE SECOND FORM. 'bulk': how many values and letters a reading holds, each counted each time it is reached (what is shared counts as often as it is met; a slice's spare places count too). A statement '..UptoSaid' is the law's where the arguments, and the package variables that the reading takes, are together of bulk at most 1048576: NARROWER than '..Said'. Prove '..Said' where nothing that the law and all that it calls make is longer than what came in: it says more and counts as full. Else prove '..UptoSaid'. A law counts once. -/
mutual
def uptoBulk {H : Type} : DataW H → Nat
  | .lit (.string bytes) => bytes.length + 1
  | .lit _ => 1
  | .nil => 1
  | .ptr d => uptoBulk d + 1
  | .slice elems spare => uptoBulkAll elems + uptoBulkAll spare + 1
  | .agg parts => uptoBulkAll parts + 1
  | .iface _ d => uptoBulk d + 1
  | .map entries => uptoBulkEntries entries + 1
  | .held _ => 1
def uptoBulkAll {H : Type} : List (DataW H) → Nat
  | [] => 0
  | d :: r => uptoBulk d + uptoBulkAll r
def uptoBulkEntries {H : Type} : List (Lit × DataW H) → Nat
  | [] => 0
  | x :: r => uptoBulkEntry x + uptoBulkEntries r
def uptoBulkEntry {H : Type} : Lit × DataW H → Nat
  | (.string bytes, d) => bytes.length + uptoBulk d + 1
  | (_, d) => uptoBulk d + 1
 end
def uptoSmall : (H : Type) → List (DataW H) → Bool := fun _ ds => decide (uptoBulkAll ds ≤ 1048576)
def OpenSpec.upto (s : _root_.Go.ChangeSpec) : _root_.Go.OpenSpec := { _root_.Go.OpenSpec.ofChange s with cond := some uptoSmall }

/-- 'laws.FnExactGoodRoute', WHERE WHAT IT READS IS OF BULK AT MOST 1048576: true; the input reads as it did. -/
def fnExactGoodRouteUptoRow : OpenClaim := { program := "ythidbgihjhkjaaa", sum := "85ed6ba4e74ba820ced1ea72702a0ca350e1763a56d2bc2081a9190bde993cb1", func := "loop.example/g00344/laws.FnExactGoodRoute", spec := "fnExactGoodRoute", unfollowed := true, recurses := true, apart := false, narrowed := true }
def FnExactGoodRouteUptoSaid : Prop := fnExactGoodRouteUptoRow.holds Try.pinned (OpenSpec.upto fnExactGoodRouteSpec)

/-- 'laws.FnExactGoodPolicy', WHERE WHAT IT READS IS OF BULK AT MOST 1048576: true; the input reads as it did. -/
def fnExactGoodPolicyUptoRow : OpenClaim := { program := "ythidbgihjhkjaaa", sum := "85ed6ba4e74ba820ced1ea72702a0ca350e1763a56d2bc2081a9190bde993cb1", func := "loop.example/g00344/laws.FnExactGoodPolicy", spec := "fnExactGoodPolicy", unfollowed := true, recurses := true, apart := false, narrowed := true }
def FnExactGoodPolicyUptoSaid : Prop := fnExactGoodPolicyUptoRow.holds Try.pinned (OpenSpec.upto fnExactGoodPolicySpec)

/-- 'laws.FnExactActOn', WHERE WHAT IT READS IS OF BULK AT MOST 1048576: true; the input reads as it did. -/
def fnExactActOnUptoRow : OpenClaim := { program := "ythidbgihjhkjaaa", sum := "85ed6ba4e74ba820ced1ea72702a0ca350e1763a56d2bc2081a9190bde993cb1", func := "loop.example/g00344/laws.FnExactActOn", spec := "fnExactActOn", inPlace := ["slices.overlaps[int]"], unfollowed := true, recurses := true, apart := false, narrowed := true }
def FnExactActOnUptoSaid : Prop := fnExactActOnUptoRow.holds Try.pinned (OpenSpec.upto fnExactActOnSpec)

/-- 'laws.FnExactThenPolicy', WHERE WHAT IT READS IS OF BULK AT MOST 1048576: true; the input reads as it did. -/
def fnExactThenPolicyUptoRow : OpenClaim := { program := "ythidbgihjhkjaaa", sum := "85ed6ba4e74ba820ced1ea72702a0ca350e1763a56d2bc2081a9190bde993cb1", func := "loop.example/g00344/laws.FnExactThenPolicy", spec := "fnExactThenPolicy", unfollowed := true, recurses := true, apart := false, narrowed := true }
def FnExactThenPolicyUptoSaid : Prop := fnExactThenPolicyUptoRow.holds Try.pinned (OpenSpec.upto fnExactThenPolicySpec)

/-- 'laws.FnExactTermFits', WHERE WHAT IT READS IS OF BULK AT MOST 1048576: true; the input reads as it did. -/
def fnExactTermFitsUptoRow : OpenClaim := { program := "ythidbgihjhkjaaa", sum := "85ed6ba4e74ba820ced1ea72702a0ca350e1763a56d2bc2081a9190bde993cb1", func := "loop.example/g00344/laws.FnExactTermFits", spec := "fnExactTermFits", unfollowed := true, recurses := true, apart := false, narrowed := true }
def FnExactTermFitsUptoSaid : Prop := fnExactTermFitsUptoRow.holds Try.pinned (OpenSpec.upto fnExactTermFitsSpec)

end Rows
end Go.Proofs.Ythidbgihjhkjaaa
