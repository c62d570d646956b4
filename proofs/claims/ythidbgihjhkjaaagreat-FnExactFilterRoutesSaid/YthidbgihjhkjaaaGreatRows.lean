/-
  No cell of these rows narrows 'for every input' (looked for: loops, veiled, ifaces, maps, wideKeys, modest, calm, conditions, laid).
  DERIVED. THE GIVEN ROWS OF THIS SEAT. 2 by the template 'for every input the law returns true; each argument reads behind the call as it read before'; 0 by the template 'total and deterministic' (their statements: YthidbgihjhkjaaaGreatTotals.lean).
  GIVEN WITH THE SEED: the statements are not yours to turn. If you find one false, say at which input.
  Laid BY PROGRAM, IN A SANDBOX (cutbox-rows.mjs): the forced cells as the released guide's own fill.sh prints them over the translation 535914ba50188b27… (all of the seat's roots in one cut). By AI agents, Wed Nov 11 2026. No macro, syntax, notation, axiom, sorry.
-/
import Derived.Test.YthidbgihjhkjaaaGreatChecked
import GoSem.Claim
import GoSem.ClaimJoined
import GoSem.ClaimMapViews
import Derived.JoinedTies
import Derived.KernelRfl
namespace Go.Proofs.YthidbgihjhkjaaaGreat
/- THE CELL 'sum', in the pinned program and in every row, IS THE sha256 OF THE DUMP (.gsa) THAT YthidbgihjhkjaaaGreatProg.lean LOADS. Nothing in Lean hashes anything: it is a label: what it is worth is what the hold of that sum in a sandbox is worth. -/
noncomputable def Tryz.pinned : Pinned := { name := "ythidbgihjhkjaaagreat", sum := "535914ba50188b272922da4f806716583e573e48f81ffc1de3756ceffcdf1f9e", checked := Tryz.checked }
namespace Rows
def none {H : Type} : Left H := { results := [], args := [] }

/-- 'laws.FnExactApplyPolicy': WHATEVER THE INPUT: true; the input reads as it did. -/
def fnExactApplyPolicySpec : ChangeSpec := { name := "fnExactApplyPolicy", fn := fun _ => fun
  | [d1, d2] => { results := [.lit (.bool true)], args := [d1, d2] }
  | _ => none }
def fnExactApplyPolicyRow : OpenClaim := { program := "ythidbgihjhkjaaagreat", sum := "535914ba50188b272922da4f806716583e573e48f81ffc1de3756ceffcdf1f9e", func := "loop.example/g00344/laws.FnExactApplyPolicy", spec := "fnExactApplyPolicy", inPlace := ["slices.overlaps[int]"], unfollowed := true, recurses := true, apart := false }
def FnExactApplyPolicySaid : Prop := fnExactApplyPolicyRow.holds Tryz.pinned (OpenSpec.ofChange fnExactApplyPolicySpec)

/-- ITS FALSE NEIGHBOUR: 'it returns false'. Refute it at one input. -/
def fnExactApplyPolicyWrong : ChangeSpec := { name := "fnExactApplyPolicy", fn := fun _ => fun
  | [d1, d2] => { results := [.lit (.bool false)], args := [d1, d2] }
  | _ => none }
def FnExactApplyPolicyWrongFalsely : Prop := fnExactApplyPolicyRow.holds Tryz.pinned (OpenSpec.ofChange fnExactApplyPolicyWrong)

/-- 'laws.FnExactFilterRoutes': WHATEVER THE INPUT: true; the input reads as it did. -/
def fnExactFilterRoutesSpec : ChangeSpec := { name := "fnExactFilterRoutes", fn := fun _ => fun
  | [d1, d2] => { results := [.lit (.bool true)], args := [d1, d2] }
  | _ => none }
def fnExactFilterRoutesRow : OpenClaim := { program := "ythidbgihjhkjaaagreat", sum := "535914ba50188b272922da4f806716583e573e48f81ffc1de3756ceffcdf1f9e", func := "loop.example/g00344/laws.FnExactFilterRoutes", spec := "fnExactFilterRoutes", inPlace := ["slices.overlaps[int]"], unfollowed := true, recurses := true, apart := false }
def FnExactFilterRoutesSaid : Prop := fnExactFilterRoutesRow.holds Tryz.pinned (OpenSpec.ofChange fnExactFilterRoutesSpec)

/-- ITS FALSE NEIGHBOUR: 'it returns false'. Refute it at one input. -/
def fnExactFilterRoutesWrong : ChangeSpec := { name := "fnExactFilterRoutes", fn := fun _ => fun
  | [d1, d2] => { results := [.lit (.bool false)], args := [d1, d2] }
  | _ => none }
def FnExactFilterRoutesWrongFalsely : Prop := fnExactFilterRoutesRow.holds Tryz.pinned (OpenSpec.ofChange fnExactFilterRoutesWrong)

/- THE SECOND FORM. 'bulk': how many values and letters a reading holds, each counted each time it is reached (what is shared counts as often as it is met; a slice's spare places count too). A statement '..UptoSaid' is the law's where the arguments, and the package variables that the reading takes, are together of bulk at most 1048576: NARROWER than '..Said'. Prove '..Said' where nothing that the law and all that it calls make is longer than what came in: it says more and counts as full. Else prove '..UptoSaid'. A law counts once. -/
mutual
def uptoBulk {H : Type} : DataW H → Nat
  | .lit (.string bytes) => bytes.length + 1
  | .lit _ => 1
  | .nil => 1
  | .ptr d => uptoBulk d + 1
  | .slice elems spare => uptoBulkAll elems + uptoBulkAll spare + 1
  | .agg parts => uptoBulkAll parts + 1
  | .iface _ d => uptoBulk d + 1
  | .map entries => uptoBulkEntries entries + 1
  | .held _ => 1
def uptoBulkAll {H : Type} : List (DataW H) → Nat
  | [] => 0
  | d :: r => uptoBulk d + uptoBulkAll r
def uptoBulkEntries {H : Type} : List (Lit × DataW H) → Nat
  | [] => 0
  | x :: r => uptoBulkEntry x + uptoBulkEntries r
def uptoBulkEntry {H : Type} : Lit × DataW H → Nat
  | (.string bytes, d) => bytes.length + uptoBulk d + 1
  | (_, d) => uptoBulk d + 1
 end
def uptoSmall : (H : Type) → List (DataW H) → Bool := fun _ ds => decide (uptoBulkAll ds ≤ 1048576)
def OpenSpec.upto (s : _root_.Go.ChangeSpec) : _root_.Go.OpenSpec := { _root_.Go.OpenSpec.ofChange s with cond := some uptoSmall }

/-- 'laws.FnExactApplyPolicy', WHERE WHAT IT READS IS OF BULK AT MOST 1048576: true; the input reads as it did. -/
def fnExactApplyPolicyUptoRow : OpenClaim := { program := "ythidbgihjhkjaaagreat", sum := "535914ba50188b272922da4f806716583e573e48f81ffc1de3756ceffcdf1f9e", func := "loop.example/g00344/laws.FnExactApplyPolicy", spec := "fnExactApplyPolicy", inPlace := ["slices.overlaps[int]"], unfollowed := true, recurses := true, apart := false, narrowed := true }
def FnExactApplyPolicyUptoSaid : Prop := fnExactApplyPolicyUptoRow.holds Tryz.pinned (OpenSpec.upto fnExactApplyPolicySpec)

/-- 'laws.FnExactFilterRoutes', WHERE WHAT IT READS IS OF BULK AT MOST 1048576: true; the input reads as it did. -/
def fnExactFilterRoutesUptoRow : OpenClaim := { program := "ythidbgihjhkjaaagreat", sum := "535914ba50188b272922da4f806716583e573e48f81ffc1de3756ceffcdf1f9e", func := "loop.example/g00344/laws.FnExactFilterRoutes", spec := "fnExactFilterRoutes", inPlace := ["slices.overlaps[int]"], unfollowed := true, recurses := true, apart := false, narrowed := true }
def FnExactFilterRoutesUptoSaid : Prop := fnExactFilterRoutesUptoRow.holds Tryz.pinned (OpenSpec.upto fnExactFilterRoutesSpec)

end Rows
end Go.Proofs.YthidbgihjhkjaaaGreat
