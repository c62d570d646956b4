/-
  No cell of these rows narrows 'for every input' (looked for: loops, veiled, ifaces, maps, wideKeys, modest, calm, conditions, laid).
  DERIVED. THE GIVEN ROWS OF THIS SEAT. 8 by the template 'for every input the law returns true; each argument reads behind the call as it read before'; 0 by the template 'total and deterministic' (their statements: YtcihklkihglmjaaTotals.lean).
  GIVEN WITH THE SEED: the statements are not yours to turn. If you find one false, say at which input.
  Laid BY PROGRAM, IN A SANDBOX (cutbox-rows.mjs): the forced cells as the released guide's own fill.sh prints them over the translation ba4cdc0dd8e22189… (all of the seat's roots in one cut). By AI agents, Wed Nov 11 2026. No macro, syntax, notation, axiom, sorry.
-/
import Derived.Test.YtcihklkihglmjaaChecked
import GoSem.Claim
import GoSem.ClaimJoined
import GoSem.ClaimMapViews
import Derived.JoinedTies
import Derived.KernelRfl
namespace Go.Proofs.Ytcihklkihglmjaa
/- THE CELL 'sum', in the pinned program and in every row, IS THE sha256 OF THE DUMP (.gsa) THAT YtcihklkihglmjaaProg.lean LOADS. Nothing in Lean hashes anything: it is a label: what it is worth is what the hold of that sum in a sandbox is worth. -/
noncomputable def Try.pinned : Pinned := { name := "ytcihklkihglmjaa", sum := "ba4cdc0dd8e221890719fea2d42ed9dcf9e206a3ee189de86255b3ff0a5e9442", checked := Try.checked }
namespace Rows
def none {H : Type} : Left H := { results := [], args := [] }

/-- 'laws.FnExactNewSession': WHATEVER THE INPUT: true; the input reads as it did. -/
def fnExactNewSessionSpec : ChangeSpec := { name := "fnExactNewSession", fn := fun _ => fun
  | [d] => { results := [.lit (.bool true)], args := [d] }
  | _ => none }
def fnExactNewSessionRow : OpenClaim := { program := "ytcihklkihglmjaa", sum := "ba4cdc0dd8e221890719fea2d42ed9dcf9e206a3ee189de86255b3ff0a5e9442", func := "loop.example/g00344/laws.FnExactNewSession", spec := "fnExactNewSession", apart := false }
def FnExactNewSessionSaid : Prop := fnExactNewSessionRow.holds Try.pinned (OpenSpec.ofChange fnExactNewSessionSpec)

/-- ITS FALSE NEIGHBOUR: 'it returns false'. Refute it at one input. -/
def fnExactNewSessionWrong : ChangeSpec := { name := "fnExactNewSession", fn := fun _ => fun
  | [d] => { results := [.lit (.bool false)], args := [d] }
  | _ => none }
def FnExactNewSessionWrongFalsely : Prop := fnExactNewSessionRow.holds Try.pinned (OpenSpec.ofChange fnExactNewSessionWrong)

/-- 'laws.FnExactGoodSession': WHATEVER THE INPUT: true; the input reads as it did. -/
def fnExactGoodSessionSpec : ChangeSpec := { name := "fnExactGoodSession", fn := fun _ => fun
  | [d] => { results := [.lit (.bool true)], args := [d] }
  | _ => none }
def fnExactGoodSessionRow : OpenClaim := { program := "ytcihklkihglmjaa", sum := "ba4cdc0dd8e221890719fea2d42ed9dcf9e206a3ee189de86255b3ff0a5e9442", func := "loop.example/g00344/laws.FnExactGoodSession", spec := "fnExactGoodSession", apart := false }
def FnExactGoodSessionSaid : Prop := fnExactGoodSessionRow.holds Try.pinned (OpenSpec.ofChange fnExactGoodSessionSpec)

/-- ITS FALSE NEIGHBOUR: 'it returns false'. Refute it at one input. -/
def fnExactGoodSessionWrong : ChangeSpec := { name := "fnExactGoodSession", fn := fun _ => fun
  | [d] => { results := [.lit (.bool false)], args := [d] }
  | _ => none }
def FnExactGoodSessionWrongFalsely : Prop := fnExactGoodSessionRow.holds Try.pinned (OpenSpec.ofChange fnExactGoodSessionWrong)

/-- 'laws.FnExactIsUp': WHATEVER THE INPUT: true; the input reads as it did. -/
def fnExactIsUpSpec : ChangeSpec := { name := "fnExactIsUp", fn := fun _ => fun
  | [d] => { results := [.lit (.bool true)], args := [d] }
  | _ => none }
def fnExactIsUpRow : OpenClaim := { program := "ytcihklkihglmjaa", sum := "ba4cdc0dd8e221890719fea2d42ed9dcf9e206a3ee189de86255b3ff0a5e9442", func := "loop.example/g00344/laws.FnExactIsUp", spec := "fnExactIsUp", apart := false }
def FnExactIsUpSaid : Prop := fnExactIsUpRow.holds Try.pinned (OpenSpec.ofChange fnExactIsUpSpec)

/-- ITS FALSE NEIGHBOUR: 'it returns false'. Refute it at one input. -/
def fnExactIsUpWrong : ChangeSpec := { name := "fnExactIsUp", fn := fun _ => fun
  | [d] => { results := [.lit (.bool false)], args := [d] }
  | _ => none }
def FnExactIsUpWrongFalsely : Prop := fnExactIsUpRow.holds Try.pinned (OpenSpec.ofChange fnExactIsUpWrong)

/-- 'laws.FnExactStepSession': WHATEVER THE INPUT: true; the input reads as it did. -/
def fnExactStepSessionSpec : ChangeSpec := { name := "fnExactStepSession", fn := fun _ => fun
  | [d1, d2] => { results := [.lit (.bool true)], args := [d1, d2] }
  | _ => none }
def fnExactStepSessionRow : OpenClaim := { program := "ytcihklkihglmjaa", sum := "ba4cdc0dd8e221890719fea2d42ed9dcf9e206a3ee189de86255b3ff0a5e9442", func := "loop.example/g00344/laws.FnExactStepSession", spec := "fnExactStepSession", apart := false }
def FnExactStepSessionSaid : Prop := fnExactStepSessionRow.holds Try.pinned (OpenSpec.ofChange fnExactStepSessionSpec)

/-- ITS FALSE NEIGHBOUR: 'it returns false'. Refute it at one input. -/
def fnExactStepSessionWrong : ChangeSpec := { name := "fnExactStepSession", fn := fun _ => fun
  | [d1, d2] => { results := [.lit (.bool false)], args := [d1, d2] }
  | _ => none }
def FnExactStepSessionWrongFalsely : Prop := fnExactStepSessionRow.holds Try.pinned (OpenSpec.ofChange fnExactStepSessionWrong)

/-- 'laws.FnExactPlayEvents': WHATEVER THE INPUT: true; the input reads as it did. -/
def fnExactPlayEventsSpec : ChangeSpec := { name := "fnExactPlayEvents", fn := fun _ => fun
  | [d1, d2] => { results := [.lit (.bool true)], args := [d1, d2] }
  | _ => none }
def fnExactPlayEventsRow : OpenClaim := { program := "ytcihklkihglmjaa", sum := "ba4cdc0dd8e221890719fea2d42ed9dcf9e206a3ee189de86255b3ff0a5e9442", func := "loop.example/g00344/laws.FnExactPlayEvents", spec := "fnExactPlayEvents", unfollowed := true, recurses := true, apart := false }
def FnExactPlayEventsSaid : Prop := fnExactPlayEventsRow.holds Try.pinned (OpenSpec.ofChange fnExactPlayEventsSpec)

/-- ITS FALSE NEIGHBOUR: 'it returns false'. Refute it at one input. -/
def fnExactPlayEventsWrong : ChangeSpec := { name := "fnExactPlayEvents", fn := fun _ => fun
  | [d1, d2] => { results := [.lit (.bool false)], args := [d1, d2] }
  | _ => none }
def FnExactPlayEventsWrongFalsely : Prop := fnExactPlayEventsRow.holds Try.pinned (OpenSpec.ofChange fnExactPlayEventsWrong)

/-- 'laws.FnExactPlayPair': WHATEVER THE INPUT: true; the input reads as it did. -/
def fnExactPlayPairSpec : ChangeSpec := { name := "fnExactPlayPair", fn := fun _ => fun
  | [d1, d2, d3] => { results := [.lit (.bool true)], args := [d1, d2, d3] }
  | _ => none }
def fnExactPlayPairRow : OpenClaim := { program := "ytcihklkihglmjaa", sum := "ba4cdc0dd8e221890719fea2d42ed9dcf9e206a3ee189de86255b3ff0a5e9442", func := "loop.example/g00344/laws.FnExactPlayPair", spec := "fnExactPlayPair", unfollowed := true, recurses := true, apart := false }
def FnExactPlayPairSaid : Prop := fnExactPlayPairRow.holds Try.pinned (OpenSpec.ofChange fnExactPlayPairSpec)

/-- ITS FALSE NEIGHBOUR: 'it returns false'. Refute it at one input. -/
def fnExactPlayPairWrong : ChangeSpec := { name := "fnExactPlayPair", fn := fun _ => fun
  | [d1, d2, d3] => { results := [.lit (.bool false)], args := [d1, d2, d3] }
  | _ => none }
def FnExactPlayPairWrongFalsely : Prop := fnExactPlayPairRow.holds Try.pinned (OpenSpec.ofChange fnExactPlayPairWrong)

/-- 'laws.FnPair': WHATEVER THE INPUT: true; the input reads as it did. -/
def fnPairSpec : ChangeSpec := { name := "fnPair", fn := fun _ => fun
  | [d] => { results := [.lit (.bool true)], args := [d] }
  | _ => none }
def fnPairRow : OpenClaim := { program := "ytcihklkihglmjaa", sum := "ba4cdc0dd8e221890719fea2d42ed9dcf9e206a3ee189de86255b3ff0a5e9442", func := "loop.example/g00344/laws.FnPair", spec := "fnPair", unfollowed := true, recurses := true, apart := false }
def FnPairSaid : Prop := fnPairRow.holds Try.pinned (OpenSpec.ofChange fnPairSpec)

/-- ITS FALSE NEIGHBOUR: 'it returns false'. Refute it at one input. -/
def fnPairWrong : ChangeSpec := { name := "fnPair", fn := fun _ => fun
  | [d] => { results := [.lit (.bool false)], args := [d] }
  | _ => none }
def FnPairWrongFalsely : Prop := fnPairRow.holds Try.pinned (OpenSpec.ofChange fnPairWrong)

/-- 'laws.FnSession': WHATEVER THE INPUT: true; the input reads as it did. -/
def fnSessionSpec : ChangeSpec := { name := "fnSession", fn := fun _ => fun
  | [d1, d2] => { results := [.lit (.bool true)], args := [d1, d2] }
  | _ => none }
def fnSessionRow : OpenClaim := { program := "ytcihklkihglmjaa", sum := "ba4cdc0dd8e221890719fea2d42ed9dcf9e206a3ee189de86255b3ff0a5e9442", func := "loop.example/g00344/laws.FnSession", spec := "fnSession", unfollowed := true, recurses := true, apart := false }
def FnSessionSaid : Prop := fnSessionRow.holds Try.pinned (OpenSpec.ofChange fnSessionSpec)

/-- ITS FALSE NEIGHBOUR: 'it returns false'. Refute it at one input. -/
def fnSessionWrong : ChangeSpec := { name := "fnSession", fn := fun _ => fun
  | [d1, d2] => { results := [.lit (.bool false)], args := [d1, d2] }
  | _ => none }
def FnSessionWrongFalsely : Prop := fnSessionRow.holds Try.pinned (OpenSpec.ofChange fnSessionWrong)

/- THE SECOND FORM. 'bulk': how many values and letters a reading holds, each counted each time it is reached (what is shared counts as often as it is met; a slice's spare places count too). A statement '..UptoSaid' is the law's where the arguments, and the package variables that the reading takes, are together of bulk at most 1048576: NARROWER than '..Said'. Prove '..Said' where nothing that the law and all that it calls make is longer than what came in: it says more and counts as full. Else prove '..UptoSaid'. A law counts once. -/
mutual
def uptoBulk {H : Type} : DataW H → Nat
  | .lit (.string bytes) => bytes.length + 1
  | .lit _ => 1
  | .nil => 1
  | .ptr d => uptoBulk d + 1
  | .slice elems spare => uptoBulkAll elems + uptoBulkAll spare + 1
  | .agg parts => uptoBulkAll parts + 1
  | .iface _ d => uptoBulk d + 1
  | .map entries => uptoBulkEntries entries + 1
  | .held _ => 1
def uptoBulkAll {H : Type} : List (DataW H) → Nat
  | [] => 0
  | d :: r => uptoBulk d + uptoBulkAll r
def uptoBulkEntries {H : Type} : List (Lit × DataW H) → Nat
  | [] => 0
  | x :: r => uptoBulkEntry x + uptoBulkEntries r
def uptoBulkEntry {H : Type} : Lit × DataW H → Nat
  | (.string bytes, d) => bytes.length + uptoBulk d + 1
  | (_, d) => uptoBulk d + 1
 end
def uptoSmall : (H : Type) → List (DataW H) → Bool := fun _ ds => decide (uptoBulkAll ds ≤ 1048576)
def OpenSpec.upto (s : _root_.Go.ChangeSpec) : _root_.Go.OpenSpec := { _root_.Go.OpenSpec.ofChange s with cond := some uptoSmall }

/-- 'laws.FnExactNewSession', WHERE WHAT IT READS IS OF BULK AT MOST 1048576: true; the input reads as it did. -/
def fnExactNewSessionUptoRow : OpenClaim := { program := "ytcihklkihglmjaa", sum := "ba4cdc0dd8e221890719fea2d42ed9dcf9e206a3ee189de86255b3ff0a5e9442", func := "loop.example/g00344/laws.FnExactNewSession", spec := "fnExactNewSession", apart := false, narrowed := true }
def FnExactNewSessionUptoSaid : Prop := fnExactNewSessionUptoRow.holds Try.pinned (OpenSpec.upto fnExactNewSessionSpec)

/-- 'laws.FnExactGoodSession', WHERE WHAT IT READS IS OF BULK AT MOST 1048576: true; the input reads as it did. -/
def fnExactGoodSessionUptoRow : OpenClaim := { program := "ytcihklkihglmjaa", sum := "ba4cdc0dd8e221890719fea2d42ed9dcf9e206a3ee189de86255b3ff0a5e9442", func := "loop.example/g00344/laws.FnExactGoodSession", spec := "fnExactGoodSession", apart := false, narrowed := true }
def FnExactGoodSessionUptoSaid : Prop := fnExactGoodSessionUptoRow.holds Try.pinned (OpenSpec.upto fnExactGoodSessionSpec)

/-- 'laws.FnExactIsUp', WHERE WHAT IT READS IS OF BULK AT MOST 1048576: true; the input reads as it did. -/
def fnExactIsUpUptoRow : OpenClaim := { program := "ytcihklkihglmjaa", sum := "ba4cdc0dd8e221890719fea2d42ed9dcf9e206a3ee189de86255b3ff0a5e9442", func := "loop.example/g00344/laws.FnExactIsUp", spec := "fnExactIsUp", apart := false, narrowed := true }
def FnExactIsUpUptoSaid : Prop := fnExactIsUpUptoRow.holds Try.pinned (OpenSpec.upto fnExactIsUpSpec)

/-- 'laws.FnExactStepSession', WHERE WHAT IT READS IS OF BULK AT MOST 1048576: true; the input reads as it did. -/
def fnExactStepSessionUptoRow : OpenClaim := { program := "ytcihklkihglmjaa", sum := "ba4cdc0dd8e221890719fea2d42ed9dcf9e206a3ee189de86255b3ff0a5e9442", func := "loop.example/g00344/laws.FnExactStepSession", spec := "fnExactStepSession", apart := false, narrowed := true }
def FnExactStepSessionUptoSaid : Prop := fnExactStepSessionUptoRow.holds Try.pinned (OpenSpec.upto fnExactStepSessionSpec)

/-- 'laws.FnExactPlayEvents', WHERE WHAT IT READS IS OF BULK AT MOST 1048576: true; the input reads as it did. -/
def fnExactPlayEventsUptoRow : OpenClaim := { program := "ytcihklkihglmjaa", sum := "ba4cdc0dd8e221890719fea2d42ed9dcf9e206a3ee189de86255b3ff0a5e9442", func := "loop.example/g00344/laws.FnExactPlayEvents", spec := "fnExactPlayEvents", unfollowed := true, recurses := true, apart := false, narrowed := true }
def FnExactPlayEventsUptoSaid : Prop := fnExactPlayEventsUptoRow.holds Try.pinned (OpenSpec.upto fnExactPlayEventsSpec)

/-- 'laws.FnExactPlayPair', WHERE WHAT IT READS IS OF BULK AT MOST 1048576: true; the input reads as it did. -/
def fnExactPlayPairUptoRow : OpenClaim := { program := "ytcihklkihglmjaa", sum := "ba4cdc0dd8e221890719fea2d42ed9dcf9e206a3ee189de86255b3ff0a5e9442", func := "loop.example/g00344/laws.FnExactPlayPair", spec := "fnExactPlayPair", unfollowed := true, recurses := true, apart := false, narrowed := true }
def FnExactPlayPairUptoSaid : Prop := fnExactPlayPairUptoRow.holds Try.pinned (OpenSpec.upto fnExactPlayPairSpec)

/-- 'laws.FnPair', WHERE WHAT IT READS IS OF BULK AT MOST 1048576: true; the input reads as it did. -/
def fnPairUptoRow : OpenClaim := { program := "ytcihklkihglmjaa", sum := "ba4cdc0dd8e221890719fea2d42ed9dcf9e206a3ee189de86255b3ff0a5e9442", func := "loop.example/g00344/laws.FnPair", spec := "fnPair", unfollowed := true, recurses := true, apart := false, narrowed := true }
def FnPairUptoSaid : Prop := fnPairUptoRow.holds Try.pinned (OpenSpec.upto fnPairSpec)

/-- 'laws.FnSession', WHERE WHAT IT READS IS OF BULK AT MOST 1048576: true; the input reads as it did. -/
def fnSessionUptoRow : OpenClaim := { program := "ytcihklkihglmjaa", sum := "ba4cdc0dd8e221890719fea2d42ed9dcf9e206a3ee189de86255b3ff0a5e9442", func := "loop.example/g00344/laws.FnSession", spec := "fnSession", unfollowed := true, recurses := true, apart := false, narrowed := true }
def FnSessionUptoSaid : Prop := fnSessionUptoRow.holds Try.pinned (OpenSpec.upto fnSessionSpec)

end Rows
end Go.Proofs.Ytcihklkihglmjaa
