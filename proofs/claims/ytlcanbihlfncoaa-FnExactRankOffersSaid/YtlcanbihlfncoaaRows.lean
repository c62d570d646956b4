/-
  No cell of these rows narrows 'for every input' (looked for: loops, veiled, ifaces, maps, wideKeys, modest, calm, conditions, laid).
  DERIVED. THE GIVEN ROWS OF THIS SEAT. 9 by the template 'for every input the law returns true; each argument reads behind the call as it read before'; 0 by the template 'total and deterministic' (their statements: YtlcanbihlfncoaaTotals.lean).
  GIVEN WITH THE SEED: the statements are not yours to turn. If you find one false, say at which input.
  Laid BY PROGRAM, IN A SANDBOX (cutbox-rows.mjs): the forced cells as the released guide's own fill.sh prints them over the translation 9c273cc3cb2c0901… (all of the seat's roots in one cut). By AI agents, Wed Nov 11 2026. No macro, syntax, notation, axiom, sorry.
-/
import Derived.Test.YtlcanbihlfncoaaChecked
import GoSem.Claim
import GoSem.ClaimJoined
import GoSem.ClaimMapViews
import Derived.JoinedTies
import Derived.KernelRfl
namespace Go.Proofs.Ytlcanbihlfncoaa
/- THE CELL 'sum', in the pinned program and in every row, IS THE sha256 OF THE DUMP (.gsa) THAT YtlcanbihlfncoaaProg.lean LOADS. Nothing in Lean hashes anything: it is a label: what it is worth is what the hold of that sum in a sandbox is worth. -/
noncomputable def Try.pinned : Pinned := { name := "ytlcanbihlfncoaa", sum := "9c273cc3cb2c0901a04debeba9cb677c50cad37daa779424fd16864eeafe0df9", checked := Try.checked }
namespace Rows
def none {H : Type} : Left H := { results := [], args := [] }

/-- 'laws.FnExactGoodOffers': WHATEVER THE INPUT: true; the input reads as it did. -/
def fnExactGoodOffersSpec : ChangeSpec := { name := "fnExactGoodOffers", fn := fun _ => fun
  | [d] => { results := [.lit (.bool true)], args := [d] }
  | _ => none }
def fnExactGoodOffersRow : OpenClaim := { program := "ytlcanbihlfncoaa", sum := "9c273cc3cb2c0901a04debeba9cb677c50cad37daa779424fd16864eeafe0df9", func := "loop.example/g00344/laws.FnExactGoodOffers", spec := "fnExactGoodOffers", unfollowed := true, recurses := true, apart := false }
def FnExactGoodOffersSaid : Prop := fnExactGoodOffersRow.holds Try.pinned (OpenSpec.ofChange fnExactGoodOffersSpec)

/-- ITS FALSE NEIGHBOUR: 'it returns false'. Refute it at one input. -/
def fnExactGoodOffersWrong : ChangeSpec := { name := "fnExactGoodOffers", fn := fun _ => fun
  | [d] => { results := [.lit (.bool false)], args := [d] }
  | _ => none }
def FnExactGoodOffersWrongFalsely : Prop := fnExactGoodOffersRow.holds Try.pinned (OpenSpec.ofChange fnExactGoodOffersWrong)

/-- 'laws.FnExactCompareOffers': WHATEVER THE INPUT: true; the input reads as it did. -/
def fnExactCompareOffersSpec : ChangeSpec := { name := "fnExactCompareOffers", fn := fun _ => fun
  | [d1, d2] => { results := [.lit (.bool true)], args := [d1, d2] }
  | _ => none }
def fnExactCompareOffersRow : OpenClaim := { program := "ytlcanbihlfncoaa", sum := "9c273cc3cb2c0901a04debeba9cb677c50cad37daa779424fd16864eeafe0df9", func := "loop.example/g00344/laws.FnExactCompareOffers", spec := "fnExactCompareOffers", unfollowed := true, recurses := true, apart := false }
def FnExactCompareOffersSaid : Prop := fnExactCompareOffersRow.holds Try.pinned (OpenSpec.ofChange fnExactCompareOffersSpec)

/-- ITS FALSE NEIGHBOUR: 'it returns false'. Refute it at one input. -/
def fnExactCompareOffersWrong : ChangeSpec := { name := "fnExactCompareOffers", fn := fun _ => fun
  | [d1, d2] => { results := [.lit (.bool false)], args := [d1, d2] }
  | _ => none }
def FnExactCompareOffersWrongFalsely : Prop := fnExactCompareOffersRow.holds Try.pinned (OpenSpec.ofChange fnExactCompareOffersWrong)

/-- 'laws.FnExactDropOffer': WHATEVER THE INPUT: true; the input reads as it did. -/
def fnExactDropOfferSpec : ChangeSpec := { name := "fnExactDropOffer", fn := fun _ => fun
  | [d1, d2] => { results := [.lit (.bool true)], args := [d1, d2] }
  | _ => none }
def fnExactDropOfferRow : OpenClaim := { program := "ytlcanbihlfncoaa", sum := "9c273cc3cb2c0901a04debeba9cb677c50cad37daa779424fd16864eeafe0df9", func := "loop.example/g00344/laws.FnExactDropOffer", spec := "fnExactDropOffer", unfollowed := true, recurses := true, apart := false }
def FnExactDropOfferSaid : Prop := fnExactDropOfferRow.holds Try.pinned (OpenSpec.ofChange fnExactDropOfferSpec)

/-- ITS FALSE NEIGHBOUR: 'it returns false'. Refute it at one input. -/
def fnExactDropOfferWrong : ChangeSpec := { name := "fnExactDropOffer", fn := fun _ => fun
  | [d1, d2] => { results := [.lit (.bool false)], args := [d1, d2] }
  | _ => none }
def FnExactDropOfferWrongFalsely : Prop := fnExactDropOfferRow.holds Try.pinned (OpenSpec.ofChange fnExactDropOfferWrong)

/-- 'laws.FnExactAddOffer': WHATEVER THE INPUT: true; the input reads as it did. -/
def fnExactAddOfferSpec : ChangeSpec := { name := "fnExactAddOffer", fn := fun _ => fun
  | [d1, d2] => { results := [.lit (.bool true)], args := [d1, d2] }
  | _ => none }
def fnExactAddOfferRow : OpenClaim := { program := "ytlcanbihlfncoaa", sum := "9c273cc3cb2c0901a04debeba9cb677c50cad37daa779424fd16864eeafe0df9", func := "loop.example/g00344/laws.FnExactAddOffer", spec := "fnExactAddOffer", inPlace := ["slices.overlaps[loop.example/g00344/impl.Offer]"], unfollowed := true, recurses := true, apart := false }
def FnExactAddOfferSaid : Prop := fnExactAddOfferRow.holds Try.pinned (OpenSpec.ofChange fnExactAddOfferSpec)

/-- ITS FALSE NEIGHBOUR: 'it returns false'. Refute it at one input. -/
def fnExactAddOfferWrong : ChangeSpec := { name := "fnExactAddOffer", fn := fun _ => fun
  | [d1, d2] => { results := [.lit (.bool false)], args := [d1, d2] }
  | _ => none }
def FnExactAddOfferWrongFalsely : Prop := fnExactAddOfferRow.holds Try.pinned (OpenSpec.ofChange fnExactAddOfferWrong)

/-- 'laws.FnExactBestOffer': WHATEVER THE INPUT: true; the input reads as it did. -/
def fnExactBestOfferSpec : ChangeSpec := { name := "fnExactBestOffer", fn := fun _ => fun
  | [d] => { results := [.lit (.bool true)], args := [d] }
  | _ => none }
def fnExactBestOfferRow : OpenClaim := { program := "ytlcanbihlfncoaa", sum := "9c273cc3cb2c0901a04debeba9cb677c50cad37daa779424fd16864eeafe0df9", func := "loop.example/g00344/laws.FnExactBestOffer", spec := "fnExactBestOffer", unfollowed := true, recurses := true, apart := false }
def FnExactBestOfferSaid : Prop := fnExactBestOfferRow.holds Try.pinned (OpenSpec.ofChange fnExactBestOfferSpec)

/-- ITS FALSE NEIGHBOUR: 'it returns false'. Refute it at one input. -/
def fnExactBestOfferWrong : ChangeSpec := { name := "fnExactBestOffer", fn := fun _ => fun
  | [d] => { results := [.lit (.bool false)], args := [d] }
  | _ => none }
def FnExactBestOfferWrongFalsely : Prop := fnExactBestOfferRow.holds Try.pinned (OpenSpec.ofChange fnExactBestOfferWrong)

/-- 'laws.FnExactRankOffers': WHATEVER THE INPUT: true; the input reads as it did. -/
def fnExactRankOffersSpec : ChangeSpec := { name := "fnExactRankOffers", fn := fun _ => fun
  | [d] => { results := [.lit (.bool true)], args := [d] }
  | _ => none }
def fnExactRankOffersRow : OpenClaim := { program := "ytlcanbihlfncoaa", sum := "9c273cc3cb2c0901a04debeba9cb677c50cad37daa779424fd16864eeafe0df9", func := "loop.example/g00344/laws.FnExactRankOffers", spec := "fnExactRankOffers", unfollowed := true, recurses := true, apart := false }
def FnExactRankOffersSaid : Prop := fnExactRankOffersRow.holds Try.pinned (OpenSpec.ofChange fnExactRankOffersSpec)

/-- ITS FALSE NEIGHBOUR: 'it returns false'. Refute it at one input. -/
def fnExactRankOffersWrong : ChangeSpec := { name := "fnExactRankOffers", fn := fun _ => fun
  | [d] => { results := [.lit (.bool false)], args := [d] }
  | _ => none }
def FnExactRankOffersWrongFalsely : Prop := fnExactRankOffersRow.holds Try.pinned (OpenSpec.ofChange fnExactRankOffersWrong)

/-- 'laws.FnExactBestBy': WHATEVER THE INPUT: true; the input reads as it did. -/
def fnExactBestBySpec : ChangeSpec := { name := "fnExactBestBy", fn := fun _ => fun
  | [d1, d2] => { results := [.lit (.bool true)], args := [d1, d2] }
  | _ => none }
def fnExactBestByRow : OpenClaim := { program := "ytlcanbihlfncoaa", sum := "9c273cc3cb2c0901a04debeba9cb677c50cad37daa779424fd16864eeafe0df9", func := "loop.example/g00344/laws.FnExactBestBy", spec := "fnExactBestBy", unfollowed := true, recurses := true, apart := false }
def FnExactBestBySaid : Prop := fnExactBestByRow.holds Try.pinned (OpenSpec.ofChange fnExactBestBySpec)

/-- ITS FALSE NEIGHBOUR: 'it returns false'. Refute it at one input. -/
def fnExactBestByWrong : ChangeSpec := { name := "fnExactBestBy", fn := fun _ => fun
  | [d1, d2] => { results := [.lit (.bool false)], args := [d1, d2] }
  | _ => none }
def FnExactBestByWrongFalsely : Prop := fnExactBestByRow.holds Try.pinned (OpenSpec.ofChange fnExactBestByWrong)

/-- 'laws.FnBest': WHATEVER THE INPUT: true; the input reads as it did. -/
def fnBestSpec : ChangeSpec := { name := "fnBest", fn := fun _ => fun
  | [d1, d2] => { results := [.lit (.bool true)], args := [d1, d2] }
  | _ => none }
def fnBestRow : OpenClaim := { program := "ytlcanbihlfncoaa", sum := "9c273cc3cb2c0901a04debeba9cb677c50cad37daa779424fd16864eeafe0df9", func := "loop.example/g00344/laws.FnBest", spec := "fnBest", unfollowed := true, recurses := true, apart := false }
def FnBestSaid : Prop := fnBestRow.holds Try.pinned (OpenSpec.ofChange fnBestSpec)

/-- ITS FALSE NEIGHBOUR: 'it returns false'. Refute it at one input. -/
def fnBestWrong : ChangeSpec := { name := "fnBest", fn := fun _ => fun
  | [d1, d2] => { results := [.lit (.bool false)], args := [d1, d2] }
  | _ => none }
def FnBestWrongFalsely : Prop := fnBestRow.holds Try.pinned (OpenSpec.ofChange fnBestWrong)

/-- 'laws.FnOffers': WHATEVER THE INPUT: true; the input reads as it did. -/
def fnOffersSpec : ChangeSpec := { name := "fnOffers", fn := fun _ => fun
  | [d1, d2] => { results := [.lit (.bool true)], args := [d1, d2] }
  | _ => none }
def fnOffersRow : OpenClaim := { program := "ytlcanbihlfncoaa", sum := "9c273cc3cb2c0901a04debeba9cb677c50cad37daa779424fd16864eeafe0df9", func := "loop.example/g00344/laws.FnOffers", spec := "fnOffers", inPlace := ["slices.overlaps[loop.example/g00344/impl.Offer]"], unfollowed := true, recurses := true, apart := false }
def FnOffersSaid : Prop := fnOffersRow.holds Try.pinned (OpenSpec.ofChange fnOffersSpec)

/-- ITS FALSE NEIGHBOUR: 'it returns false'. Refute it at one input. -/
def fnOffersWrong : ChangeSpec := { name := "fnOffers", fn := fun _ => fun
  | [d1, d2] => { results := [.lit (.bool false)], args := [d1, d2] }
  | _ => none }
def FnOffersWrongFalsely : Prop := fnOffersRow.holds Try.pinned (OpenSpec.ofChange fnOffersWrong)

/- THE SECOND FORM. 'bulk': how many values and letters a reading holds, each counted each time it is reached (what is shared counts as often as it is met; a slice's spare places count too). A statement '..UptoSaid' is the law's where the arguments, and the package variables that the reading takes, are together of bulk at most 1048576: NARROWER than '..Said'. Prove '..Said' where nothing that the law and all that it calls make is longer than what came in: it says more and counts as full. Else prove '..UptoSaid'. A law counts once. -/
mutual
def uptoBulk {H : Type} : DataW H → Nat
  | .lit (.string bytes) => bytes.length + 1
  | .lit _ => 1
  | .nil => 1
  | .ptr d => uptoBulk d + 1
  | .slice elems spare => uptoBulkAll elems + uptoBulkAll spare + 1
  | .agg parts => uptoBulkAll parts + 1
  | .iface _ d => uptoBulk d + 1
  | .map entries => uptoBulkEntries entries + 1
  | .held _ => 1
def uptoBulkAll {H : Type} : List (DataW H) → Nat
  | [] => 0
  | d :: r => uptoBulk d + uptoBulkAll r
def uptoBulkEntries {H : Type} : List (Lit × DataW H) → Nat
  | [] => 0
  | x :: r => uptoBulkEntry x + uptoBulkEntries r
def uptoBulkEntry {H : Type} : Lit × DataW H → Nat
  | (.string bytes, d) => bytes.length + uptoBulk d + 1
  | (_, d) => uptoBulk d + 1
 end
def uptoSmall : (H : Type) → List (DataW H) → Bool := fun _ ds => decide (uptoBulkAll ds ≤ 1048576)
def OpenSpec.upto (s : _root_.Go.ChangeSpec) : _root_.Go.OpenSpec := { _root_.Go.OpenSpec.ofChange s with cond := some uptoSmall }

/-- 'laws.FnExactGoodOffers', WHERE WHAT IT READS IS OF BULK AT MOST 1048576: true; the input reads as it did. -/
def fnExactGoodOffersUptoRow : OpenClaim := { program := "ytlcanbihlfncoaa", sum := "9c273cc3cb2c0901a04debeba9cb677c50cad37daa779424fd16864eeafe0df9", func := "loop.example/g00344/laws.FnExactGoodOffers", spec := "fnExactGoodOffers", unfollowed := true, recurses := true, apart := false, narrowed := true }
def FnExactGoodOffersUptoSaid : Prop := fnExactGoodOffersUptoRow.holds Try.pinned (OpenSpec.upto fnExactGoodOffersSpec)

/-- 'laws.FnExactCompareOffers', WHERE WHAT IT READS IS OF BULK AT MOST 1048576: true; the input reads as it did. -/
def fnExactCompareOffersUptoRow : OpenClaim := { program := "ytlcanbihlfncoaa", sum := "9c273cc3cb2c0901a04debeba9cb677c50cad37daa779424fd16864eeafe0df9", func := "loop.example/g00344/laws.FnExactCompareOffers", spec := "fnExactCompareOffers", unfollowed := true, recurses := true, apart := false, narrowed := true }
def FnExactCompareOffersUptoSaid : Prop := fnExactCompareOffersUptoRow.holds Try.pinned (OpenSpec.upto fnExactCompareOffersSpec)

/-- 'laws.FnExactDropOffer', WHERE WHAT IT READS IS OF BULK AT MOST 1048576: true; the input reads as it did. -/
def fnExactDropOfferUptoRow : OpenClaim := { program := "ytlcanbihlfncoaa", sum := "9c273cc3cb2c0901a04debeba9cb677c50cad37daa779424fd16864eeafe0df9", func := "loop.example/g00344/laws.FnExactDropOffer", spec := "fnExactDropOffer", unfollowed := true, recurses := true, apart := false, narrowed := true }
def FnExactDropOfferUptoSaid : Prop := fnExactDropOfferUptoRow.holds Try.pinned (OpenSpec.upto fnExactDropOfferSpec)

/-- 'laws.FnExactAddOffer', WHERE WHAT IT READS IS OF BULK AT MOST 1048576: true; the input reads as it did. -/
def fnExactAddOfferUptoRow : OpenClaim := { program := "ytlcanbihlfncoaa", sum := "9c273cc3cb2c0901a04debeba9cb677c50cad37daa779424fd16864eeafe0df9", func := "loop.example/g00344/laws.FnExactAddOffer", spec := "fnExactAddOffer", inPlace := ["slices.overlaps[loop.example/g00344/impl.Offer]"], unfollowed := true, recurses := true, apart := false, narrowed := true }
def FnExactAddOfferUptoSaid : Prop := fnExactAddOfferUptoRow.holds Try.pinned (OpenSpec.upto fnExactAddOfferSpec)

/-- 'laws.FnExactBestOffer', WHERE WHAT IT READS IS OF BULK AT MOST 1048576: true; the input reads as it did. -/
def fnExactBestOfferUptoRow : OpenClaim := { program := "ytlcanbihlfncoaa", sum := "9c273cc3cb2c0901a04debeba9cb677c50cad37daa779424fd16864eeafe0df9", func := "loop.example/g00344/laws.FnExactBestOffer", spec := "fnExactBestOffer", unfollowed := true, recurses := true, apart := false, narrowed := true }
def FnExactBestOfferUptoSaid : Prop := fnExactBestOfferUptoRow.holds Try.pinned (OpenSpec.upto fnExactBestOfferSpec)

/-- 'laws.FnExactRankOffers', WHERE WHAT IT READS IS OF BULK AT MOST 1048576: true; the input reads as it did. -/
def fnExactRankOffersUptoRow : OpenClaim := { program := "ytlcanbihlfncoaa", sum := "9c273cc3cb2c0901a04debeba9cb677c50cad37daa779424fd16864eeafe0df9", func := "loop.example/g00344/laws.FnExactRankOffers", spec := "fnExactRankOffers", unfollowed := true, recurses := true, apart := false, narrowed := true }
def FnExactRankOffersUptoSaid : Prop := fnExactRankOffersUptoRow.holds Try.pinned (OpenSpec.upto fnExactRankOffersSpec)

/-- 'laws.FnExactBestBy', WHERE WHAT IT READS IS OF BULK AT MOST 1048576: true; the input reads as it did. -/
def fnExactBestByUptoRow : OpenClaim := { program := "ytlcanbihlfncoaa", sum := "9c273cc3cb2c0901a04debeba9cb677c50cad37daa779424fd16864eeafe0df9", func := "loop.example/g00344/laws.FnExactBestBy", spec := "fnExactBestBy", unfollowed := true, recurses := true, apart := false, narrowed := true }
def FnExactBestByUptoSaid : Prop := fnExactBestByUptoRow.holds Try.pinned (OpenSpec.upto fnExactBestBySpec)

/-- 'laws.FnBest', WHERE WHAT IT READS IS OF BULK AT MOST 1048576: true; the input reads as it did. -/
def fnBestUptoRow : OpenClaim := { program := "ytlcanbihlfncoaa", sum := "9c273cc3cb2c0901a04debeba9cb677c50cad37daa779424fd16864eeafe0df9", func := "loop.example/g00344/laws.FnBest", spec := "fnBest", unfollowed := true, recurses := true, apart := false, narrowed := true }
def FnBestUptoSaid : Prop := fnBestUptoRow.holds Try.pinned (OpenSpec.upto fnBestSpec)

/-- 'laws.FnOffers', WHERE WHAT IT READS IS OF BULK AT MOST 1048576: true; the input reads as it did. -/
def fnOffersUptoRow : OpenClaim := { program := "ytlcanbihlfncoaa", sum := "9c273cc3cb2c0901a04debeba9cb677c50cad37daa779424fd16864eeafe0df9", func := "loop.example/g00344/laws.FnOffers", spec := "fnOffers", inPlace := ["slices.overlaps[loop.example/g00344/impl.Offer]"], unfollowed := true, recurses := true, apart := false, narrowed := true }
def FnOffersUptoSaid : Prop := fnOffersUptoRow.holds Try.pinned (OpenSpec.upto fnOffersSpec)

end Rows
end Go.Proofs.Ytlcanbihlfncoaa
