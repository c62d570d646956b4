/- The program's NewSession returns what the reference's returns, for every hold: both answer the fresh session with that hold where it is in 3..90, and nothing otherwise. No condition. -/
import Derived.Test.YtcihklkihglmjaaPFnExactNewSessionx1
namespace Go.Proofs.Ytcihklkihglmjaa.Pure
open Go.RowKit Go.Proofs.Ytcihklkihglmjaa.PFnExactNewSession Go.Proofs.YtcihklkihglmjaaW.PrintWords Go.Proofs.YtcihklkihglmjaaW.PrintLast

theorem FnExactNewSession : laws_FnExactNewSession.Pure := by
  intro a0 _
  unfold laws_FnExactNewSession.f spec_NewSession.f impl_NewSession.f spec_l1In.f impl_within.f laws_eqSession.f
  by_cases h1 : a0 ≥ 3
  · by_cases h2 : a0 ≤ 90 <;> simp [h1, h2]
  · simp [h1]

end Go.Proofs.Ytcihklkihglmjaa.Pure
