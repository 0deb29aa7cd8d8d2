/- The law FnExactLenSize answers true of every number: it has no condition. -/
import Derived.Test.YtkeacohngljhaaaA
namespace Go.Proofs.Ytkeacohngljhaaa.Pure
open Go.RowKit Go.Proofs.Ytkeacohngljhaaa.P Go.Proofs.YtkeacohngljhaaaW.PrintWords Go.Proofs.YtkeacohngljhaaaW.PrintLast Go.Proofs.Ytkeacohngljhaaa.K
theorem FnExactLenSize : laws_FnExactLenSize.Pure := by
  intro n hn
  refine Ev.rounds ?_
  unfold laws_FnExactLenSize.f
  exact Ev.bind (specLenSize_ev n) (Ev.bind (lenSize_ev n) (ev_pos rfl (Ev.now _)))
end Go.Proofs.Ytkeacohngljhaaa.Pure
