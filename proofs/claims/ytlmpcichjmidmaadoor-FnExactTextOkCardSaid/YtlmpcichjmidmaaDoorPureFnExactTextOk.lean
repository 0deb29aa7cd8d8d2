/- The law FnExactTextOk answers true of all that it is asked of. -/
import Derived.Test.YtlmpcichjmidmaaDoorK
import Derived.Test.YtlmpcichjmidmaaDoorB3
import Derived.Test.YtlmpcichjmidmaaDoorK
import Derived.Test.YtlmpcichjmidmaaDoorPx0
import Derived.Test.YtlmpcichjmidmaaDoorPx4
namespace Go.Proofs.YtlmpcichjmidmaaDoor.Pure
open Go.RowKit Go.Proofs.YtlmpcichjmidmaaDoor.X Go.Proofs.YtlmpcichjmidmaaDoor.P Go.Proofs.YtlmpcichjmidmaaDoorW.PrintWords Go.Proofs.YtlmpcichjmidmaaDoorW.PrintLast Go.Proofs.YtlmpcichjmidmaaDoor.K
theorem FnExactTextOk : laws_FnExactTextOk.Pure := by
  intro s hs
  refine Ev.rounds ?_
  unfold laws_FnExactTextOk.f
  refine ev_ite (fun _ => Ev.now _) (fun h => ?_)
  exact Ev.bind (specTextOk_ev s) (ev_b (implTextOk_eq s hs) (ev_neg (by simp) (Ev.now _)))
end Go.Proofs.YtlmpcichjmidmaaDoor.Pure
