/- The law FnExactTopicOk answers true of all texts. -/
import Derived.Test.YtfakbjogocegiaaDoorK
import Derived.Test.YtfakbjogocegiaaDoorK
import Derived.Test.YtfakbjogocegiaaDoorPx0
import Derived.Test.YtfakbjogocegiaaDoorPx6
import Derived.Test.YtfakbjogocegiaaDoorT2
import Derived.Test.YtfakbjogocegiaaDoorK
import Derived.Test.YtfakbjogocegiaaDoorT2
namespace Go.Proofs.YtfakbjogocegiaaDoor.Pure
open Go.RowKit Go.Proofs.YtfakbjogocegiaaDoor.X Go.Proofs.YtfakbjogocegiaaDoor.P Go.Proofs.YtfakbjogocegiaaDoorW.PrintWords Go.Proofs.YtfakbjogocegiaaDoorW.PrintLast Go.Proofs.YtfakbjogocegiaaDoor.K
theorem FnExactTopicOk : laws_FnExactTopicOk.Pure := by
  intro s hs
  refine Ev.rounds ?_
  unfold laws_FnExactTopicOk.f
  refine ev_ite (fun _ => Ev.now _) (fun h => ?_)
  exact Ev.bind (specTopicOk_ev s (by omega)) (ev_b (implTopicOk_eq s (by omega)) (ev_neg (by simp) (Ev.now _)))
end Go.Proofs.YtfakbjogocegiaaDoor.Pure
