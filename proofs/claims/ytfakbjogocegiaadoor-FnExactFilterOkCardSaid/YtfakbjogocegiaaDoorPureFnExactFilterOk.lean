/- The law FnExactFilterOk answers true of all texts. -/
import Derived.Test.YtfakbjogocegiaaDoorK
import Derived.Test.YtfakbjogocegiaaDoorK
import Derived.Test.YtfakbjogocegiaaDoorPx0
import Derived.Test.YtfakbjogocegiaaDoorPx8
import Derived.Test.YtfakbjogocegiaaDoorT3
import Derived.Test.YtfakbjogocegiaaDoorK
import Derived.Test.YtfakbjogocegiaaDoorT3
namespace Go.Proofs.YtfakbjogocegiaaDoor.Pure
open Go.RowKit Go.Proofs.YtfakbjogocegiaaDoor.X Go.Proofs.YtfakbjogocegiaaDoor.P Go.Proofs.YtfakbjogocegiaaDoorW.PrintWords Go.Proofs.YtfakbjogocegiaaDoorW.PrintLast Go.Proofs.YtfakbjogocegiaaDoor.K
theorem FnExactFilterOk : laws_FnExactFilterOk.Pure := by
  intro s hs
  refine Ev.rounds ?_
  unfold laws_FnExactFilterOk.f
  refine ev_ite (fun _ => Ev.now _) (fun h => ?_)
  exact Ev.bind (specFilterOk_ev s (by omega)) (Ev.bind (implFilterOk_ev s (by omega)) (ev_neg (by simp) (Ev.now _)))
end Go.Proofs.YtfakbjogocegiaaDoor.Pure
