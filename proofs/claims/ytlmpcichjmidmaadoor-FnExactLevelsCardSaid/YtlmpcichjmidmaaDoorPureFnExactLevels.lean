/- The law FnExactLevels answers true of all texts. -/
import Derived.Test.YtlmpcichjmidmaaDoorK
import Derived.Test.YtlmpcichjmidmaaDoorC1
import Derived.Test.YtlmpcichjmidmaaDoorC2
import Derived.Test.YtlmpcichjmidmaaDoorK
import Derived.Test.YtlmpcichjmidmaaDoorPx0
import Derived.Test.YtlmpcichjmidmaaDoorPx22
import Derived.Test.YtlmpcichjmidmaaDoorX6
namespace Go.Proofs.YtlmpcichjmidmaaDoor.Pure
open Go.RowKit Go.Proofs.YtlmpcichjmidmaaDoor.X Go.Proofs.YtlmpcichjmidmaaDoor.P Go.Proofs.YtlmpcichjmidmaaDoorW.PrintWords Go.Proofs.YtlmpcichjmidmaaDoorW.PrintLast Go.Proofs.YtlmpcichjmidmaaDoor.K
theorem FnExactLevels : laws_FnExactLevels.Pure := by
  intro s hs
  refine Ev.rounds ?_
  unfold laws_FnExactLevels.f
  refine ev_ite (fun _ => Ev.now _) (fun h => ?_)
  have hl := pieces_length s
  have h1 := specLevels_ev s (by omega)
  have h2 := implLevels_eq s (by omega)
  revert h1 h2 hl
  generalize pieces s stroke = r
  intro hl h1 h2
  refine Ev.bind h1 (ev_b h2 (Ev.bind (eqStringS_ev r r (by omega) rfl) (ev_pos rfl ?_)))
  refine Ev.bind (markStringS_ev r 1 (by omega) (by omega) (by omega)) (Ev.bind (heldStringS_ev 1 r.length (by omega) (by omega) (by omega)) ?_)
  refine ev_neg (by omega) (ev_pos rfl (ev_b h2 (Ev.bind (eqStringS_ev r r (by omega) rfl) (ev_pos rfl ?_))))
  refine Ev.bind (heldStringS_ev 1 r.length (by omega) (by omega) (by omega)) ?_
  exact ev_neg (by omega) (ev_pos rfl (Ev.now _))
end Go.Proofs.YtlmpcichjmidmaaDoor.Pure
