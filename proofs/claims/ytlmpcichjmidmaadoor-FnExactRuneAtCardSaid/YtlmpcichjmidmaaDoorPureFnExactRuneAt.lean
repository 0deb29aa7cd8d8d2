/- The law FnExactRuneAt answers true of all that it is asked of. -/
import Derived.Test.YtlmpcichjmidmaaDoorK
import Derived.Test.YtlmpcichjmidmaaDoorA1
import Derived.Test.YtlmpcichjmidmaaDoorA7
import Derived.Test.YtlmpcichjmidmaaDoorB1
import Derived.Test.YtlmpcichjmidmaaDoorB2
import Derived.Test.YtlmpcichjmidmaaDoorK
import Derived.Test.YtlmpcichjmidmaaDoorPx0
import Derived.Test.YtlmpcichjmidmaaDoorPx6
namespace Go.Proofs.YtlmpcichjmidmaaDoor.Pure
open Go.RowKit Go.Proofs.YtlmpcichjmidmaaDoor.X Go.Proofs.YtlmpcichjmidmaaDoor.P Go.Proofs.YtlmpcichjmidmaaDoorW.PrintWords Go.Proofs.YtlmpcichjmidmaaDoorW.PrintLast Go.Proofs.YtlmpcichjmidmaaDoor.K
theorem FnExactRuneAt : laws_FnExactRuneAt.Pure := by
  intro l a _ _ hb ha
  refine Ev.rounds ?_
  unfold laws_FnExactRuneAt.f
  refine ev_ite (fun _ => Ev.now _) (fun h => ?_)
  have hB : Bytes l := fun x hx => wf8 (hb x hx)
  refine Ev.bind (toByteS_ev l (by omega)) (Ev.bind (specRuneAt_ev l a hB (by omega)) (Ev.bind (toByteS_ev l (by omega)) (Ev.bind (implRuneAt_ev l a hB (by omega)) ?_)))
  refine ev_pos rfl (ev_pos rfl ?_)
  refine Ev.step (fun k => by rw [laws_FnExactRuneAt.j0]) ?_
  refine ev_neg (by simp) (Ev.bind (toByteS_ev l (by omega)) (Ev.bind (eqByteS_ev l l (by omega)) (ev_pos (by simp) (Ev.now _))))
end Go.Proofs.YtlmpcichjmidmaaDoor.Pure
