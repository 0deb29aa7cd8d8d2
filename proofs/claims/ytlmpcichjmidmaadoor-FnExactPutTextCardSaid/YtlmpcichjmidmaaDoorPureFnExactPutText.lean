/- The law FnExactPutText answers true of all that it is asked of. -/
import Derived.Test.YtlmpcichjmidmaaDoorK
import Derived.Test.YtlmpcichjmidmaaDoorA1
import Derived.Test.YtlmpcichjmidmaaDoorB4
import Derived.Test.YtlmpcichjmidmaaDoorK
import Derived.Test.YtlmpcichjmidmaaDoorPx0
import Derived.Test.YtlmpcichjmidmaaDoorPx7
import Derived.Test.YtlmpcichjmidmaaDoorPx9
import Derived.Test.YtlmpcichjmidmaaDoorX8
namespace Go.Proofs.YtlmpcichjmidmaaDoor.Pure
open Go.RowKit Go.Proofs.YtlmpcichjmidmaaDoor.X Go.Proofs.YtlmpcichjmidmaaDoor.P Go.Proofs.YtlmpcichjmidmaaDoorW.PrintWords Go.Proofs.YtlmpcichjmidmaaDoorW.PrintLast Go.Proofs.YtlmpcichjmidmaaDoor.K
theorem FnExactPutText : laws_FnExactPutText.Pure := by
  intro l s _ _ hb hs
  refine Ev.rounds ?_
  unfold laws_FnExactPutText.f
  refine ev_ite (fun _ => Ev.now _) (fun h => ev_ite (fun _ => Ev.now _) (fun h' => ?_))
  obtain ⟨r, hr, h1, h2⟩ : ∃ r : List Int, r.length ≤ 2097160 ∧ Ev (fun k => spec_PutText.f k l s) r ∧ Ev (fun k => impl_PutText.f k l s) r :=
    ⟨_, by have := putTextP_length l s; omega, specPutText_ev l s (by omega), putText_ev l s (by omega) hs⟩
  refine Ev.bind (toByteS_ev l (by omega)) (Ev.bind h1 (Ev.bind (toByteS_ev l (by omega)) (Ev.bind h2 ?_)))
  refine Ev.bind (eqByteS_ev r r (by omega)) (ev_pos (by simp) (Ev.bind (toByteS_ev l (by omega)) (Ev.bind (eqByteS_ev l l (by omega)) (ev_pos (by simp) ?_))))
  refine Ev.bind (markByteS_ev l 1 (by omega) (by omega) (by omega)) ?_
  refine ev_neg (by first | omega | (simp only; omega)) (Ev.bind (eqByteS_ev r r (by omega)) ?_)
  refine Ev.step (fun k => by rw [laws_FnExactPutText.j0]) ?_
  refine ev_neg (by simp) (Ev.bind (markByteS_ev r 1 (by omega) (by omega) (by omega)) (Ev.bind (heldByteS_ev 1 r.length (by omega) (by omega) (by omega)) ?_))
  refine ev_neg (by omega) (ev_pos rfl (Ev.bind (toByteS_ev l (by omega)) (Ev.bind h2 ?_)))
  refine Ev.bind (eqByteS_ev r r (by omega)) (ev_pos (by simp) (Ev.bind (heldByteS_ev 1 r.length (by omega) (by omega) (by omega)) ?_))
  exact ev_neg (by omega) (ev_pos rfl (Ev.now _))
end Go.Proofs.YtlmpcichjmidmaaDoor.Pure
