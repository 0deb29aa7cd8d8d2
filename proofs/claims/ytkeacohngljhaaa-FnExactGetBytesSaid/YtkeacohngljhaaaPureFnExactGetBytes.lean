/- The law FnExactGetBytes answers true of all bytes and every place: it has no condition but the length that a list may have. -/
import Derived.Test.YtkeacohngljhaaaK
import Derived.Test.YtkeacohngljhaaaA1
import Derived.Test.YtkeacohngljhaaaA7
import Derived.Test.YtkeacohngljhaaaA8
import Derived.Test.YtkeacohngljhaaaK
import Derived.Test.YtkeacohngljhaaaPx0
import Derived.Test.YtkeacohngljhaaaPx15
import Derived.Test.YtkeacohngljhaaaPx16
namespace Go.Proofs.Ytkeacohngljhaaa.Pure
open Go.RowKit Go.Proofs.Ytkeacohngljhaaa.P Go.Proofs.YtkeacohngljhaaaW.PrintWords Go.Proofs.YtkeacohngljhaaaW.PrintLast Go.Proofs.Ytkeacohngljhaaa.K
theorem FnExactGetBytes : laws_FnExactGetBytes.Pure := by
  intro l a _ _ hb ha
  refine Ev.rounds ?_
  unfold laws_FnExactGetBytes.f
  refine ev_ite (fun _ => Ev.now _) (fun h => ?_)
  have hB : Bytes l := fun x hx => wf8 (hb x hx)
  obtain ⟨r, hr, h1, h2⟩ : ∃ r : List Int × Int × Bool, r.1.length ≤ 1048578 ∧ spec_GetBytes.f l a = some r ∧ Ev (fun k => impl_GetBytes.f k l a) r :=
    ⟨_, by unfold getBytesP; split <;> simp; omega, specGetBytes_eq l a hB (by omega), getBytes_ev l a hB (by omega)⟩
  refine Ev.bind (toByteS_ev l (by omega)) (ev_b h1 (Ev.bind (toByteS_ev l (by omega)) (Ev.bind h2 ?_)))
  refine Ev.bind (eqByteS_ev r.1 r.1 (by omega)) (ev_pos (by simp) (ev_pos rfl ?_))
  refine Ev.step (fun k => by rw [laws_FnExactGetBytes.j0]) ?_
  refine ev_neg (by simp) (Ev.bind (toByteS_ev l (by omega)) (Ev.bind (eqByteS_ev l l (by omega)) (ev_pos (by simp) ?_)))
  refine Ev.bind (markByteS_ev l 1 (by omega) (by omega) (by omega)) ?_
  refine ev_neg (by simp only; omega) (Ev.bind (eqByteS_ev r.1 r.1 (by omega)) (ev_pos (by simp) (ev_pos rfl ?_)))
  refine Ev.step (fun k => by rw [laws_FnExactGetBytes.j1]) ?_
  refine ev_neg (by simp) (Ev.bind (markByteS_ev r.1 1 (by omega) (by omega) (by omega)) (Ev.bind (heldByteS_ev 1 r.1.length (by omega) (by omega) (by omega)) ?_))
  refine ev_neg (by omega) (ev_pos rfl (Ev.bind (toByteS_ev l (by omega)) (Ev.bind h2 ?_)))
  refine Ev.bind (eqByteS_ev r.1 r.1 (by omega)) (ev_pos (by simp) (ev_pos rfl ?_))
  refine Ev.step (fun k => by rw [laws_FnExactGetBytes.j2]) ?_
  refine ev_neg (by simp) (Ev.bind (heldByteS_ev 1 r.1.length (by omega) (by omega) (by omega)) ?_)
  exact ev_neg (by omega) (ev_pos rfl (Ev.now _))
end Go.Proofs.Ytkeacohngljhaaa.Pure
