/- The law FnExactGetLen answers true of all bytes and every place: it has no condition but the length that a list may have. -/
import Derived.Test.YtkeacohngljhaaaA
namespace Go.Proofs.Ytkeacohngljhaaa.Pure
open Go.RowKit Go.Proofs.Ytkeacohngljhaaa.P Go.Proofs.YtkeacohngljhaaaW.PrintWords Go.Proofs.YtkeacohngljhaaaW.PrintLast Go.Proofs.Ytkeacohngljhaaa.K
theorem FnExactGetLen : laws_FnExactGetLen.Pure := by
  intro l a _ _ hb ha
  refine Ev.rounds ?_
  unfold laws_FnExactGetLen.f
  refine ev_ite (fun _ => Ev.now _) (fun h => ?_)
  have hB : Bytes l := fun x hx => wf8 (hb x hx)
  obtain ⟨r, k1, k2⟩ := getLen_same l a hB (by omega)
  refine Ev.bind (toByteS_ev l (by omega)) (Ev.bind k1 (Ev.bind (toByteS_ev l (by omega)) (Ev.bind k2 (ev_pos rfl (ev_pos rfl ?_)))))
  refine Ev.step (fun k => by rw [laws_FnExactGetLen.j0]) ?_
  exact ev_neg (by simp) (Ev.bind (toByteS_ev l (by omega)) (Ev.bind (eqByteS_ev l l (by omega)) (ev_pos (by simp) (Ev.now _))))
end Go.Proofs.Ytkeacohngljhaaa.Pure
