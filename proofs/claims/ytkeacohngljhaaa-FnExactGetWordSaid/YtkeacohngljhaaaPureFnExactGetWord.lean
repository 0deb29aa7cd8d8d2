/- The law FnExactGetWord answers true of all bytes and every place: it has no condition but the length that a list may have. -/
import Derived.Test.YtkeacohngljhaaaA
namespace Go.Proofs.Ytkeacohngljhaaa.Pure
open Go.RowKit Go.Proofs.Ytkeacohngljhaaa.P Go.Proofs.YtkeacohngljhaaaW.PrintWords Go.Proofs.YtkeacohngljhaaaW.PrintLast Go.Proofs.Ytkeacohngljhaaa.K
theorem FnExactGetWord : laws_FnExactGetWord.Pure := by
  intro l a _ _ hb ha
  refine Ev.rounds ?_
  unfold laws_FnExactGetWord.f
  refine ev_ite (fun _ => Ev.now _) (fun h => ?_)
  have hB : Bytes l := fun x hx => wf8 (hb x hx)
  refine Ev.bind (toByteS_ev l (by omega)) (ev_b (specGetWord_eq l a hB (by omega)) (Ev.bind (toByteS_ev l (by omega)) (ev_b (implGetWord_eq l a hB (by omega)) (ev_pos rfl (ev_pos rfl ?_)))))
  refine Ev.step (fun k => by rw [laws_FnExactGetWord.j0]) ?_
  exact ev_neg (by simp) (Ev.bind (toByteS_ev l (by omega)) (Ev.bind (eqByteS_ev l l (by omega)) (ev_pos (by simp) (Ev.now _))))
end Go.Proofs.Ytkeacohngljhaaa.Pure
