/- The law FnExactPutLen answers true of all bytes and every number: it has no condition but the length that a list may have. -/
import Derived.Test.YtkeacohngljhaaaA
namespace Go.Proofs.Ytkeacohngljhaaa.Pure
open Go.RowKit Go.Proofs.Ytkeacohngljhaaa.P Go.Proofs.YtkeacohngljhaaaW.PrintWords Go.Proofs.YtkeacohngljhaaaW.PrintLast Go.Proofs.Ytkeacohngljhaaa.K
theorem FnExactPutLen : laws_FnExactPutLen.Pure := by
  intro l n _ _ hb hn
  refine Ev.rounds ?_
  unfold laws_FnExactPutLen.f
  refine ev_ite (fun _ => Ev.now _) (fun h => ?_)
  obtain ⟨r, hr, h1, h2⟩ : ∃ r : List Int, r.length ≤ 1048580 ∧ Ev (fun k => spec_PutLen.f k l n) r ∧ Ev (fun k => impl_PutLen.f k l n) r :=
    ⟨_, by have := lenBytes_length n; unfold putLenP; split <;> simp <;> omega, specPutLen_ev l n (by omega), putLen_ev l n (by omega)⟩
  refine Ev.bind (toByteS_ev l (by omega)) (Ev.bind h1 (Ev.bind (toByteS_ev l (by omega)) (Ev.bind h2 ?_)))
  refine Ev.bind (eqByteS_ev r r (by omega)) (ev_pos (by simp) (Ev.bind (toByteS_ev l (by omega)) (Ev.bind (eqByteS_ev l l (by omega)) (ev_pos (by simp) ?_))))
  refine Ev.bind (markByteS_ev l 1 (by omega) (by omega) (by omega)) ?_
  refine ev_neg (by simp only; omega) (Ev.bind (eqByteS_ev r r (by omega)) ?_)
  refine Ev.step (fun k => by rw [laws_FnExactPutLen.j0]) ?_
  refine ev_neg (by simp) (Ev.bind (markByteS_ev r 1 (by omega) (by omega) (by omega)) (Ev.bind (heldByteS_ev 1 r.length (by omega) (by omega) (by omega)) ?_))
  refine ev_neg (by omega) (ev_pos rfl (Ev.bind (toByteS_ev l (by omega)) (Ev.bind h2 ?_)))
  refine Ev.bind (eqByteS_ev r r (by omega)) (ev_pos (by simp) (Ev.bind (heldByteS_ev 1 r.length (by omega) (by omega) (by omega)) ?_))
  exact ev_neg (by omega) (ev_pos rfl (Ev.now _))
end Go.Proofs.Ytkeacohngljhaaa.Pure
