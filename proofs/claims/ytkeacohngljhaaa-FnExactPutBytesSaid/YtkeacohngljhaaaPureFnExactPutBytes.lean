/- The law FnExactPutBytes answers true of all bytes: it has no condition but the length that a list may have. -/
import Derived.Test.YtkeacohngljhaaaK
import Derived.Test.YtkeacohngljhaaaA1
import Derived.Test.YtkeacohngljhaaaA5
import Derived.Test.YtkeacohngljhaaaA6
import Derived.Test.YtkeacohngljhaaaK
import Derived.Test.YtkeacohngljhaaaPx0
import Derived.Test.YtkeacohngljhaaaPx10
import Derived.Test.YtkeacohngljhaaaPx8
import Derived.Test.YtkeacohngljhaaaPx9
namespace Go.Proofs.Ytkeacohngljhaaa.Pure
open Go.RowKit Go.Proofs.Ytkeacohngljhaaa.P Go.Proofs.YtkeacohngljhaaaW.PrintWords Go.Proofs.YtkeacohngljhaaaW.PrintLast Go.Proofs.Ytkeacohngljhaaa.K
theorem FnExactPutBytes : laws_FnExactPutBytes.Pure := by
  intro l x _ _ hb _ _ hx
  refine Ev.rounds ?_
  unfold laws_FnExactPutBytes.f
  refine ev_ite (fun _ => Ev.now _) (fun h => ev_ite (fun _ => Ev.now _) (fun h' => ?_))
  obtain ⟨r, hr, h1, h2⟩ : ∃ r : List Int, r.length ≤ 2097160 ∧ spec_PutBytes.f l x = some r ∧ Ev (fun k => impl_PutBytes.f k l x) r :=
    ⟨_, by unfold putBytesP; split <;> first | omega | (simp [word2_length]; omega), specPutBytes_eq l x (by omega), putBytes_ev l x (by omega)⟩
  refine Ev.bind (toByteS_ev l (by omega)) (Ev.bind (toByteS_ev x (by omega)) (ev_b h1 (Ev.bind (toByteS_ev l (by omega)) (Ev.bind (toByteS_ev x (by omega)) (Ev.bind h2 ?_)))))
  refine Ev.bind (eqByteS_ev r r (by omega)) (ev_pos (by simp) (Ev.bind (toByteS_ev l (by omega)) (Ev.bind (eqByteS_ev l l (by omega)) (ev_pos (by simp) ?_))))
  refine Ev.bind (toByteS_ev x (by omega)) (Ev.bind (eqByteS_ev x x (by omega)) (ev_pos (by simp) ?_))
  refine Ev.bind (markByteS_ev l 1 (by omega) (by omega) (by omega)) (Ev.bind (markByteS_ev x _ (by first | omega | (simp only; omega)) (by first | omega | (simp only; omega)) (by omega)) ?_)
  refine ev_neg (by first | omega | (simp only; omega)) (Ev.bind (eqByteS_ev r r (by omega)) ?_)
  refine Ev.step (fun k => by rw [laws_FnExactPutBytes.j0]) ?_
  refine ev_neg (by simp) (Ev.bind (markByteS_ev r 1 (by omega) (by omega) (by omega)) (Ev.bind (heldByteS_ev 1 r.length (by omega) (by omega) (by omega)) ?_))
  refine ev_neg (by omega) (ev_pos rfl (Ev.bind (toByteS_ev l (by omega)) (Ev.bind (toByteS_ev x (by omega)) (Ev.bind h2 ?_))))
  refine Ev.bind (eqByteS_ev r r (by omega)) (ev_pos (by simp) (Ev.bind (heldByteS_ev 1 r.length (by omega) (by omega) (by omega)) ?_))
  exact ev_neg (by omega) (ev_pos rfl (Ev.now _))
end Go.Proofs.Ytkeacohngljhaaa.Pure
