/- The law FnLensRead answers true of all bytes. -/
import Derived.Test.YtlmpcichjmidmaaK
import Derived.Test.YtlmpcichjmidmaaA10
import Derived.Test.YtlmpcichjmidmaaA4
import Derived.Test.YtlmpcichjmidmaaA9
import Derived.Test.YtlmpcichjmidmaaD2
import Derived.Test.YtlmpcichjmidmaaD3
import Derived.Test.YtlmpcichjmidmaaK
import Derived.Test.YtlmpcichjmidmaaPx0
import Derived.Test.YtlmpcichjmidmaaPx3
import Derived.Test.YtlmpcichjmidmaaPx8
namespace Go.Proofs.Ytlmpcichjmidmaa.Pure
open Go.RowKit Go.Proofs.Ytlmpcichjmidmaa.P Go.Proofs.YtlmpcichjmidmaaW.PrintWords Go.Proofs.YtlmpcichjmidmaaW.PrintLast Go.Proofs.Ytlmpcichjmidmaa.K
theorem FnLensRead : laws_FnLensRead.Pure := by
  intro l _ _ hb
  refine Ev.rounds ?_
  unfold laws_FnLensRead.f
  refine big_ev l _ (fun hl => ?_) (ev_pos rfl (Ev.now _))
  refine ev_neg (by simp) ?_
  obtain ⟨x, p, hx, hxb, hxl⟩ := drawGetLen_ev l hl
  obtain ⟨r, h1, h2⟩ := getLen_same x p hxb (by omega)
  refine Ev.bind hx (Ev.bind h2 (Ev.bind h1 (ev_pos rfl (ev_pos rfl ?_))))
  refine Ev.step (fun k => by rw [laws_FnLensRead.j0]) ?_
  refine ev_neg (by simp) ?_
  by_cases q : r.2.2 = 0
  · refine ev_pos q ?_
    by_cases hr : 0 ≤ p ∧ p ≤ (x.length : Int)
    · have e := ev_det h2 (getLen_ev x p hr.1 hr.2 hxb (by omega))
      obtain ⟨v, z, c⟩ := r
      obtain rfl : c = 0 := q
      obtain ⟨m, he, hm, ht, hv0, hv1⟩ := gl_bytes p v z (x.drop p.toNat) (fun y hy => hxb y (List.mem_of_mem_drop hy)) e.symm
      rw [List.length_drop] at hm
      have hput : putLenP [] v = lenBytes v := by
        unfold putLenP
        rw [if_pos ⟨hv0, hv1⟩, List.nil_append]
      refine Ev.bind (putLen_ev [] v (by simp)) (ev_pos hr.1 (ev_pos (by show p ≤ z; omega) (ev_pos (by show z ≤ (x.length : Int); omega) (ev_b (same_eq _ _ ?_) (Ev.now _)))))
      rw [hput, ht, List.drop_take, show z.toNat - p.toNat = m by omega]
    · exfalso
      have h3 : Ev (fun k => impl_GetLen.f k x p) (0, 0, 2) := by
        unfold impl_GetLen.f
        exact ev_b (within_eq p 0 _) (ev_neg (by simpa using hr) (Ev.now _))
      have e := ev_det h2 h3
      rw [e] at q
      exact absurd q (by decide)
  · exact ev_neg q (Ev.now _)
end Go.Proofs.Ytlmpcichjmidmaa.Pure
