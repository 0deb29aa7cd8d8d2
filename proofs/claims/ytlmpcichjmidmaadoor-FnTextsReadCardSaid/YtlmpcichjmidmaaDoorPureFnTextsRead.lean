/- The law FnTextsRead answers true of all bytes. -/
import Derived.Test.YtlmpcichjmidmaaDoorMgTR
import Derived.Test.YtlmpcichjmidmaaDoorPx0
import Derived.Test.YtlmpcichjmidmaaDoorPx14
import Derived.Test.YtlmpcichjmidmaaDoorPx18
import Derived.Test.YtlmpcichjmidmaaDoorX5
namespace Go.Proofs.YtlmpcichjmidmaaDoor.Pure
open Go.RowKit Go.Proofs.YtlmpcichjmidmaaDoor.X Go.Proofs.YtlmpcichjmidmaaDoor.P Go.Proofs.YtlmpcichjmidmaaDoorW.PrintWords Go.Proofs.YtlmpcichjmidmaaDoorW.PrintLast Go.Proofs.YtlmpcichjmidmaaDoor.K
set_option linter.unusedVariables false
theorem getTextP_back (x : List Int) (p : Int) (hb : Bytes x) (h : (getTextP x p).2.2 = true) :
    0 ≤ p ∧ p ≤ (getTextP x p).2.1 ∧ (getTextP x p).2.1 ≤ x.length ∧ putTextP [] (getTextP x p).1 = (x.take ((getTextP x p).2.1).toNat).drop p.toNat := by
  unfold getTextP at h ⊢
  by_cases c : (getBytesP x p).2.2 = true ∧ textOkP (strOfNums (getBytesP x p).1) = true
  · rw [if_pos c] at h ⊢
    obtain ⟨h0, h1, h2, h3, h4⟩ := getBytesP_back x p hb c.1
    refine ⟨h0, h1, h2, ?_⟩
    dsimp only
    unfold putTextP
    rw [if_pos c.2, List.nil_append, strOfNums_size, bytesOf_strOfNums (getBytesP_bytes x p hb)]
    exact h4
  · rw [if_neg c] at h
    cases h
theorem getTextP_size (x : List Int) (p : Int) : (getTextP x p).1.size ≤ x.length := by
  unfold getTextP
  split
  · show (strOfNums (getBytesP x p).1).size ≤ _
    rw [strOfNums_size]
    exact getBytesP_len x p
  · exact Nat.zero_le _
theorem FnTextsRead : laws_FnTextsRead.Pure := by
  intro l _ _ hb
  refine Ev.rounds ?_
  unfold laws_FnTextsRead.f
  refine big_ev l _ (fun hl => ?_) (ev_pos rfl (Ev.now _))
  refine ev_neg (by simp) ?_
  obtain ⟨x, p, hx, hxb, hxl⟩ := drawGetText_ev l hl
  obtain ⟨y, q, hy, hyb, hyl⟩ := drawGetBytes_ev l hl
  refine Ev.bind hx (Ev.bind (getText_ev x p hxb (by omega)) (Ev.bind (specGetText_ev x p hxb (by omega)) (Ev.bind hy (Ev.bind (getBytes_ev y q hyb (by omega)) (ev_b (specGetBytes_eq y q hyb (by omega)) ?_)))))
  refine ev_pos rfl (ev_pos rfl (ev_neg (by simp) ?_))
  refine Ev.step (fun k => by rw [laws_FnTextsRead.j0]) ?_
  refine ev_neg (by simp) ?_
  have hB : (getBytesP y q).2.2 = true → Ev (fun k => impl_PutBytes.f k ([] : List Int) (getBytesP y q).1) ((y.take ((getBytesP y q).2.1).toNat).drop q.toNat) := by
    intro hc
    obtain ⟨h0, h1, h2, h3, h4⟩ := getBytesP_back y q hyb hc
    refine ev_to (putBytes_ev [] (getBytesP y q).1 (by simp)) ?_
    unfold putBytesP
    rw [if_pos h3, List.nil_append]
    exact h4
  by_cases hc : (getTextP x p).2.2 = true
  · obtain ⟨h0, h1, h2, h3⟩ := getTextP_back x p hxb hc
    have hz := getTextP_size x p
    refine ev_pos hc (Ev.bind (ev_to (putText_ev [] (getTextP x p).1 (by simp) (by omega)) h3) (ev_pos h0 (ev_pos h1 (ev_pos h2 (ev_b (same_eq _ _ rfl) (ev_pos rfl ?_))))))
    by_cases hd : (getBytesP y q).2.2 = true
    · obtain ⟨g0, g1, g2, g3, g4⟩ := getBytesP_back y q hyb hd
      exact ev_pos hd (Ev.bind (hB hd) (ev_pos g0 (ev_pos g1 (ev_pos g2 (ev_b (same_eq _ _ rfl) (Ev.now _))))))
    · exact ev_neg hd (Ev.now _)
  · refine ev_neg hc ?_
    by_cases hd : (getBytesP y q).2.2 = true
    · obtain ⟨g0, g1, g2, g3, g4⟩ := getBytesP_back y q hyb hd
      exact ev_pos hd (Ev.bind (hB hd) (ev_pos g0 (ev_pos g1 (ev_pos g2 (ev_b (same_eq _ _ rfl) (Ev.now _))))))
    · exact ev_neg hd (Ev.now _)
end Go.Proofs.YtlmpcichjmidmaaDoor.Pure
