/- What is drawn of bytes: a place in them that never leaves them, numbers below a bound, bytes. No program in sight. -/
import Derived.Test.YtlmpcichjmidmaaK
import Derived.Test.YtlmpcichjmidmaaA9
import Derived.Test.YtlmpcichjmidmaaD1
import Derived.Test.YtlmpcichjmidmaaD2
import Derived.Test.YtlmpcichjmidmaaK
import Derived.Test.YtlmpcichjmidmaaPx0
import Derived.Test.YtlmpcichjmidmaaPx1
import Derived.Test.YtlmpcichjmidmaaPx3
import Derived.Test.YtlmpcichjmidmaaPx6
import Derived.Laws.BitsLemmas
namespace Go.Proofs.Ytlmpcichjmidmaa.Pure
open Go.RowKit Go.Proofs.Ytlmpcichjmidmaa.P Go.Proofs.YtlmpcichjmidmaaW.PrintWords Go.Proofs.YtlmpcichjmidmaaW.PrintLast Go.Proofs.YtlmpcichjmidmaaW.PrintMore Go.Proofs.Ytlmpcichjmidmaa.K
set_option linter.unusedVariables false
set_option linter.unusedSimpArgs false
theorem gl_bytes (a v e : Int) (r : List Int) (hb : Bytes r) (h : gl a 4 r 0 0 = (v, e, 0)) : ∃ m : Nat, e = a + (m : Int) ∧ m ≤ r.length ∧ lenBytes v = r.take m ∧ 0 ≤ v ∧ v ≤ 268435455 := by
  have p0 : (2 : Int) ^ (7 * 0) = 1 := by decide
  have p1 : (2 : Int) ^ (7 * (0 + 1)) = 128 := by decide
  have p2 : (2 : Int) ^ (7 * (0 + 1 + 1)) = 16384 := by decide
  have p3 : (2 : Int) ^ (7 * (0 + 1 + 1 + 1)) = 2097152 := by decide
  unfold lenBytes
  rcases r with _ | ⟨c0, r⟩
  · simp [gl] at h
  have b0 := hb c0 (by simp)
  rw [gl, p0] at h
  by_cases q0 : c0 > 127
  · rw [if_pos q0] at h
    rcases r with _ | ⟨c1, r⟩
    · simp [gl] at h
    have b1 := hb c1 (by simp)
    rw [gl, p1] at h
    by_cases q1 : c1 > 127
    · rw [if_pos q1] at h
      rcases r with _ | ⟨c2, r⟩
      · simp [gl] at h
      have b2 := hb c2 (by simp)
      rw [gl, p2] at h
      by_cases q2 : c2 > 127
      · rw [if_pos q2] at h
        rcases r with _ | ⟨c3, r⟩
        · simp [gl] at h
        have b3 := hb c3 (by simp)
        rw [gl, p3] at h
        by_cases q3 : c3 > 127
        · rw [if_pos q3] at h
          simp [gl] at h
        · rw [if_neg q3] at h
          by_cases z : 0 < 0 + 1 + 1 + 1 ∧ c3 = 0
          · rw [if_pos z] at h
            simp at h
          rw [if_neg z] at h
          simp only [Prod.mk.injEq] at h
          obtain ⟨hv, he, _⟩ := h
          rw [if_neg (by omega), if_neg (by omega), if_neg (by omega)]
          refine ⟨4, by omega, by simp, ?_, by omega, by omega⟩
          simp only [List.take_succ_cons, List.take_zero, List.cons.injEq, and_true]
          omega
      · rw [if_neg q2] at h
        by_cases z : 0 < 0 + 1 + 1 ∧ c2 = 0
        · rw [if_pos z] at h
          simp at h
        rw [if_neg z] at h
        simp only [Prod.mk.injEq] at h
        obtain ⟨hv, he, _⟩ := h
        rw [if_neg (by omega), if_neg (by omega), if_pos (by omega)]
        refine ⟨3, by omega, by simp, ?_, by omega, by omega⟩
        simp only [List.take_succ_cons, List.take_zero, List.cons.injEq, and_true]
        omega
    · rw [if_neg q1] at h
      by_cases z : 0 < 0 + 1 ∧ c1 = 0
      · rw [if_pos z] at h
        simp at h
      rw [if_neg z] at h
      simp only [Prod.mk.injEq] at h
      obtain ⟨hv, he, _⟩ := h
      rw [if_neg (by omega), if_pos (by omega)]
      refine ⟨2, by omega, by simp, ?_, by omega, by omega⟩
      simp only [List.take_succ_cons, List.take_zero, List.cons.injEq, and_true]
      omega
  · rw [if_neg q0, if_neg (by omega)] at h
    simp only [Prod.mk.injEq] at h
    obtain ⟨hv, he, _⟩ := h
    rw [if_pos (by omega)]
    refine ⟨1, by omega, by simp, ?_, by omega, by omega⟩
    simp only [List.take_succ_cons, List.take_zero, List.cons.injEq, and_true]
    omega
theorem lenBytes_bytes (n : Int) (h0 : 0 ≤ n) (h1 : n ≤ 268435455) : Bytes (lenBytes n) := by
  intro x hx
  unfold lenBytes at hx
  split at hx
  · simp only [List.mem_cons, List.not_mem_nil, or_false] at hx
    omega
  split at hx
  · simp only [List.mem_cons, List.not_mem_nil, or_false] at hx
    omega
  split at hx
  · simp only [List.mem_cons, List.not_mem_nil, or_false] at hx
    omega
  · simp only [List.mem_cons, List.not_mem_nil, or_false] at hx
    omega
theorem putLenP_bytes (b : List Int) (n : Int) (hb : Bytes b) : Bytes (putLenP b n) ∧ (putLenP b n).length ≤ b.length + 4 := by
  unfold putLenP
  split
  · rename_i h
    refine ⟨fun x hx => ?_, ?_⟩
    · rcases List.mem_append.1 hx with q | q
      · exact hb x q
      · exact lenBytes_bytes n h.1 h.2 x q
    · have := (lenBytes_length n).2
      rw [List.length_append]
      omega
  · exact ⟨hb, by omega⟩
theorem drawGetLen_ev (l : List Int) (hl : l.length ≤ 1048576) : ∃ x p, Ev (fun k => spec_DrawGetLen.f k l) (x, p) ∧ Bytes x ∧ x.length ≤ 100 := by
  unfold spec_DrawGetLen.f
  obtain ⟨c0, h0⟩ := l1New_ev l hl
  obtain ⟨n, a1, c1, h1, hn0, hn1, hp1⟩ := l1Below_eq l 0 c0 3 ⟨by omega, by omega, hl⟩
  have hn2 := hn1 (by omega)
  obtain ⟨b, a2, c2, h2, hbl, hbb, hp2⟩ := l1Bytes_ev l a1 c1 n hp1 hn0 (by omega)
  obtain ⟨o, a3, c3, h3, hp3⟩ := l1Once_eq l a2 c2 4 hp2
  cases o with
  | true =>
    obtain ⟨n4, a4, c4, h4, hn40, hn41, hp4⟩ := l1Below_eq l a3 c3 6 hp3
    have hn42 := hn41 (by omega)
    obtain ⟨b5, a5, c5, h5, hbl5, hbb5, hp5⟩ := l1Bytes_ev l a4 c4 n4 hp4 hn40 (by omega)
    obtain ⟨n6, a6, c6, h6, _, _, hp6⟩ := l1Below_eq l a5 c5 7 hp5
    refine ⟨b5, wrap64 (n6 - 1), Ev.bind h0 (ev_b h1 (Ev.bind h2 (ev_b h3 ?_))), hbb5, by omega⟩
    refine ev_pos rfl (ev_b h4 (Ev.bind h5 (ev_b h6 (Ev.now _))))
  | false =>
    obtain ⟨n4, a4, c4, h4, _, _, hp4⟩ := l2Num_eq l a3 c3 hp3
    have h5 := specPutLen_ev b n4 (by omega)
    have hq := putLenP_bytes b n4 hbb
    obtain ⟨b6, a6, c6, h6, hbb6, hbl6, hp6⟩ := l1Bend_eq l a4 c4 (putLenP b n4) hp4 hq.1 (by omega)
    refine ⟨b6, (b.length : Int), Ev.bind h0 (ev_b h1 (Ev.bind h2 (ev_b h3 ?_))), hbb6, by omega⟩
    refine ev_neg (by simp) (ev_b h4 (Ev.bind h5 (ev_b h6 (Ev.now _))))
theorem same_eq (a b : List Int) (h : a = b) : laws_same.f a b = some true := by
  subst h
  unfold laws_same.f
  rw [beq_self_eq_true]
theorem big_ev (l : List Int) (f : Nat → Bool → Option Bool) (hs : l.length ≤ 1048576 → Ev (fun k => f k false) true) (hb : Ev (fun k => f k true) true) : Ev (fun k => (laws_big.f l).bind (f k)) true := by
  unfold laws_big.f
  by_cases q : (l.length : Int) > 1048576
  · refine ev_b (a := true) (by rw [decide_eq_true q]) hb
  · refine ev_b (a := false) (by rw [decide_eq_false q]) (hs (by omega))
end Go.Proofs.Ytlmpcichjmidmaa.Pure
