/- What is drawn of bytes: a place in them that never leaves them, numbers below a bound, bytes. No program in sight. -/
import Derived.Test.YtlmpcichjmidmaaK
import Derived.Test.YtlmpcichjmidmaaA4
import Derived.Test.YtlmpcichjmidmaaA9
import Derived.Test.YtlmpcichjmidmaaK
import Derived.Test.YtlmpcichjmidmaaPx0
import Derived.Test.YtlmpcichjmidmaaPx3
import Derived.Laws.BitsLemmas
namespace Go.Proofs.Ytlmpcichjmidmaa.Pure
open Go.RowKit Go.Proofs.Ytlmpcichjmidmaa.P Go.Proofs.YtlmpcichjmidmaaW.PrintWords Go.Proofs.YtlmpcichjmidmaaW.PrintLast Go.Proofs.YtlmpcichjmidmaaW.PrintMore Go.Proofs.Ytlmpcichjmidmaa.K
set_option linter.unusedVariables false
set_option linter.unusedSimpArgs false
theorem or_comm64 (x y : Int) : Go.bits .or .i64 x y = Go.bits .or .i64 y x := by
  show IntKind.i64.wrap ((BitVec.ofInt 64 x ||| BitVec.ofInt 64 y).toNat : Int) = IntKind.i64.wrap ((BitVec.ofInt 64 y ||| BitVec.ofInt 64 x).toNat : Int)
  rw [BitVec.or_comm]
theorem or_low (i : Nat) (v c : Int) (hi : i ≤ 3) (h0 : 0 ≤ v) (h1 : v < 2 ^ (7 * i)) (hc : 0 ≤ c) (hc1 : c ≤ 255) : Go.bits .or .i64 v (shl .i64 (Go.bits .and .i64 c 127) (7 * (i : Int))) = v + c % 128 * 2 ^ (7 * i) := by
  rw [Go.Proofs.Ytlmpcichjmidmaa.K.i64_and127 hc (by omega), or_comm64, Int.add_comm]
  have e : shl .i64 (c % 128) (7 * (i : Int)) = c % 128 * 2 ^ (7 * i) := by
    unfold shl
    rw [IntKind.wrap_i64]
    have h : i = 0 ∨ i = 1 ∨ i = 2 ∨ i = 3 := by omega
    rcases h with rfl | rfl | rfl | rfl
    · rw [show (2 : Int) ^ min (7 * ((0 : Nat) : Int)).toNat IntKind.i64.bits = 1 from by decide, show (2 : Int) ^ (7 * 0) = 1 from by decide]; omega
    · rw [show (2 : Int) ^ min (7 * ((1 : Nat) : Int)).toNat IntKind.i64.bits = 128 from by decide, show (2 : Int) ^ (7 * 1) = 128 from by decide]; omega
    · rw [show (2 : Int) ^ min (7 * ((2 : Nat) : Int)).toNat IntKind.i64.bits = 16384 from by decide, show (2 : Int) ^ (7 * 2) = 16384 from by decide]; omega
    · rw [show (2 : Int) ^ min (7 * ((3 : Nat) : Int)).toNat IntKind.i64.bits = 2097152 from by decide, show (2 : Int) ^ (7 * 3) = 2097152 from by decide]; omega
  rw [e]
  have b : (2 : Int) ^ (7 * i) ≤ 2097152 := by
    have h : i = 0 ∨ i = 1 ∨ i = 2 ∨ i = 3 := by omega
    rcases h with rfl | rfl | rfl | rfl <;> decide
  have b0 : (0 : Int) < 2 ^ (7 * i) := Int.pow_pos (by decide)
  have m0 : 0 ≤ c % 128 * 2 ^ (7 * i) := Int.mul_nonneg (by omega) (by omega)
  have m1 : c % 128 * 2 ^ (7 * i) ≤ 127 * 2097152 := Int.mul_le_mul (by omega) b (by omega) (by omega)
  refine bits_join .i64 63 (by decide) wraps_i64 (7 * i) _ v m0 (Int.mul_emod_left ..) ?_ h0 h1 ?_
  · exact Int.lt_of_le_of_lt m1 (by decide)
  · exact Int.lt_of_lt_of_le h1 (Int.le_trans b (by decide))
/-- What a length's reader makes of the bytes that follow. -/
def gl (a : Int) : Nat → List Int → Int → Nat → Int × Int × Int
  | 0, _, _, _ => (0, 0, 2)
  | _ + 1, [], _, _ => (0, 0, 1)
  | d + 1, c :: t, v, i => if c > 127 then gl a d t (v + c % 128 * 2 ^ (7 * i)) (i + 1) else if 0 < i ∧ c = 0 then (0, 0, 2) else (v + c % 128 * 2 ^ (7 * i), a + (i : Int) + 1, 0)
theorem getLen_gl (l : List Int) (a : Int) (h0 : 0 ≤ a) (hb : Bytes l) (hl : l.length ≤ 1073741824) :
    ∀ (d i : Nat) (v : Int), i + d = 4 → a + (i : Int) ≤ l.length → 0 ≤ v → v < 2 ^ (7 * i) → Ev (fun k => impl_GetLen.l0 k l a v (i : Int)) (gl a d (l.drop (a.toNat + i)) v i)
  | 0, i, v, hd, ha, hv, hv1 => by
    refine Ev.step (fun k => by rw [impl_GetLen.l0]) ?_
    exact ev_neg (by omega) (Ev.now _)
  | d + 1, i, v, hd, ha, hv, hv1 => by
    refine Ev.step (fun k => by rw [impl_GetLen.l0]) ?_
    rw [w64 (x := a + (i : Int)) (by omega) (by omega), w64 (x := 7 * (i : Int)) (by omega) (by omega)]
    refine ev_pos (by omega) ?_
    by_cases h : a + (i : Int) = l.length
    · refine ev_pos h ?_
      rw [List.drop_of_length_le (by omega)]
      exact Ev.now _
    refine ev_neg h (ev_pos (by omega) (ev_pos (by omega) (ev_pos (by omega) ?_)))
    have hi : a.toNat + i < l.length := by omega
    have b1 := bytes_rd hb (a + (i : Int))
    have eg : rd l (a + (i : Int)) = l[a.toNat + i] := by
      rw [show a + (i : Int) = ((a.toNat + i : Nat) : Int) by omega, rd_get hi]
    rw [w64 (x := rd l (a + (i : Int))) (by omega) (by omega), or_low i v _ (by omega) hv hv1 b1.1 b1.2, w64 (x := (i : Int) + 1) (by omega) (by omega), w64 (x := a + (i : Int) + 1) (by omega) (by omega), eg]
    rw [eg] at b1
    rw [List.drop_eq_getElem_cons hi, gl]
    generalize l[a.toNat + i] = c at b1 ⊢
    by_cases q : c > 127
    · rw [if_pos q]
      refine ev_pos q ?_
      refine getLen_gl l a h0 hb hl d (i + 1) _ (by omega) (by omega) ?_ ?_
      · exact Int.add_nonneg hv (Int.mul_nonneg (by omega) (Int.le_of_lt (Int.pow_pos (by decide))))
      · rw [show 7 * (i + 1) = 7 * i + 7 by omega, Int.pow_add]
        have b0 : (0 : Int) < 2 ^ (7 * i) := Int.pow_pos (by decide)
        generalize (2 : Int) ^ (7 * i) = P at *
        have e : (2 : Int) ^ 7 = 128 := by decide
        rw [e]
        have : c % 128 * P ≤ 127 * P := Int.mul_le_mul_of_nonneg_right (by omega) (by omega)
        omega
    · rw [if_neg q]
      refine ev_neg q ?_
      obtain ⟨R, hR⟩ : ∃ R, R = (if 0 < i ∧ c = 0 then ((0 : Int), (0 : Int), (2 : Int)) else (v + c % 128 * 2 ^ (7 * i), a + (i : Int) + 1, 0)) := ⟨_, rfl⟩
      rw [← hR]
      by_cases z : (i : Int) > 0
      · refine ev_pos z ?_
        by_cases y : c = 0
        · rw [if_pos ⟨by omega, y⟩] at hR
          exact ev_pos y (ev_some hR.symm)
        · rw [if_neg (fun e => y e.2)] at hR
          exact ev_neg y (ev_some hR.symm)
      · rw [if_neg (fun e => z (by omega))] at hR
        exact ev_neg z (ev_some hR.symm)
theorem getLen_ev (l : List Int) (a : Int) (h0 : 0 ≤ a) (h1 : a ≤ l.length) (hb : Bytes l) (hl : l.length ≤ 1073741824) : Ev (fun k => impl_GetLen.f k l a) (gl a 4 (l.drop a.toNat) 0 0) := by
  unfold impl_GetLen.f
  refine ev_b (within_eq a 0 _) (ev_pos (by simp; omega) ?_)
  exact getLen_gl l a h0 hb hl 4 0 0 (by omega) (by omega) (by omega) (by decide)
theorem gl_lenBytes (a n : Int) (h0 : 0 ≤ n) (h1 : n ≤ 268435455) : gl a 4 (lenBytes n) 0 0 = (n, a + (lenBytes n).length, 0) ∧ (gl a 4 (lenBytes n).dropLast 0 0).2.2 = 1 := by
  unfold lenBytes
  split
  · have q : ¬ n > 127 := by omega
    simp only [gl, if_neg q, List.dropLast, List.length_cons, List.length_nil]
    simp
    omega
  split
  · have q1 : n % 128 + 128 > 127 := by omega
    have q2 : ¬ n / 128 > 127 := by omega
    have q3 : ¬ (0 < 0 + 1 ∧ n / 128 = 0) := by omega
    simp only [gl, if_pos q1, if_neg q2, if_neg q3, List.dropLast, List.length_cons, List.length_nil]
    simp
    omega
  split
  · have q1 : n % 128 + 128 > 127 := by omega
    have q2 : n / 128 % 128 + 128 > 127 := by omega
    have q3 : ¬ n / 16384 > 127 := by omega
    have q4 : ¬ (0 < 0 + 1 + 1 ∧ n / 16384 = 0) := by omega
    simp only [gl, if_pos q1, if_pos q2, if_neg q3, if_neg q4, List.dropLast, List.length_cons, List.length_nil]
    simp
    omega
  · have q1 : n % 128 + 128 > 127 := by omega
    have q2 : n / 128 % 128 + 128 > 127 := by omega
    have q3 : n / 16384 % 128 + 128 > 127 := by omega
    have q4 : ¬ n / 2097152 > 127 := by omega
    have q5 : ¬ (0 < 0 + 1 + 1 + 1 ∧ n / 2097152 = 0) := by omega
    simp only [gl, if_pos q1, if_pos q2, if_pos q3, if_neg q4, if_neg q5, List.dropLast, List.length_cons, List.length_nil]
    simp
    omega
end Go.Proofs.Ytlmpcichjmidmaa.Pure
