/- What the small functions of the laws and of the program come to: copies, comparisons, marks of bytes and numbers; joined; PutWord, GetWord, PutBytes, GetBytes, PutLen. No program in sight. -/
import Derived.Test.YtlmpcichjmidmaaK
import Derived.Test.YtlmpcichjmidmaaA4
import Derived.Test.YtlmpcichjmidmaaK
import Derived.Test.YtlmpcichjmidmaaPx0
import Derived.Test.YtlmpcichjmidmaaPx3
import Derived.Test.YtlmpcichjmidmaaPx7
namespace Go.Proofs.Ytlmpcichjmidmaa.Pure
open Go.RowKit Go.Proofs.Ytlmpcichjmidmaa.P Go.Proofs.YtlmpcichjmidmaaW.PrintWords Go.Proofs.YtlmpcichjmidmaaW.PrintLast Go.Proofs.Ytlmpcichjmidmaa.K
set_option linter.unusedVariables false
set_option linter.unusedSimpArgs false

/-- The lengths that the two loops read are the same. -/
theorem getLen_l (l : List Int) (a : Int) (h0 : 0 ≤ a) (h1 : a ≤ l.length) (hb : Bytes l) (hl : l.length ≤ 35184372088832) :
    ∀ (d i : Nat) (x : Int), i + d = 4 → a + (i : Int) ≤ l.length → ∃ r, Ev (fun k => spec_GetLen.l0 k l a x (i : Int)) r ∧ Ev (fun k => impl_GetLen.l0 k l a x (i : Int)) r
  | 0, i, x, hd, ha => by
    refine ⟨(0, 0, 2), Ev.step (fun k => ?_) (Ev.now _), Ev.step (fun k => ?_) (Ev.now _)⟩
    · simp only [spec_GetLen.l0]; rw [if_neg (by omega)]
    · simp only [impl_GetLen.l0]; rw [if_neg (by omega)]
  | d + 1, i, x, hd, ha => by
    have e1 : wrap64 (a + (i : Int)) = a + (i : Int) := w64 (by omega) (by omega)
    have e7 : wrap64 (7 * (i : Int)) = 7 * (i : Int) := w64 (by omega) (by omega)
    by_cases h : a + (i : Int) = l.length
    · refine ⟨(0, 0, 1), Ev.step (fun k => ?_) (Ev.now _), Ev.step (fun k => ?_) (Ev.now _)⟩
      · simp only [spec_GetLen.l0]; rw [if_pos (by omega), e1, if_pos (by omega)]
      · simp only [impl_GetLen.l0]; rw [if_pos (by omega), e1, if_pos (by omega)]
    have b1 := bytes_rd hb (a + (i : Int))
    have ec : wrap64 (rd l (a + (i : Int))) = rd l (a + (i : Int)) := w64 (by omega) (by omega)
    have ei : wrap64 ((i : Int) + 1) = ((i + 1 : Nat) : Int) := w64s (show i < 4 by omega) (by omega)
    by_cases hc : rd l (a + (i : Int)) < 128
    · by_cases hi : (i : Int) > 0
      · by_cases hz : rd l (a + (i : Int)) = 0
        · refine ⟨(0, 0, 2), Ev.step (fun k => ?_) (Ev.now _), Ev.step (fun k => ?_) (Ev.now _)⟩
          · simp only [spec_GetLen.l0]; rw [if_pos (by omega), e1, if_neg (by omega), if_pos (by omega), if_pos (by omega), e7, if_pos (by omega), ec, if_pos hc, if_pos hi, if_pos hz]
          · simp only [impl_GetLen.l0]; rw [if_pos (by omega), e1, if_neg (by omega), if_pos (by omega), if_pos (by omega), e7, if_pos (by omega), ec, if_neg (by omega), if_pos hi, if_pos hz]
        · refine ⟨(Go.bits .or .i64 x (shl .i64 (Go.bits .and .i64 (rd l (a + (i : Int))) 127) (7 * (i : Int))), wrap64 (a + (i : Int) + 1), 0), Ev.step (fun k => ?_) (Ev.now _), Ev.step (fun k => ?_) (Ev.now _)⟩
          · simp only [spec_GetLen.l0]; rw [if_pos (by omega), e1, if_neg (by omega), if_pos (by omega), if_pos (by omega), e7, if_pos (by omega), ec, if_pos hc, if_pos hi, if_neg hz]
          · simp only [impl_GetLen.l0]; rw [if_pos (by omega), e1, if_neg (by omega), if_pos (by omega), if_pos (by omega), e7, if_pos (by omega), ec, if_neg (by omega), if_pos hi, if_neg hz]
      · refine ⟨(Go.bits .or .i64 x (shl .i64 (Go.bits .and .i64 (rd l (a + (i : Int))) 127) (7 * (i : Int))), wrap64 (a + (i : Int) + 1), 0), Ev.step (fun k => ?_) (Ev.now _), Ev.step (fun k => ?_) (Ev.now _)⟩
        · simp only [spec_GetLen.l0]; rw [if_pos (by omega), e1, if_neg (by omega), if_pos (by omega), if_pos (by omega), e7, if_pos (by omega), ec, if_pos hc, if_neg hi]
        · simp only [impl_GetLen.l0]; rw [if_pos (by omega), e1, if_neg (by omega), if_pos (by omega), if_pos (by omega), e7, if_pos (by omega), ec, if_neg (by omega), if_neg hi]
    · obtain ⟨r, k1, k2⟩ := getLen_l l a h0 h1 hb hl d (i + 1) (Go.bits .or .i64 x (shl .i64 (Go.bits .and .i64 (rd l (a + (i : Int))) 127) (7 * (i : Int)))) (by omega) (by omega)
      refine ⟨r, Ev.step (fun k => ?_) k1, Ev.step (fun k => ?_) k2⟩
      · simp only [spec_GetLen.l0]; rw [if_pos (by omega), e1, if_neg (by omega), if_pos (by omega), if_pos (by omega), e7, if_pos (by omega), ec, if_neg hc, ei]
      · simp only [impl_GetLen.l0]; rw [if_pos (by omega), e1, if_neg (by omega), if_pos (by omega), if_pos (by omega), e7, if_pos (by omega), ec, if_pos (by omega), ei]
theorem getLen_same (l : List Int) (a : Int) (hb : Bytes l) (hl : l.length ≤ 35184372088832) : ∃ r, Ev (fun k => spec_GetLen.f k l a) r ∧ Ev (fun k => impl_GetLen.f k l a) r := by
  unfold spec_GetLen.f impl_GetLen.f
  by_cases h : 0 ≤ a ∧ a ≤ (l.length : Int)
  · obtain ⟨r, k1, k2⟩ := getLen_l l a h.1 h.2 hb hl 4 0 0 (by omega) (by omega)
    refine ⟨r, ev_neg (by omega) (Ev.step (fun k => ?_) k1), ev_b (within_eq a 0 _) (ev_pos (by simpa using h) k2)⟩
    simp only [spec_GetLen.j0]
    rw [if_neg (by simp; omega)]
    rfl
  · refine ⟨(0, 0, 2), ?_, ev_b (within_eq a 0 _) (ev_neg (by simpa using h) (Ev.now _))⟩
    refine ev_ite (fun h0 => ?_) (fun h0 => ?_)
    · refine Ev.step (fun k => ?_) (Ev.now _)
      simp only [spec_GetLen.j0]
      rw [if_pos trivial]
    · refine Ev.step (fun k => ?_) (Ev.now _)
      simp only [spec_GetLen.j0]
      rw [if_pos (by simp; omega)]
end Go.Proofs.Ytlmpcichjmidmaa.Pure
