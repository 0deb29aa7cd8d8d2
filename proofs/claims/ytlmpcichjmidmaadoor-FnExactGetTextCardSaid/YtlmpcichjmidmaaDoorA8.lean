/- What the small functions of the laws and of the program come to: copies, comparisons, marks of bytes and numbers; joined; PutWord, GetWord, PutBytes, GetBytes, PutLen. No program in sight. -/
import Derived.Test.YtlmpcichjmidmaaDoorK
import Derived.Test.YtlmpcichjmidmaaDoorA3
import Derived.Test.YtlmpcichjmidmaaDoorA7
import Derived.Test.YtlmpcichjmidmaaDoorK
import Derived.Test.YtlmpcichjmidmaaDoorPx0
import Derived.Test.YtlmpcichjmidmaaDoorPx10
import Derived.Test.YtlmpcichjmidmaaDoorPx11
namespace Go.Proofs.YtlmpcichjmidmaaDoor.Pure
open Go.RowKit Go.Proofs.YtlmpcichjmidmaaDoor.P Go.Proofs.YtlmpcichjmidmaaDoorW.PrintWords Go.Proofs.YtlmpcichjmidmaaDoorW.PrintLast Go.Proofs.YtlmpcichjmidmaaDoor.K
set_option linter.unusedVariables false
set_option linter.unusedSimpArgs false

def getBytesP (l : List Int) (a : Int) : List Int × Int × Bool :=
  if (getWordP l a).2.2 = true ∧ (getWordP l a).1 ≤ 60 ∧ (getWordP l a).1 ≤ (l.length : Int) - (getWordP l a).2.1 then
    ((l.take ((getWordP l a).2.1 + (getWordP l a).1).toNat).drop ((getWordP l a).2.1).toNat, (getWordP l a).2.1 + (getWordP l a).1, true) else ([], 0, false)
theorem getWordP_bd (l : List Int) (a : Int) (hb : Bytes l) : 0 ≤ (getWordP l a).1 ∧ (getWordP l a).1 ≤ 65535 ∧ 0 ≤ (getWordP l a).2.1 ∧ ((getWordP l a).2.2 = true → (getWordP l a).2.1 ≤ l.length) := by
  unfold getWordP
  have b1 := bytes_rd hb a
  have b2 := bytes_rd hb (a + 1)
  split
  · refine ⟨?_, ?_, ?_, fun _ => ?_⟩ <;> simp only <;> omega
  · simp
theorem specGetBytes_eq (l : List Int) (a : Int) (hb : Bytes l) (hl : l.length ≤ 35184372088832) : spec_GetBytes.f l a = some (getBytesP l a) := by
  unfold spec_GetBytes.f getBytesP
  rw [specGetWord_eq l a hb hl]
  have hbd := getWordP_bd l a hb
  generalize getWordP l a = g at hbd ⊢
  obtain ⟨g1, g2, g3⟩ := g
  simp only at hbd ⊢
  simp only [Option.bind_some]
  cases g3 with
  | false => simp
  | true =>
    have h3 := hbd.2.2.2 rfl
    simp only [if_true, true_and]
    by_cases h1 : g1 > 60
    · rw [if_pos h1, if_neg (by omega)]
    rw [if_neg h1, w64 (x := (l.length : Int) - g2) (by omega) (by omega)]
    by_cases h2 : g1 > (l.length : Int) - g2
    · rw [if_pos h2, if_neg (by omega)]
    rw [if_neg h2, w64 (x := g2 + g1) (by omega) (by omega), if_pos (by omega), if_pos (by omega), if_pos (by omega), if_pos (by simp; omega), if_pos (by omega)]
    simp
theorem getBytes_ev (l : List Int) (a : Int) (hb : Bytes l) (hl : l.length ≤ 35184372088832) : Ev (fun k => impl_GetBytes.f k l a) (getBytesP l a) := by
  unfold impl_GetBytes.f getBytesP
  have hbd := getWordP_bd l a hb
  refine ev_b (implGetWord_eq l a hb hl) ?_
  generalize getWordP l a = g at hbd ⊢
  obtain ⟨g1, g2, g3⟩ := g
  simp only at hbd ⊢
  cases g3 with
  | false => exact Ev.now _
  | true =>
    have h3 := hbd.2.2.2 rfl
    simp only [if_true, true_and]
    by_cases h1 : g1 > 60
    · rw [if_neg (by omega)]
      exact ev_pos h1 (Ev.now _)
    refine ev_neg h1 ?_
    rw [w64 (x := (l.length : Int) - g2) (by omega) (by omega)]
    by_cases h2 : g1 > (l.length : Int) - g2
    · rw [if_neg (by omega)]
      exact ev_pos h2 (Ev.now _)
    rw [if_pos (by omega), w64 (x := g2 + g1) (by omega) (by omega)]
    refine ev_neg h2 (ev_pos (by omega) (ev_pos (by omega) (ev_pos (by omega) (Ev.bind (joined1_ev _ ?_) (Ev.now _)))))
    simp
    omega
end Go.Proofs.YtlmpcichjmidmaaDoor.Pure
