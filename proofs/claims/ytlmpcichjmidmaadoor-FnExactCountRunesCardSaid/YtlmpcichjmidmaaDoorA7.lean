/- What the small functions of the laws and of the program come to: copies, comparisons, marks of bytes and numbers; joined; PutWord, GetWord, PutBytes, GetBytes, PutLen. No program in sight. -/
import Derived.Test.YtlmpcichjmidmaaDoorK
import Derived.Test.YtlmpcichjmidmaaDoorK
import Derived.Test.YtlmpcichjmidmaaDoorPx0
import Derived.Test.YtlmpcichjmidmaaDoorPx10
namespace Go.Proofs.YtlmpcichjmidmaaDoor.Pure
open Go.RowKit Go.Proofs.YtlmpcichjmidmaaDoor.P Go.Proofs.YtlmpcichjmidmaaDoorW.PrintWords Go.Proofs.YtlmpcichjmidmaaDoorW.PrintLast Go.Proofs.YtlmpcichjmidmaaDoor.K
set_option linter.unusedVariables false
set_option linter.unusedSimpArgs false

/-- What GetWord comes to. -/
def getWordP (l : List Int) (a : Int) : Int × Int × Bool := if 0 ≤ a ∧ a ≤ (l.length : Int) - 2 then (rd l a * 256 + rd l (a + 1), a + 2, true) else (0, 0, false)
/-- All are bytes. -/
def Bytes (l : List Int) : Prop := ∀ x ∈ l, 0 ≤ x ∧ x ≤ 255
theorem bytes_rd {l : List Int} (hb : Bytes l) (i : Int) : 0 ≤ rd l i ∧ rd l i ≤ 255 := by
  unfold rd
  rw [List.getD_eq_getElem?_getD]
  by_cases h : i.toNat < l.length
  · rw [List.getElem?_eq_getElem h]
    exact hb _ (List.getElem_mem h)
  · rw [List.getElem?_eq_none (by omega)]
    simp
theorem specGetWord_eq (l : List Int) (a : Int) (hb : Bytes l) (hl : l.length ≤ 35184372088832) : spec_GetWord.f l a = some (getWordP l a) := by
  unfold spec_GetWord.f getWordP
  by_cases h0 : a < 0
  · rw [if_pos h0, if_neg (by omega)]
  rw [if_neg h0, w64 (x := (l.length : Int) - 2) (by omega) (by omega)]
  by_cases h1 : a > (l.length : Int) - 2
  · rw [if_pos h1, if_neg (by omega)]
  have b1 := bytes_rd hb a
  have b2 := bytes_rd hb (a + 1)
  rw [if_neg h1, w64 (x := a + 1) (by omega) (by omega), if_pos (by omega), if_pos (by omega), if_pos (by omega), if_pos (by omega), if_pos (by omega)]
  rw [w64 (x := a + 2) (by omega) (by omega), w64 (x := rd l a) (by omega) (by omega), w64 (x := rd l (a + 1)) (by omega) (by omega), w64 (x := rd l a * 256) (by omega) (by omega), w64 (by omega) (by omega)]
theorem implGetWord_eq (l : List Int) (a : Int) (hb : Bytes l) (hl : l.length ≤ 35184372088832) : impl_GetWord.f l a = some (getWordP l a) := by
  unfold impl_GetWord.f getWordP
  by_cases h0 : a < 0
  · rw [if_pos h0, if_neg (by omega)]
  rw [if_neg h0, w64 (x := (l.length : Int) - 2) (by omega) (by omega)]
  by_cases h1 : a > (l.length : Int) - 2
  · rw [if_pos h1, if_neg (by omega)]
  have b1 := bytes_rd hb a
  have b2 := bytes_rd hb (a + 1)
  rw [if_neg h1, w64 (x := a + 1) (by omega) (by omega), if_pos (by omega), if_pos (by omega), if_pos (by omega), if_pos (by omega), if_pos (by omega)]
  rw [w64 (x := a + 2) (by omega) (by omega), w64 (x := rd l a) (by omega) (by omega), w64 (x := rd l (a + 1)) (by omega) (by omega), w64 (x := rd l a * 256) (by omega) (by omega)]
  rw [bits_join .i64 63 (by decide) wraps_i64 8 (rd l a * 256) (rd l (a + 1)) (by omega) (by omega) (by omega) (by omega) (by omega) (by omega)]
end Go.Proofs.YtlmpcichjmidmaaDoor.Pure
