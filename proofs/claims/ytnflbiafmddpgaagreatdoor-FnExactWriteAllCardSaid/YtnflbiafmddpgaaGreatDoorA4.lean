/- What the small functions of the laws and of the program come to: copies, comparisons, marks of bytes and numbers; joined; PutWord, GetWord, PutBytes, GetBytes, PutLen. No program in sight. -/
import Derived.Test.YtnflbiafmddpgaaGreatDoorK
import Derived.Test.YtnflbiafmddpgaaGreatDoorK
import Derived.Test.YtnflbiafmddpgaaGreatDoorPx0
import Derived.Test.YtnflbiafmddpgaaGreatDoorPx1
namespace Go.Proofs.YtnflbiafmddpgaaGreatDoor.Pure
open Go.RowKit Go.Proofs.YtnflbiafmddpgaaGreatDoor.P Go.Proofs.YtnflbiafmddpgaaGreatDoorW.PrintWords Go.Proofs.YtnflbiafmddpgaaGreatDoorW.PrintLast Go.Proofs.YtnflbiafmddpgaaGreatDoor.K
set_option linter.unusedVariables false
set_option linter.unusedSimpArgs false

theorem l1In_eq (a b c : Int) : spec_l1In.f a b c = some (decide (b ≤ a ∧ a ≤ c)) := by
  unfold spec_l1In.f
  by_cases h : a ≥ b
  · rw [if_pos h]; congr 1; simp; omega
  · rw [if_neg h]; congr 1; symm; simp; omega
end Go.Proofs.YtnflbiafmddpgaaGreatDoor.Pure
