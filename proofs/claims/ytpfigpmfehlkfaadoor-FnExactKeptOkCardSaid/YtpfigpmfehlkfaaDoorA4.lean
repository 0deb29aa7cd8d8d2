/- What the small functions of the laws and of the program come to: copies, comparisons, marks of bytes and numbers; joined; PutWord, GetWord, PutBytes, GetBytes, PutLen. No program in sight. -/
import Derived.Test.YtpfigpmfehlkfaaDoorK
import Derived.Test.YtpfigpmfehlkfaaDoorK
import Derived.Test.YtpfigpmfehlkfaaDoorPx0
import Derived.Test.YtpfigpmfehlkfaaDoorPx1
import Derived.Test.YtpfigpmfehlkfaaDoorPx6
namespace Go.Proofs.YtpfigpmfehlkfaaDoor.Pure
open Go.RowKit Go.Proofs.YtpfigpmfehlkfaaDoor.P Go.Proofs.YtpfigpmfehlkfaaDoorW.PrintWords Go.Proofs.YtpfigpmfehlkfaaDoorW.PrintLast Go.Proofs.YtpfigpmfehlkfaaDoor.K
set_option linter.unusedVariables false
set_option linter.unusedSimpArgs false

theorem l1In_eq (a b c : Int) : spec_l1In.f a b c = some (decide (b ≤ a ∧ a ≤ c)) := by
  unfold spec_l1In.f
  by_cases h : a ≥ b
  · rw [if_pos h]; congr 1; simp; omega
  · rw [if_neg h]; congr 1; symm; simp; omega
theorem within_eq (a b c : Int) : impl_within.f a b c = some (decide (b ≤ a ∧ a ≤ c)) := by
  unfold impl_within.f
  by_cases h : a ≥ b
  · rw [if_pos h]; congr 1; simp; omega
  · rw [if_neg h]; congr 1; symm; simp; omega
end Go.Proofs.YtpfigpmfehlkfaaDoor.Pure
