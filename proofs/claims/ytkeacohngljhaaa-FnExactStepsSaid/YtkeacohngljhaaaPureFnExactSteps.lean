/- The law FnExactSteps answers true of every two numbers: it has no condition. -/
import Derived.Test.YtkeacohngljhaaaA
namespace Go.Proofs.Ytkeacohngljhaaa.Pure
open Go.RowKit Go.Proofs.Ytkeacohngljhaaa.P Go.Proofs.YtkeacohngljhaaaW.PrintWords Go.Proofs.YtkeacohngljhaaaW.PrintLast Go.Proofs.Ytkeacohngljhaaa.K
theorem FnExactSteps : laws_FnExactSteps.Pure := by
  intro a b ha hb
  refine ⟨2, ?_⟩
  have hs : ∃ r, spec_Steps.f 2 a b = some r ∧ impl_Steps.f 2 a b = some r := by
    unfold spec_Steps.f impl_Steps.f
    rw [l1In_eq, l1In_eq, isWord_eq, isId_eq]
    simp only [Option.bind_some]
    by_cases h : 0 ≤ a ∧ a ≤ 65535
    · rw [decide_eq_true h]
      simp only [if_true]
      unfold spec_Steps.j0 impl_Steps.j0
      by_cases h2 : 1 ≤ b ∧ b ≤ 65535
      · rw [decide_eq_true h2]
        simp only [Bool.not_true, Bool.false_eq_true, if_false, gt_iff_lt]
        by_cases h3 : a < b
        · rw [if_pos h3]; exact ⟨_, rfl, rfl⟩
        · rw [if_neg h3]; exact ⟨_, rfl, rfl⟩
      · rw [decide_eq_false h2]
        exact ⟨_, rfl, rfl⟩
    · rw [decide_eq_false h]
      exact ⟨_, rfl, rfl⟩
  obtain ⟨r, h1, h2⟩ := hs
  unfold laws_FnExactSteps.f
  rw [h1, h2]
  simp
end Go.Proofs.Ytkeacohngljhaaa.Pure
