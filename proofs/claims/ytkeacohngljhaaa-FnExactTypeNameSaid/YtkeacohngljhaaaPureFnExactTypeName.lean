/- The law FnExactTypeName answers true of every number: it has no condition. -/
import Derived.Test.YtkeacohngljhaaaA
namespace Go.Proofs.Ytkeacohngljhaaa.Pure
open Go.RowKit Go.Proofs.Ytkeacohngljhaaa.P Go.Proofs.YtkeacohngljhaaaW.PrintWords Go.Proofs.YtkeacohngljhaaaW.PrintLast Go.Proofs.Ytkeacohngljhaaa.K
theorem typeName_same (a : Int) : ∃ s, spec_TypeName.f a = some s ∧ impl_TypeName.f a = some s := by
  unfold spec_TypeName.f impl_TypeName.f
  rw [l1In_eq, within_eq]
  simp only [Option.bind_some]
  by_cases h : 1 ≤ a ∧ a ≤ 14
  · rw [w64 (by omega) (by omega)]
    simp only [h, and_self, decide_true, if_true]
    have h0 : 0 ≤ a - 1 := by omega
    have h1 : a - 1 < 14 := by omega
    simp only [List.length_cons, List.length_nil]
    rw [if_pos h0, if_pos (by omega)]
    exact ⟨_, rfl⟩
  · have hd : decide (1 ≤ a ∧ a ≤ 14) = false := decide_eq_false h
    rw [hd]
    exact ⟨_, rfl, rfl⟩
theorem FnExactTypeName : laws_FnExactTypeName.Pure := by
  intro a ha
  obtain ⟨s, h1, h2⟩ := typeName_same a
  unfold laws_FnExactTypeName.f
  rw [h1, h2]
  simp
end Go.Proofs.Ytkeacohngljhaaa.Pure
