/- Topics and filters, in plain lists: a text cut at its strokes, levels that fit levels, what is hidden, what is loose; a filter that covers. No program in sight. -/
import Derived.Test.YtnflbiafmddpgaaGreatDoorK
import Derived.Test.YtnflbiafmddpgaaGreatDoorC1
import Derived.Test.YtnflbiafmddpgaaGreatDoorPx0
import Derived.Test.YtnflbiafmddpgaaGreatDoorC1
import Derived.Lib.Split
import Derived.Lib.SplitLaws
import Derived.Lib.CountLaws
import Derived.Lib.Join
import Derived.Lib.IndexAny
import Derived.WideShapes
namespace Go.Proofs.YtnflbiafmddpgaaGreatDoor.Pure
open Go.RowKit Go.Proofs.YtnflbiafmddpgaaGreatDoor.X Go.Proofs.YtnflbiafmddpgaaGreatDoor.P Go.Proofs.YtnflbiafmddpgaaGreatDoorW.PrintWords Go.Proofs.YtnflbiafmddpgaaGreatDoorW.PrintLast Go.Proofs.YtnflbiafmddpgaaGreatDoor.K
set_option linter.unusedVariables false
set_option linter.unusedSimpArgs false
/-- A text cut at its strokes. -/
def cutL : List UInt8 → List (List UInt8)
  | [] => [[]]
  | b :: t => if b = 47 then [] :: cutL t else match cutL t with
    | [] => [[b]]
    | h :: r => (b :: h) :: r
theorem cutL_ex : ∀ s : List UInt8, ∃ h r, cutL s = h :: r
  | [] => ⟨_, _, rfl⟩
  | b :: t => by
    obtain ⟨h, r, e⟩ := cutL_ex t
    unfold cutL
    by_cases q : b = 47
    · rw [if_pos q]; exact ⟨_, _, rfl⟩
    · rw [if_neg q, e]; exact ⟨_, _, rfl⟩
theorem split_cut : ∀ s : List UInt8, Lib.splitK [47] 0 (Lib.count s [47]) s = cutL s
  | [] => rfl
  | b :: t => by
    have ih := split_cut t
    by_cases q : b = 47
    · subst q
      have hix : Lib.index (47 :: t) [47] = 0 := by rw [Lib.index]; simp [List.isPrefixOf]
      rw [Lib.count_cons_eq, Nat.add_comm 1, Lib.splitK, hix, cutL, if_pos rfl, ← ih]
      rfl
    · have hp : ([47] : List UInt8).isPrefixOf (b :: t) = false := by simp [List.isPrefixOf, Ne.symm q]
      have hix : Lib.index (b :: t) [47] = if Lib.index t [47] == -1 then -1 else Lib.index t [47] + 1 := by rw [Lib.index, hp]; simp
      rw [Lib.count_cons_ne b 47 t q, cutL, if_neg q, ← ih]
      cases Lib.count t [47] with
      | zero => rfl
      | succ n =>
        rw [Lib.splitK, Lib.splitK, hix]
        by_cases m : Lib.index t [47] = -1
        · rw [m]; rfl
        · have hge := Lib.index_ge t [47]
          obtain ⟨j, hj⟩ : ∃ j : Nat, Lib.index t [47] = j := ⟨(Lib.index t [47]).toNat, by omega⟩
          have h1 : (Lib.index t [47] == -1) = false := beq_eq_false_iff_ne.2 m
          have h2 : ((j : Int) == -1) = false := beq_eq_false_iff_ne.2 (by omega)
          have h3 : ((j : Int) + 1 == -1) = false := beq_eq_false_iff_ne.2 (by omega)
          rw [hj]
          simp only [h2, h3, Bool.false_eq_true, if_false]
          have h4 : ((j : Int) + 1).toNat = j + 1 := by omega
          have h5 : (j : Int).toNat = j := by omega
          rw [h4, h5]
          rfl
theorem join_cut : ∀ s : List UInt8, Lib.join (cutL s) [47] = s
  | [] => rfl
  | b :: t => by
    have ih := join_cut t
    obtain ⟨h, r, e⟩ := cutL_ex t
    unfold cutL
    rw [e] at ih
    by_cases q : b = 47
    · rw [if_pos q, e, Lib.join_cons]
      have : Lib.joinTail [47] (h :: r) = [47] ++ Lib.join (h :: r) [47] := by rw [Lib.join_cons]; simp [Lib.joinTail]
      rw [this, ih, q]
      rfl
    · rw [if_neg q, e]
      simp only
      rw [Lib.join_cons] at ih ⊢
      rw [List.cons_append, ih]
/-! ### levels that fit levels -/
end Go.Proofs.YtnflbiafmddpgaaGreatDoor.Pure
