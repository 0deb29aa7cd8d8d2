/- What the small functions of the laws and of the program come to: copies, comparisons, marks of bytes and numbers; joined; PutWord, GetWord, PutBytes, GetBytes, PutLen. No program in sight. -/
import Derived.Test.YtlmpcichjmidmaaK
import Derived.Test.YtlmpcichjmidmaaK
import Derived.Test.YtlmpcichjmidmaaPx0
import Derived.Test.YtlmpcichjmidmaaPx2
namespace Go.Proofs.Ytlmpcichjmidmaa.Pure
open Go.RowKit Go.Proofs.Ytlmpcichjmidmaa.P Go.Proofs.YtlmpcichjmidmaaW.PrintWords Go.Proofs.YtlmpcichjmidmaaW.PrintLast Go.Proofs.Ytlmpcichjmidmaa.K
set_option linter.unusedVariables false
set_option linter.unusedSimpArgs false

theorem joined_l (xs : List (List Int)) (hn : xs.length ≤ 4611686018427387904) : ∀ (d i : Nat) (acc : List Int), i + d = xs.length → acc.length + (xs.drop i).flatten.length < 140737488355328 → Ev (fun k => impl_joined.l0 k acc xs (xs.length : Int) (i : Int)) (acc ++ (xs.drop i).flatten)
  | 0, i, acc, hd, hl => by
    have hi : i = xs.length := by omega
    subst hi
    refine ev_to (Ev.step (fun k => ?_) (Ev.now acc)) (by simp)
    simp only [impl_joined.l0]
    rw [if_neg (by omega)]
  | d + 1, i, acc, hd, hl => by
    have hi : i < xs.length := by omega
    rw [List.drop_eq_getElem_cons hi, List.flatten_cons] at hl ⊢
    simp only [List.length_append] at hl
    have hr : rd_L2 xs (i : Int) = xs[i] := by unfold rd_L2; exact getD_get hi
    refine ev_to (Ev.step (fun k => ?_) (joined_l xs hn d (i + 1) (acc ++ xs[i]) (by omega) (by simp only [List.length_append]; omega))) (by simp)
    simp only [impl_joined.l0]
    rw [if_pos (by omega), if_pos (by omega), if_pos (by omega), hr, if_pos (by omega), w64s hi (by omega)]
theorem joined_ev (xs : List (List Int)) (hn : xs.length ≤ 4611686018427387904) (hl : xs.flatten.length < 140737488355328) : Ev (fun k => impl_joined.f k xs) xs.flatten := by
  unfold impl_joined.f
  have h := joined_l xs hn xs.length 0 [] (by omega) (by simpa using hl)
  simpa using h
theorem joined1_ev (a : List Int) (hl : a.length < 140737488355328) : Ev (fun k => impl_joined.f k [a]) a :=
  ev_to (joined_ev [a] (by simp) (by simpa using hl)) (by simp)
theorem joined2_ev (a b : List Int) (hl : a.length + b.length < 140737488355328) : Ev (fun k => impl_joined.f k [a, b]) (a ++ b) :=
  ev_to (joined_ev [a, b] (by simp) (by simpa using hl)) (by simp)
end Go.Proofs.Ytlmpcichjmidmaa.Pure
