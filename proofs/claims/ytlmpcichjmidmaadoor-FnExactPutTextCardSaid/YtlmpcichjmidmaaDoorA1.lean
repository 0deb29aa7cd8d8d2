/- What the small functions of the laws and of the program come to: copies, comparisons, marks of bytes and numbers; joined; PutWord, GetWord, PutBytes, GetBytes, PutLen. No program in sight. -/
import Derived.Test.YtlmpcichjmidmaaDoorK
import Derived.Test.YtlmpcichjmidmaaDoorK
import Derived.Test.YtlmpcichjmidmaaDoorPx0
import Derived.Test.YtlmpcichjmidmaaDoorPx4
import Derived.Test.YtlmpcichjmidmaaDoorPx5
import Derived.Test.YtlmpcichjmidmaaDoorPx8
namespace Go.Proofs.YtlmpcichjmidmaaDoor.Pure
open Go.RowKit Go.Proofs.YtlmpcichjmidmaaDoor.P Go.Proofs.YtlmpcichjmidmaaDoorW.PrintWords Go.Proofs.YtlmpcichjmidmaaDoorW.PrintLast Go.Proofs.YtlmpcichjmidmaaDoor.K
set_option linter.unusedVariables false
set_option linter.unusedSimpArgs false

theorem toByteS_ev (l : List Int) (hl : l.length ≤ 35184372088832) : Ev (fun k => laws_toByteS.f k l) l := by
  unfold laws_toByteS.f
  refine ev_pos (by omega) (ev_pos (by omega) ?_)
  refine copy_loop l (fun k y i => laws_toByteS.l0 k l y i) ?_ ?_ l.length 0 (List.replicate ((l.length : Int) : Int).toNat 0) (by omega) (by simp) (by simp)
  · intro i y r hi hy h
    refine Ev.step (fun k => ?_) h
    simp only [laws_toByteS.l0]
    rw [if_pos (by omega), if_pos (by omega), if_pos (by omega), rd_get hi, w64s hi (by omega)]
    rfl
  · intro y hy
    refine Ev.step (fun k => ?_) (Ev.now y)
    simp only [laws_toByteS.l0]
    rw [if_neg (by omega)]
theorem eqByteS_ev (a b : List Int) (ha : a.length ≤ 35184372088832) : Ev (fun k => laws_eqByteS.f k a b) (decide (a = b)) := by
  unfold laws_eqByteS.f
  refine ev_ite (fun e => ?_) (fun e => ev_some ?_)
  · have hl : a.length = b.length := by omega
    refine eq_loop a b hl (fun k i => laws_eqByteS.l0 k a b i) ?_ ?_ ?_ a.length 0 (by omega)
    · intro i r hi hx h
      refine Ev.step (fun k => ?_) h
      simp only [laws_eqByteS.l0]
      rw [if_pos (by omega), if_pos (by omega), if_pos (by omega), rd_get hi, rd_get (hl ▸ hi), if_pos hx, w64s hi (by omega)]
    · intro i hi hx
      refine Ev.step (fun k => ?_) (Ev.now false)
      simp only [laws_eqByteS.l0]
      rw [if_pos (by omega), if_pos (by omega), if_pos (by omega), rd_get hi, rd_get (hl ▸ hi), if_neg hx]
    · refine Ev.step (fun k => ?_) (Ev.now true)
      simp only [laws_eqByteS.l0]
      rw [if_neg (by omega)]
  · symm
    simp only [decide_eq_false_iff_not]
    intro h
    subst h
    exact e rfl
theorem markByteS_ev (l : List Int) (c : Int) (h0 : 0 ≤ c) (h1 : c ≤ 4611686018427387904) (hl : l.length ≤ 35184372088832) : Ev (fun k => laws_markByteS.f k l c) (c + (l.length : Int), marks (fun c => c % 256) c l.length) := by
  unfold laws_markByteS.f
  refine mark_loop (fun c => c % 256) l.length (fun k y c i => laws_markByteS.l0 k y c i) ?_ ?_ l.length 0 l c (by omega) rfl h0 (by omega)
  · intro i y c r hi hy h0 h1 h
    refine Ev.step (fun k => ?_) h
    simp only [laws_markByteS.l0]
    rw [if_pos (by omega), if_pos (by omega), w64s hi (by omega), w64 (by omega) (by omega)]
    rfl
  · intro y c hy
    refine Ev.step (fun k => ?_) (Ev.now (c, y))
    simp only [laws_markByteS.l0]
    rw [if_neg (by omega)]
theorem heldByteS_ev (c : Int) (n : Nat) (h0 : 0 ≤ c) (h1 : c ≤ 4611686018427387904) (hl : n ≤ 35184372088832) : Ev (fun k => laws_heldByteS.f k (marks (fun c => c % 256) c n) c) (c + (n : Int)) := by
  unfold laws_heldByteS.f
  have hn : (marks (fun c : Int => c % 256) c n).length = n := marks_length ..
  refine held_loop (fun c => c % 256) (marks (fun c => c % 256) c n) (fun k d i => laws_heldByteS.l0 k (marks (fun c => c % 256) c n) d i) ?_ ?_ n 0 c (by omega) h0 (by omega) rfl
  · intro i d r hi hx h0 h1 h
    refine Ev.step (fun k => ?_) h
    simp only [laws_heldByteS.l0]
    rw [if_pos (by omega), if_pos (by omega), rd_get hi, if_pos hx, w64s hi (by omega), w64 (by omega) (by omega)]
  · intro d
    refine Ev.step (fun k => ?_) (Ev.now d)
    simp only [laws_heldByteS.l0]
    rw [if_neg (by omega)]
end Go.Proofs.YtlmpcichjmidmaaDoor.Pure
