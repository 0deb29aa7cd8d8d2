/- What the small functions of the laws and of the program come to: copies, comparisons, marks of bytes and numbers; joined; PutWord, GetWord, PutBytes, GetBytes, PutLen. No program in sight. -/
import Derived.Test.YtpfigpmfehlkfaaDoorK
import Derived.Test.YtpfigpmfehlkfaaDoorK
import Derived.Test.YtpfigpmfehlkfaaDoorPx0
import Derived.Test.YtpfigpmfehlkfaaDoorPx5
import Derived.Test.YtpfigpmfehlkfaaDoorPx8
namespace Go.Proofs.YtpfigpmfehlkfaaDoor.Pure
open Go.RowKit Go.Proofs.YtpfigpmfehlkfaaDoor.P Go.Proofs.YtpfigpmfehlkfaaDoorW.PrintWords Go.Proofs.YtpfigpmfehlkfaaDoorW.PrintLast Go.Proofs.YtpfigpmfehlkfaaDoor.K
set_option linter.unusedVariables false
set_option linter.unusedSimpArgs false

theorem toByteS_ev (l : List Int) (hl : l.length ≤ 35184372088832) : Ev (fun k => laws_toByteS.f k l) l := by
  unfold laws_toByteS.f
  refine ev_pos (by omega) (ev_pos (by omega) ?_)
  refine copy_loop l (fun k y i => laws_toByteS.l0 k l y i) ?_ ?_ l.length 0 (List.replicate ((l.length : Int) : Int).toNat 0) (by omega) (by simp) (by simp)
  · intro i y r hi hy h
    refine Ev.step (fun k => ?_) h
    simp only [laws_toByteS.l0]
    rw [if_pos (by omega), if_pos (by omega), if_pos (by omega), rd_get hi, w64s hi (by omega)]
    rfl
  · intro y hy
    refine Ev.step (fun k => ?_) (Ev.now y)
    simp only [laws_toByteS.l0]
    rw [if_neg (by omega)]
theorem eqByteS_ev (a b : List Int) (ha : a.length ≤ 35184372088832) : Ev (fun k => laws_eqByteS.f k a b) (decide (a = b)) := by
  unfold laws_eqByteS.f
  refine ev_ite (fun e => ?_) (fun e => ev_some ?_)
  · have hl : a.length = b.length := by omega
    refine eq_loop a b hl (fun k i => laws_eqByteS.l0 k a b i) ?_ ?_ ?_ a.length 0 (by omega)
    · intro i r hi hx h
      refine Ev.step (fun k => ?_) h
      simp only [laws_eqByteS.l0]
      rw [if_pos (by omega), if_pos (by omega), if_pos (by omega), rd_get hi, rd_get (hl ▸ hi), if_pos hx, w64s hi (by omega)]
    · intro i hi hx
      refine Ev.step (fun k => ?_) (Ev.now false)
      simp only [laws_eqByteS.l0]
      rw [if_pos (by omega), if_pos (by omega), if_pos (by omega), rd_get hi, rd_get (hl ▸ hi), if_neg hx]
    · refine Ev.step (fun k => ?_) (Ev.now true)
      simp only [laws_eqByteS.l0]
      rw [if_neg (by omega)]
  · symm
    simp only [decide_eq_false_iff_not]
    intro h
    subst h
    exact e rfl
end Go.Proofs.YtpfigpmfehlkfaaDoor.Pure
