/- What the small functions of the laws and of the program come to: copies, comparisons, marks of bytes and numbers; joined; PutWord, GetWord, PutBytes, GetBytes, PutLen. No program in sight. -/
import Derived.Test.YtkeacohngljhaaaK
import Derived.Test.YtkeacohngljhaaaK
import Derived.Test.YtkeacohngljhaaaPx0
import Derived.Test.YtkeacohngljhaaaPx18
import Derived.Test.YtkeacohngljhaaaPx20
namespace Go.Proofs.Ytkeacohngljhaaa.Pure
open Go.RowKit Go.Proofs.Ytkeacohngljhaaa.P Go.Proofs.YtkeacohngljhaaaW.PrintWords Go.Proofs.YtkeacohngljhaaaW.PrintLast Go.Proofs.Ytkeacohngljhaaa.K

theorem toIntS_ev (l : List Int) (hl : l.length ≤ 35184372088832) : Ev (fun k => laws_toIntS.f k l) l := by
  unfold laws_toIntS.f
  refine ev_pos (by omega) (ev_pos (by omega) ?_)
  refine copy_loop l (fun k y i => laws_toIntS.l0 k l y i) ?_ ?_ l.length 0 (List.replicate ((l.length : Int) : Int).toNat 0) (by omega) (by simp) (by simp)
  · intro i y r hi hy h
    refine Ev.step (fun k => ?_) h
    simp only [laws_toIntS.l0]
    rw [if_pos (by omega), if_pos (by omega), if_pos (by omega), rd_get hi, w64s hi (by omega)]
    rfl
  · intro y hy
    refine Ev.step (fun k => ?_) (Ev.now y)
    simp only [laws_toIntS.l0]
    rw [if_neg (by omega)]
theorem eqIntS_ev (a b : List Int) (ha : a.length ≤ 35184372088832) : Ev (fun k => laws_eqIntS.f k a b) (decide (a = b)) := by
  unfold laws_eqIntS.f
  refine ev_ite (fun e => ?_) (fun e => ev_some ?_)
  · have hl : a.length = b.length := by omega
    refine eq_loop a b hl (fun k i => laws_eqIntS.l0 k a b i) ?_ ?_ ?_ a.length 0 (by omega)
    · intro i r hi hx h
      refine Ev.step (fun k => ?_) h
      simp only [laws_eqIntS.l0]
      rw [if_pos (by omega), if_pos (by omega), if_pos (by omega), rd_get hi, rd_get (hl ▸ hi), if_pos hx, w64s hi (by omega)]
    · intro i hi hx
      refine Ev.step (fun k => ?_) (Ev.now false)
      simp only [laws_eqIntS.l0]
      rw [if_pos (by omega), if_pos (by omega), if_pos (by omega), rd_get hi, rd_get (hl ▸ hi), if_neg hx]
    · refine Ev.step (fun k => ?_) (Ev.now true)
      simp only [laws_eqIntS.l0]
      rw [if_neg (by omega)]
  · symm
    simp only [decide_eq_false_iff_not]
    intro h
    subst h
    exact e rfl
end Go.Proofs.Ytkeacohngljhaaa.Pure
