/- The levels of a text: spec.Levels and strings.Split come to the same pieces; the marks of a list of texts are laid and found again. No program in sight. -/
import Derived.Test.YtpfigpmfehlkfaaK
import Derived.Test.YtpfigpmfehlkfaaK
import Derived.Test.YtpfigpmfehlkfaaPx0
import Derived.Test.YtpfigpmfehlkfaaPx2
import Derived.Lib.Split
import Derived.Lib.SplitLaws
import Derived.Lib.CountLaws
import Derived.Lib.IndexBytes
import Derived.WideShapes
namespace Go.Proofs.Ytpfigpmfehlkfaa.Pure
open Go.RowKit Go.Proofs.Ytpfigpmfehlkfaa.X Go.Proofs.Ytpfigpmfehlkfaa.P Go.Proofs.YtpfigpmfehlkfaaW.PrintWords Go.Proofs.YtpfigpmfehlkfaaW.PrintLast Go.Proofs.Ytpfigpmfehlkfaa.K
set_option linter.unusedVariables false
set_option linter.unusedSimpArgs false
theorem eqStringS_ev (a b : List ByteArray) (ha : a.length ≤ 35184372088832) (e : a = b) : Ev (fun k => laws_eqStringS.f k a b) true := by
  subst e
  unfold laws_eqStringS.f
  refine ev_pos rfl ?_
  suffices h : ∀ (d i : Nat), i + d = a.length → Ev (fun k => laws_eqStringS.l0 k a a (i : Int)) true from h a.length 0 (by omega)
  intro d
  induction d with
  | zero =>
    intro i hi
    refine Ev.step (fun k => by rw [laws_eqStringS.l0]) ?_
    exact ev_neg (by omega) (Ev.now _)
  | succ d ih =>
    intro i hi
    refine Ev.step (fun k => by rw [laws_eqStringS.l0]) ?_
    rw [w64s (i := i) (n := a.length) (by omega) (by omega)]
    exact ev_pos (by omega) (ev_pos (by omega) (ev_pos (by omega) (ev_pos rfl (ih (i + 1) (by omega)))))
end Go.Proofs.Ytpfigpmfehlkfaa.Pure
