/- Topics and filters, in plain lists: a text cut at its strokes, levels that fit levels, what is hidden, what is loose; a filter that covers. No program in sight. -/
import Derived.Test.YtcnfgfomholheaaGreatDoorK
import Derived.Test.YtcnfgfomholheaaGreatDoorC1
import Derived.Test.YtcnfgfomholheaaGreatDoorK
import Derived.Test.YtcnfgfomholheaaGreatDoorPx0
import Derived.Test.YtcnfgfomholheaaGreatDoorPx6
import Derived.Test.YtcnfgfomholheaaGreatDoorPx7
import Derived.Test.YtcnfgfomholheaaGreatDoorT1
import Derived.Test.YtcnfgfomholheaaGreatDoorT2
import Derived.Test.YtcnfgfomholheaaGreatDoorT3
import Derived.Test.YtcnfgfomholheaaGreatDoorT4
import Derived.Test.YtcnfgfomholheaaGreatDoorC1
import Derived.Test.YtcnfgfomholheaaGreatDoorK
import Derived.Test.YtcnfgfomholheaaGreatDoorT1
import Derived.Test.YtcnfgfomholheaaGreatDoorT2
import Derived.Test.YtcnfgfomholheaaGreatDoorT3
import Derived.Test.YtcnfgfomholheaaGreatDoorT4
import Derived.Lib.Split
import Derived.Lib.SplitLaws
import Derived.Lib.CountLaws
import Derived.Lib.Join
import Derived.Lib.IndexAny
import Derived.WideShapes
namespace Go.Proofs.YtcnfgfomholheaaGreatDoor.Pure
open Go.RowKit Go.Proofs.YtcnfgfomholheaaGreatDoor.X Go.Proofs.YtcnfgfomholheaaGreatDoor.P Go.Proofs.YtcnfgfomholheaaGreatDoorW.PrintWords Go.Proofs.YtcnfgfomholheaaGreatDoorW.PrintLast Go.Proofs.YtcnfgfomholheaaGreatDoor.K
set_option linter.unusedVariables false
set_option linter.unusedSimpArgs false
def lF (f t:ByteArray):Bool:=eu f && Dc t && !(oW (dl f) && lJ (dl t)) && nN (fQ (dl f)) (fQ (dl t))
theorem Ov (f t:ByteArray) (hf:f.size≤1073741824) (ht:t.size≤1073741824):Ev (fun k=>bI.f k f t) (lF f t):=by
 have hj:∀b:Bool,Ev (fun k=>bI.j0 k f t b) (!b && nN (fQ (dl f)) (fQ (dl t))):=by
  intro b
  refine Ev.step (fun k=>by rw [bI.j0]) ?_
  cases b with
  | true=>exact aZ rfl (Ev.now _)
  | false=>exact bV (by simp) (Ev.bind (pq f hf) (Ev.bind (pq t ht) (Ev.bind (QV f t hf) (Ev.now _))))
 unfold bI.f lF
 refine Ev.bind (wK f hf) (jK (fun h=>?_) (fun h=>?_))
 ·rw [h,Bool.true_and]
  refine Ev.bind (J5 t ht) (jK (fun h2=>?_) (fun h2=>?_))
  ·rw [h2,Bool.true_and,PZ,J6]
   refine uT rfl (jK (fun h3=>?_) (fun h3=>?_))
   ·rw [h3]
    exact uT rfl (hj _)
   ·rw [Bool.eq_false_iff.2 h3]
    exact hj false
  ·rw [Bool.eq_false_iff.2 h2]
   exact hj true
 ·rw [Bool.eq_false_iff.2 h]
  exact hj true
theorem Ou (f t:ByteArray) (hf:f.size≤1073741824) (ht:t.size≤1073741824):Ev (fun k=>bH.f k f t) (lF f t):=by
 have hj:∀b:Bool,Ev (fun k=>bH.j0 k f t b) (!b && nN (fQ (dl f)) (fQ (dl t))):=by
  intro b
  refine Ev.step (fun k=>by rw [bH.j0]) ?_
  cases b with
  | true=>exact aZ rfl (Ev.now _)
  | false=>exact bV (by simp) (uT (mW f hf) (uT (mW t ht) (Ev.bind (QW f t hf) (Ev.now _))))
 unfold bH.f lF
 refine Ev.bind (wJ f hf) (jK (fun h=>?_) (fun h=>?_))
 ·rw [h,Bool.true_and]
  refine uT (J7 t ht) (jK (fun h2=>?_) (fun h2=>?_))
  ·rw [h2,Bool.true_and,P5 f (U6 h),J8]
   refine uT rfl (jK (fun h3=>?_) (fun h3=>?_))
   ·rw [h3]
    exact uT rfl (hj _)
   ·rw [Bool.eq_false_iff.2 h3]
    exact hj false
  ·rw [Bool.eq_false_iff.2 h2]
   exact hj true
 ·rw [Bool.eq_false_iff.2 h]
  exact hj true
end Go.Proofs.YtcnfgfomholheaaGreatDoor.Pure
