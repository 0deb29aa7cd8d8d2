/- Topics and filters, in plain lists: a text cut at its strokes, levels that fit levels, what is hidden, what is loose; a filter that covers. No program in sight. -/
import Derived.Test.YtcnfgfomholheaaGreatDoorK
import Derived.Test.YtcnfgfomholheaaGreatDoorC1
import Derived.Test.YtcnfgfomholheaaGreatDoorK
import Derived.Test.YtcnfgfomholheaaGreatDoorPx0
import Derived.Test.YtcnfgfomholheaaGreatDoorPx6
import Derived.Test.YtcnfgfomholheaaGreatDoorPx7
import Derived.Test.YtcnfgfomholheaaGreatDoorT1
import Derived.Test.YtcnfgfomholheaaGreatDoorT2
import Derived.Test.YtcnfgfomholheaaGreatDoorT3
import Derived.Test.YtcnfgfomholheaaGreatDoorT4
import Derived.Test.YtcnfgfomholheaaGreatDoorC1
import Derived.Test.YtcnfgfomholheaaGreatDoorK
import Derived.Test.YtcnfgfomholheaaGreatDoorT1
import Derived.Test.YtcnfgfomholheaaGreatDoorT2
import Derived.Test.YtcnfgfomholheaaGreatDoorT3
import Derived.Test.YtcnfgfomholheaaGreatDoorT4
import Derived.Lib.Split
import Derived.Lib.SplitLaws
import Derived.Lib.CountLaws
import Derived.Lib.Join
import Derived.Lib.IndexAny
import Derived.WideShapes
namespace Go.Proofs.YtcnfgfomholheaaGreatDoor.Pure
open Go.RowKit Go.Proofs.YtcnfgfomholheaaGreatDoor.X Go.Proofs.YtcnfgfomholheaaGreatDoor.P Go.Proofs.YtcnfgfomholheaaGreatDoorW.PrintWords Go.Proofs.YtcnfgfomholheaaGreatDoorW.PrintLast Go.Proofs.YtcnfgfomholheaaGreatDoor.K
set_option linter.unusedVariables false
set_option linter.unusedSimpArgs false
def lX (f t:ByteArray):Bool:=fF f && nG t && !(pU (dl f) && mg (dl t)) && nY (gU (dl f)) (gU (dl t))
theorem Qc (f t:ByteArray) (hf:f.size≤1073741824) (ht:t.size≤1073741824):Ev (fun k=>bK.f k f t) (lX f t):=by
 have hj:∀b:Bool,Ev (fun k=>bK.j0 k f t b) (!b && nY (gU (dl f)) (gU (dl t))):=by
  intro b
  refine Ev.step (fun k=>by rw [bK.j0]) ?_
  cases b with
  | true=>exact bg rfl (Ev.now _)
  | false=>exact cu (by simp) (Ev.bind (qc f hf) (Ev.bind (qc t ht) (Ev.bind (Rh f t hf) (Ev.now _))))
 unfold bK.f lX
 refine Ev.bind (yt f hf) (jX (fun h=>?_) (fun h=>?_))
 ·rw [h,Bool.true_and]
  refine Ev.bind (zD t ht) (jX (fun h2=>?_) (fun h2=>?_))
  ·rw [h2,Bool.true_and,Qi,KP]
   refine wo rfl (jX (fun h3=>?_) (fun h3=>?_))
   ·rw [h3]
    exact wo rfl (hj _)
   ·rw [Bool.eq_false_iff.2 h3]
    exact hj false
  ·rw [Bool.eq_false_iff.2 h2]
   exact hj true
 ·rw [Bool.eq_false_iff.2 h]
  exact hj true
theorem Qb (f t:ByteArray) (hf:f.size≤1073741824) (ht:t.size≤1073741824):Ev (fun k=>bJ.f k f t) (lX f t):=by
 have hj:∀b:Bool,Ev (fun k=>bJ.j0 k f t b) (!b && nY (gU (dl f)) (gU (dl t))):=by
  intro b
  refine Ev.step (fun k=>by rw [bJ.j0]) ?_
  cases b with
  | true=>exact bg rfl (Ev.now _)
  | false=>exact cu (by simp) (wo (nI f hf) (wo (nI t ht) (Ev.bind (Ri f t hf) (Ev.now _))))
 unfold bJ.f lX
 refine Ev.bind (yj f hf) (jX (fun h=>?_) (fun h=>?_))
 ·rw [h,Bool.true_and]
  refine wo (zC t ht) (jX (fun h2=>?_) (fun h2=>?_))
  ·rw [h2,Bool.true_and,Qj f (U9 h),KQ]
   refine wo rfl (jX (fun h3=>?_) (fun h3=>?_))
   ·rw [h3]
    exact wo rfl (hj _)
   ·rw [Bool.eq_false_iff.2 h3]
    exact hj false
  ·rw [Bool.eq_false_iff.2 h2]
   exact hj true
 ·rw [Bool.eq_false_iff.2 h]
  exact hj true
end Go.Proofs.YtcnfgfomholheaaGreatDoor.Pure
