/- Topics and filters, in plain lists: a text cut at its strokes, levels that fit levels, what is hidden, what is loose; a filter that covers. No program in sight. -/
import Derived.Test.YtcnfgfomholheaaGreatDoorK
import Derived.Test.YtcnfgfomholheaaGreatDoorPx0
import Derived.Test.YtcnfgfomholheaaGreatDoorT1
import Derived.Test.YtcnfgfomholheaaGreatDoorT2
import Derived.Test.YtcnfgfomholheaaGreatDoorT3
import Derived.Test.YtcnfgfomholheaaGreatDoorT4
import Derived.Test.YtcnfgfomholheaaGreatDoorT5
import Derived.Test.YtcnfgfomholheaaGreatDoorX5
import Derived.Test.YtcnfgfomholheaaGreatDoorT1
import Derived.Test.YtcnfgfomholheaaGreatDoorT2
import Derived.Test.YtcnfgfomholheaaGreatDoorT3
import Derived.Test.YtcnfgfomholheaaGreatDoorT4
import Derived.Test.YtcnfgfomholheaaGreatDoorT5
import Derived.Test.YtcnfgfomholheaaGreatDoorX5
import Derived.Lib.Split
import Derived.Lib.SplitLaws
import Derived.Lib.CountLaws
import Derived.Lib.Join
import Derived.Lib.IndexAny
import Derived.WideShapes
namespace Go.Proofs.YtcnfgfomholheaaGreatDoor.Pure
open Go.RowKit Go.Proofs.YtcnfgfomholheaaGreatDoor.X Go.Proofs.YtcnfgfomholheaaGreatDoor.P Go.Proofs.YtcnfgfomholheaaGreatDoorW.PrintWords Go.Proofs.YtcnfgfomholheaaGreatDoorW.PrintLast Go.Proofs.YtcnfgfomholheaaGreatDoor.K
set_option linter.unusedVariables false
set_option linter.unusedSimpArgs false
theorem chain {f g k:List UInt8} (h1:(pU f && mg g)=false) (h2:nY (gU f) (gU g)=true) (h3:(pU g && mg k)=false) (h4:nY (gU g) (gU k)=true):
  (pU f && mg k)=false∧nY (gU f) (gU k)=true:=by
 refine⟨?_,FH _ _ (by decide) _ _ _ h2 h4⟩
 cases hf:pU f
 ·rfl
 ·rw [hf,Bool.true_and] at h1
  cases hk:mg k
  ·rfl
  ·exfalso
   rw [hk,Bool.and_true] at h3
   obtain⟨x,r,ex⟩:=sS g
   obtain⟨y,r',ey⟩:=sS k
   have kx:=MW g x r ex
   have ky:=MW k y r' ey
   have hk':k.head? =some 36:=by simpa [mg] using hk
   have hy:y.head? =some 36:=by
    rcases ky with ⟨e,_⟩ | ⟨_,e⟩
    ·rw [e,hk']
    ·rw [hk'] at e;exact absurd e (by decide)
   have hg:g.head?≠some 43∧g.head?≠some 35:=by simpa [pU] using h3
   have hg2:g.head?≠some 36:=by simpa [mg] using h1
   have afb:x≠[43]:=by
    intro e
    rcases kx with ⟨q,_⟩ | ⟨q,_⟩
    ·rw [e] at q;exact hg.1 q.symm
    ·rw [e] at q;cases q
   have afc:x≠[35]:=by
    intro e
    rcases kx with ⟨q,_⟩ | ⟨q,_⟩
    ·rw [e] at q;exact hg.2 q.symm
    ·rw [e] at q;cases q
   rw [ex,ey] at h4
   have hxy:=Rk afb afc h4
   rw [hxy] at kx
   rcases kx with ⟨q,_⟩ | ⟨q,_⟩
   ·rw [hy] at q;exact hg2 q.symm
   ·rw [q] at hy;cases hy
end Go.Proofs.YtcnfgfomholheaaGreatDoor.Pure
