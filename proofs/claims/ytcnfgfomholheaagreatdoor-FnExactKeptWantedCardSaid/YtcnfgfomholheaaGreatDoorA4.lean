/- What the small functions of the laws and of the program come to: copies, comparisons, marks of bytes and numbers; joined; PutWord, GetWord, PutBytes, GetBytes, PutLen. No program in sight. -/
import Derived.Test.YtcnfgfomholheaaGreatDoorK
import Derived.Test.YtcnfgfomholheaaGreatDoorK
import Derived.Test.YtcnfgfomholheaaGreatDoorPx0
import Derived.Test.YtcnfgfomholheaaGreatDoorPx3
namespace Go.Proofs.YtcnfgfomholheaaGreatDoor.Pure
open Go.RowKit Go.Proofs.YtcnfgfomholheaaGreatDoor.P Go.Proofs.YtcnfgfomholheaaGreatDoorW.PrintWords Go.Proofs.YtcnfgfomholheaaGreatDoorW.PrintLast Go.Proofs.YtcnfgfomholheaaGreatDoor.K
set_option linter.unusedVariables false
set_option linter.unusedSimpArgs false
theorem abm (a b c:Int):oO.f a b c=some (decide (b≤a∧a≤c)):=by
 unfold oO.f
 by_cases h:a≥b
 ·rw [if_pos h];congr 1;simp;omega
 ·rw [if_neg h];congr 1;symm;simp;omega
end Go.Proofs.YtcnfgfomholheaaGreatDoor.Pure
