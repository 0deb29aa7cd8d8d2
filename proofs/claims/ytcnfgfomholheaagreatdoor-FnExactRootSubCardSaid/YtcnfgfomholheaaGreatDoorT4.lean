/- Topics and filters, in plain lists: a text cut at its strokes, levels that fit levels, what is hidden, what is loose; a filter that covers. No program in sight. -/
import Derived.Test.YtcnfgfomholheaaGreatDoorK
import Derived.Test.YtcnfgfomholheaaGreatDoorC1
import Derived.Test.YtcnfgfomholheaaGreatDoorPx0
import Derived.Test.YtcnfgfomholheaaGreatDoorPx5
import Derived.Test.YtcnfgfomholheaaGreatDoorPx6
import Derived.Test.YtcnfgfomholheaaGreatDoorPx2
import Derived.Test.YtcnfgfomholheaaGreatDoorT1
import Derived.Test.YtcnfgfomholheaaGreatDoorT2
import Derived.Test.YtcnfgfomholheaaGreatDoorT3
import Derived.Test.YtcnfgfomholheaaGreatDoorX6
import Derived.Lib.Split
import Derived.Lib.SplitLaws
import Derived.Lib.CountLaws
import Derived.Lib.Join
import Derived.Lib.IndexAny
import Derived.WideShapes
namespace Go.Proofs.YtcnfgfomholheaaGreatDoor.Pure
open Go.RowKit Go.Proofs.YtcnfgfomholheaaGreatDoor.X Go.Proofs.YtcnfgfomholheaaGreatDoor.P Go.Proofs.YtcnfgfomholheaaGreatDoorW.PrintWords Go.Proofs.YtcnfgfomholheaaGreatDoorW.PrintLast Go.Proofs.YtcnfgfomholheaaGreatDoor.K
set_option linter.unusedVariables false
set_option linter.unusedSimpArgs false
def wQ (l:List UInt8):Bool:=l.head? ==some 36
def Fe (l:List UInt8):Bool:=l.head? ==some 43 || l.head? ==some 35
abbrev XF (f g:List (List UInt8)):Bool:=oG [43] [35] f g
end Go.Proofs.YtcnfgfomholheaaGreatDoor.Pure
