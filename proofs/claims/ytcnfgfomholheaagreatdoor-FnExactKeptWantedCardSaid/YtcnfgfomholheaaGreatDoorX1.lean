/- Contracts of functions that the print does not take, in the form in which the print takes its callees: utf8.DecodeRune, utf8.RuneCountInString, strings.Split, impl.TextOk. Conditions: the package-level tables as laid (Tabs); each function's own '.f' is 'none' where its contract says nothing. -/
import Derived.Test.YtcnfgfomholheaaGreatDoorProg
import Derived.Test.YtcnfgfomholheaaGreatDoorSh
import Derived.Test.YtcnfgfomholheaaGreatDoorK
import Derived.Test.YtcnfgfomholheaaGreatDoorWd
import Derived.Laws.RangeString
import Derived.Laws.RangeAny
import Derived.LoopTactic
import Derived.Deep.DeepMust
namespace Go.Proofs.YtcnfgfomholheaaGreatDoor.X
open Go.RowKit Go.Proofs.YtcnfgfomholheaaGreatDoorW.PrintWords Go.Proofs.YtcnfgfomholheaaGreatDoorW.PrintLast Go.Proofs.YtcnfgfomholheaaGreatDoorW.PrintMore
set_option linter.unusedVariables false
set_option linter.unusedSimpArgs false
def Tabs (w:World):Prop:=Lib.Utf8Tabs 0 1 w∧∃m:Int,w.cell? ⟨2,0,none⟩=some (.int .i64 m)
theorem Tabs.below {w w':World} (h:Tabs w) (hb:Below w.heap.size w w'):Tabs w':=by
 obtain⟨h1,m,h2⟩:=h
 exact⟨Utf8Tabs_below h1 hb,m,(hb.cell (World.block_lt_of_cell? w _ h2)).trans h2⟩
theorem Tabs.drewN {w:World} (h:Tabs w) (n:Nat):Tabs (w.drewN n):=Tabs.below h (ah (Below.refl _ _) n)
end Go.Proofs.YtcnfgfomholheaaGreatDoor.X
