/- The laid world of this seat: the settled world with the listed tables laid; the tables' fact out of the row's own premise. Laid out by a program of this work (tied.py) after the kit's DeepOkProofs.lean. -/
import Derived.Test.YtcnfgfomholheaaGreatDoorRows
import Derived.Test.YtcnfgfomholheaaGreatDoorSh
import Derived.Test.YtcnfgfomholheaaGreatDoorX1
import Derived.Lib.LaidIn
import Derived.Lib.LaidU8T
import Derived.Deep.DeepHandedRow
import Derived.Deep.DeepWitnessRowRef
import Derived.ProofKit
namespace Go.Proofs.YtcnfgfomholheaaGreatDoor.Laid
open Go.Shelf Go.RowKit Go.Lib
theorem own:ownKnob Tryz.prog.godebug=none:=by kernel_rfl
def lst:List (String × DataW Unit):=[("unicode/utf8.acceptRanges",Rows.laid_unicode_utf8_acceptRanges),("unicode/utf8.first",Rows.laid_unicode_utf8_first)]
noncomputable def world (os:Os):World:=
 let w0:=World.holding Tryz.prog os ⟨#[],#[],[]⟩
 let put (h:Array Obj) (g:Nat) (cs:Array Value):Array Obj:=h.modify g fun
  | .cells _ t frozen=> .cells cs t frozen
  | o=>o
 let h1:=put w0.heap 0 (Lib.firstTab.map fun z=>Value.int .u8 z).toArray
 let h2:=put h1 1 ((List.range 16).flatMap fun i=>[Value.int .u8 (Lib.accLo i),Value.int .u8 (Lib.accHi i)]).toArray
 {w0 with heap:=h2}
theorem laid_met (os:Os) (args:Array Value):laidMet Tryz.prog lst ((world os).forCall (fun _ _=>0) ⟨#[],args,[]⟩).memory:=
 (LaidIn.of_run (l:=lst) [0,1] 8 (by kernel_rfl) (by kernel_rfl) (by kernel_rfl) (by kernel_rfl)).met
theorem abn:(Rows.laid_unicode_utf8_first:DataW Unit)=Lib.firstData:=by kernel_rfl
theorem aao:(Rows.laid_unicode_utf8_acceptRanges:DataW Unit)=Lib.acceptData:=by kernel_rfl
theorem abo:("unicode/utf8.first",Lib.firstData)∈lst:=by
 rw [←abn]
 unfold lst
 exact List.mem_cons_of_mem _ (List.mem_cons_self)
theorem aap:("unicode/utf8.acceptRanges",Lib.acceptData)∈lst:=by
 rw [←aao]
 unfold lst
 exact List.mem_cons_self
theorem tabs {W:World} (hL:laidMet Tryz.prog lst W) (hs:W.ShapedOpen Tryz.prog):X.Tabs W:=
 ⟨utf8Tabs_of_readsT (U8Types.of196 Tryz.Rl) ⟨by kernel_rfl,by kernel_rfl,by kernel_rfl,by kernel_rfl,by kernel_rfl,by kernel_rfl,by kernel_rfl⟩ (Lib.laidMet.reads hL abo) (Lib.laidMet.reads hL aap),Tryz.laysM146.s1_3 W hs⟩
end Go.Proofs.YtcnfgfomholheaaGreatDoor.Laid
