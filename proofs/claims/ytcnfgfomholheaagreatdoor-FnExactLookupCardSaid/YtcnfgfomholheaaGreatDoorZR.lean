/- What the row of FnExactLookup hands over, opened into the table's types. Laid out by a program of this work. -/
import Derived.Test.YtcnfgfomholheaaGreatDoorZp
import Derived.Test.YtcnfgfomholheaaGreatDoorZc
namespace Go.Proofs.YtcnfgfomholheaaGreatDoor.Q
open Go.RowKit Go.Proofs.YtcnfgfomholheaaGreatDoor.Z
set_option linter.unusedVariables false
set_option maxRecDepth 100000
set_option maxHeartbeats 4000000
theorem acY {H:Type} {enc:TypeId × Value→H} {W:World} {base:Nat} {spare:Nat→Bool} {held:Bool} (m:Nat):Opn T enc Tryz.prog W base spare held m 41 (T.cells 41) (fun x:xY=>x.f0.size≤140737488351232):=
 (GZ Tryz.underlying41 (wG (by kernel_rfl) (yR Tryz.underlying9) (wG (by kernel_rfl) (Rh Tryz.underlying3) (NV (by kernel_rfl) (by kernel_rfl) (Rh Tryz.underlying3)))) (fun x:ByteArray × Int × Int=>(⟨x.1,x.2.1,x.2.2⟩:xY)) (fun _=>rfl) (fun _ h=>h.1)).le (Nat.le_succ m)
theorem ZI {H:Type} {enc:TypeId × Value→H} {W:World} {base:Nat} {spare:Nat→Bool} {held:Bool}:∀m:Nat,Opn T enc Tryz.prog W base spare held m 26 (T.cells 26) yS
 | 0=>fun fuel h cs x hx _=>by
   obtain rfl:fuel=0:=Nat.le_zero.1 h
   simp [DataW.trod] at hx
 | m+1=>GZ Tryz.underlying26 (wG (by kernel_rfl) ((AQ (T:=T) (e:=9) (ei:=_) rfl (fun _=>rfl) Tryz.underlying22 (by kernel_rfl) rfl (by kernel_rfl) (yR Tryz.underlying9)).le (Nat.le_succ m)) (wG (by kernel_rfl) ((AQ (T:=T) (e:=26) (ei:=_) rfl (fun _=>rfl) Tryz.underlying23 (by kernel_rfl) rfl (by kernel_rfl) (ZI m)).le (Nat.le_succ m)) (NV (by kernel_rfl) (by kernel_rfl) ((AQ (T:=T) (e:=41) (ei:=_) rfl (fun _=>rfl) Tryz.underlying24 (by kernel_rfl) rfl (by kernel_rfl) (acY m)).le (Nat.le_succ m))))) (fun x:List ByteArray × List wH × List xY=>(⟨x.1,x.2.1,x.2.2⟩:wH)) (fun _=>rfl) (fun _ h=> .mk _ h.1.1 h.1.2 h.2.1.1 h.2.2.1 h.2.2.2 h.2.1.2)
end Go.Proofs.YtcnfgfomholheaaGreatDoor.Q
