/- What the row of FnExactRootSub hands over, opened into the table's types. Laid out by a program of this work. -/
import Derived.Test.YtcnfgfomholheaaGreatDoorZq
import Derived.Test.YtcnfgfomholheaaGreatDoorZc
namespace Go.Proofs.YtcnfgfomholheaaGreatDoor.Q
open Go.RowKit Go.Proofs.YtcnfgfomholheaaGreatDoor.Z
set_option linter.unusedVariables false
set_option maxRecDepth 100000
set_option maxHeartbeats 4000000
theorem ae1 {H:Type} {enc:TypeId × Value→H} {W:World} {base:Nat} {spare:Nat→Bool} {held:Bool} (m:Nat):Opn T enc Tryz.prog W base spare held m 41 (T.cells 41) (fun x:zF=>x.f0.size≤140737488351232):=
 (rP Tryz.underlying41 (lC (by kernel_rfl) (rO Tryz.underlying9) (lC (by kernel_rfl) (wJ Tryz.underlying3) (wU (by kernel_rfl) (by kernel_rfl) (wJ Tryz.underlying3)))) (fun x:ByteArray × Int × Int=>(⟨x.1,x.2.1,x.2.2⟩:zF)) (fun _=>rfl) (fun _ h=>h.1)).le (Nat.le_succ m)
theorem abC {H:Type} {enc:TypeId × Value→H} {W:World} {base:Nat} {spare:Nat→Bool} {held:Bool}:∀m:Nat,Opn T enc Tryz.prog W base spare held m 26 (T.cells 26) y8
 | 0=>fun fuel h cs x hx _=>by
   obtain rfl:fuel=0:=Nat.le_zero.1 h
   simp [DataW.trod] at hx
 | m+1=>rP Tryz.underlying26 (lC (by kernel_rfl) ((qW (T:=T) (e:=9) (ei:=_) rfl (fun _=>rfl) Tryz.underlying22 (by kernel_rfl) rfl (by kernel_rfl) (rO Tryz.underlying9)).le (Nat.le_succ m)) (lC (by kernel_rfl) ((qW (T:=T) (e:=26) (ei:=_) rfl (fun _=>rfl) Tryz.underlying23 (by kernel_rfl) rfl (by kernel_rfl) (abC m)).le (Nat.le_succ m)) (wU (by kernel_rfl) (by kernel_rfl) ((qW (T:=T) (e:=41) (ei:=_) rfl (fun _=>rfl) Tryz.underlying24 (by kernel_rfl) rfl (by kernel_rfl) (ae1 m)).le (Nat.le_succ m))))) (fun x:List ByteArray × List wV × List zF=>(⟨x.1,x.2.1,x.2.2⟩:wV)) (fun _=>rfl) (fun _ h=> .mk _ h.1.1 h.1.2 h.2.1.1 h.2.2.1 h.2.2.2 h.2.1.2)
theorem ads {H:Type} {enc:TypeId × Value→H} {W:World} {base:Nat} {spare:Nat→Bool} {held:Bool} (m:Nat):Opn T enc Tryz.prog W base spare held m 142 (T.cells 142) (fun x:vI=>x.f0.size≤140737488351232):=
 (rP Tryz.underlying142 (lC (by kernel_rfl) (rO Tryz.underlying9) (wU (by kernel_rfl) (by kernel_rfl) (wJ Tryz.underlying3))) (fun x:ByteArray × Int=>(⟨x.1,x.2⟩:vI)) (fun _=>rfl) (fun _ h=>h.1)).le (Nat.le_succ m)
theorem afU {H:Type} {enc:TypeId × Value→H} {W:World} {base:Nat} {spare:Nat→Bool} {held:Bool} (m:Nat):Opn T enc Tryz.prog W base spare held m 74 (fun l:List vI=>[.sl 142 l]) (fun l=>l.length≤140737488351232∧∀x∈l,x.f0.size≤140737488351232):=
 ((qW (T:=T) (e:=142) (ei:=_) rfl (fun _=>rfl) Tryz.underlying74 (by kernel_rfl) rfl (by kernel_rfl) (ads m)).le (Nat.le_succ m))
theorem adt {H:Type} {enc:TypeId × Value→H} {W:World} {base:Nat} {spare:Nat→Bool} {held:Bool} (m:Nat):Opn T enc Tryz.prog W base spare held m 186 (T.cells 186) (fun x:vJ=>x.f0.size≤140737488351232∧x.f1.length≤140737488351232):=
 (rP Tryz.underlying186 (lC (by kernel_rfl) (rO Tryz.underlying9) (lC (by kernel_rfl) ((qW (T:=T) (e:=5) (ei:=_) rfl (fun _=>rfl) Tryz.underlying68 (by kernel_rfl) rfl (by kernel_rfl) (wJ Tryz.underlying5)).le (Nat.le_succ m)) (wU (by kernel_rfl) (by kernel_rfl) (wJ Tryz.underlying3)))) (fun x:ByteArray × List Int × Int=>(⟨x.1,x.2.1,x.2.2⟩:vJ)) (fun _=>rfl) (fun _ h=>⟨h.1,h.2.1.1⟩)).le (Nat.le_succ m)
theorem afT {H:Type} {enc:TypeId × Value→H} {W:World} {base:Nat} {spare:Nat→Bool} {held:Bool} (m:Nat):Opn T enc Tryz.prog W base spare held m 52 XY adu:=
 (rP Tryz.underlying52 (lC (by kernel_rfl) (wJ Tryz.underlying3) (lC (by kernel_rfl) (abC m) (wU (by kernel_rfl) (by kernel_rfl) ((qW (T:=T) (e:=186) (ei:=_) rfl (fun _=>rfl) Tryz.underlying50 (by kernel_rfl) rfl (by kernel_rfl) (adt m)).le (Nat.le_succ m))))) (fun x:Int × wV × List vJ=>(⟨x.1,x.2.1,x.2.2⟩:RL)) (fun _=>rfl) (fun _ h=>⟨h.2.1,h.2.2.1,h.2.2.2⟩)).le (Nat.le_succ m)
end Go.Proofs.YtcnfgfomholheaaGreatDoor.Q
