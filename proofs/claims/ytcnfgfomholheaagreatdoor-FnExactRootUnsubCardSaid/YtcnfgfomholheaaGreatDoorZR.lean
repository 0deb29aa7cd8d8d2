/- What the row of FnExactRootUnsub hands over, opened into the table's types. Laid out by a program of this work. -/
import Derived.Test.YtcnfgfomholheaaGreatDoorZq
import Derived.Test.YtcnfgfomholheaaGreatDoorZc
namespace Go.Proofs.YtcnfgfomholheaaGreatDoor.Q
open Go.RowKit Go.Proofs.YtcnfgfomholheaaGreatDoor.Z
set_option linter.unusedVariables false
set_option maxRecDepth 100000
set_option maxHeartbeats 4000000
theorem adk {H:Type} {enc:TypeId × Value→H} {W:World} {base:Nat} {spare:Nat→Bool} {held:Bool} (m:Nat):Opn T enc Tryz.prog W base spare held m 41 (T.cells 41) (fun x:yK=>x.f0.size≤140737488351232):=
 (uw Tryz.underlying41 (lQ (by kernel_rfl) (qm Tryz.underlying9) (lQ (by kernel_rfl) (yL Tryz.underlying3) (zq (by kernel_rfl) (by kernel_rfl) (yL Tryz.underlying3)))) (fun x:ByteArray × Int × Int=>(⟨x.1,x.2.1,x.2.2⟩:yK)) (fun _=>rfl) (fun _ h=>h.1)).le (Nat.le_succ m)
theorem ZP {H:Type} {enc:TypeId × Value→H} {W:World} {base:Nat} {spare:Nat→Bool} {held:Bool}:∀m:Nat,Opn T enc Tryz.prog W base spare held m 26 (T.cells 26) xZ
 | 0=>fun fuel h cs x hx _=>by
   obtain rfl:fuel=0:=Nat.le_zero.1 h
   simp [DataW.trod] at hx
 | m+1=>uw Tryz.underlying26 (lQ (by kernel_rfl) ((pV (T:=T) (e:=9) (ei:=_) rfl (fun _=>rfl) Tryz.underlying22 (by kernel_rfl) rfl (by kernel_rfl) (qm Tryz.underlying9)).le (Nat.le_succ m)) (lQ (by kernel_rfl) ((pV (T:=T) (e:=26) (ei:=_) rfl (fun _=>rfl) Tryz.underlying23 (by kernel_rfl) rfl (by kernel_rfl) (ZP m)).le (Nat.le_succ m)) (zq (by kernel_rfl) (by kernel_rfl) ((pV (T:=T) (e:=41) (ei:=_) rfl (fun _=>rfl) Tryz.underlying24 (by kernel_rfl) rfl (by kernel_rfl) (adk m)).le (Nat.le_succ m))))) (fun x:List ByteArray × List vJ × List yK=>(⟨x.1,x.2.1,x.2.2⟩:vJ)) (fun _=>rfl) (fun _ h=> .mk _ h.1.1 h.1.2 h.2.1.1 h.2.2.1 h.2.2.2 h.2.1.2)
theorem aed {H:Type} {enc:TypeId × Value→H} {W:World} {base:Nat} {spare:Nat→Bool} {held:Bool} (m:Nat):Opn T enc Tryz.prog W base spare held m 22 (fun l:List ByteArray=>[.sl 9 l]) (fun l=>l.length≤140737488351232∧∀x∈l,x.size≤140737488351232):=
 ((pV (T:=T) (e:=9) (ei:=_) rfl (fun _=>rfl) Tryz.underlying22 (by kernel_rfl) rfl (by kernel_rfl) (qm Tryz.underlying9)).le (Nat.le_succ m))
theorem aby {H:Type} {enc:TypeId × Value→H} {W:World} {base:Nat} {spare:Nat→Bool} {held:Bool} (m:Nat):Opn T enc Tryz.prog W base spare held m 186 (T.cells 186) (fun x:tV=>x.f0.size≤140737488351232∧x.f1.length≤140737488351232):=
 (uw Tryz.underlying186 (lQ (by kernel_rfl) (qm Tryz.underlying9) (lQ (by kernel_rfl) ((pV (T:=T) (e:=5) (ei:=_) rfl (fun _=>rfl) Tryz.underlying68 (by kernel_rfl) rfl (by kernel_rfl) (yL Tryz.underlying5)).le (Nat.le_succ m)) (zq (by kernel_rfl) (by kernel_rfl) (yL Tryz.underlying3)))) (fun x:ByteArray × List Int × Int=>(⟨x.1,x.2.1,x.2.2⟩:tV)) (fun _=>rfl) (fun _ h=>⟨h.1,h.2.1.1⟩)).le (Nat.le_succ m)
theorem aec {H:Type} {enc:TypeId × Value→H} {W:World} {base:Nat} {spare:Nat→Bool} {held:Bool} (m:Nat):Opn T enc Tryz.prog W base spare held m 52 Wh abz:=
 (uw Tryz.underlying52 (lQ (by kernel_rfl) (yL Tryz.underlying3) (lQ (by kernel_rfl) (ZP m) (zq (by kernel_rfl) (by kernel_rfl) ((pV (T:=T) (e:=186) (ei:=_) rfl (fun _=>rfl) Tryz.underlying50 (by kernel_rfl) rfl (by kernel_rfl) (aby m)).le (Nat.le_succ m))))) (fun x:Int × vJ × List tV=>(⟨x.1,x.2.1,x.2.2⟩:RL)) (fun _=>rfl) (fun _ h=>⟨h.2.1,h.2.2.1,h.2.2.2⟩)).le (Nat.le_succ m)
end Go.Proofs.YtcnfgfomholheaaGreatDoor.Q
