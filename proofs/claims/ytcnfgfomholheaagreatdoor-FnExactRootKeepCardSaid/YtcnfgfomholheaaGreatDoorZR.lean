/- What the row of FnExactRootKeep hands over, opened into the table's types. Laid out by a program of this work. -/
import Derived.Test.YtcnfgfomholheaaGreatDoorZq
import Derived.Test.YtcnfgfomholheaaGreatDoorZc
namespace Go.Proofs.YtcnfgfomholheaaGreatDoor.Q
open Go.RowKit Go.Proofs.YtcnfgfomholheaaGreatDoor.Z
set_option linter.unusedVariables false
set_option maxRecDepth 100000
set_option maxHeartbeats 4000000
theorem acT {H:Type} {enc:TypeId × Value→H} {W:World} {base:Nat} {spare:Nat→Bool} {held:Bool} (m:Nat):Opn T enc Tryz.prog W base spare held m 41 (T.cells 41) (fun x:xZ=>x.f0.size≤140737488351232):=
 (tY Tryz.underlying41 (lG (by kernel_rfl) (tX Tryz.underlying9) (lG (by kernel_rfl) (uN Tryz.underlying3) (yO (by kernel_rfl) (by kernel_rfl) (uN Tryz.underlying3)))) (fun x:ByteArray × Int × Int=>(⟨x.1,x.2.1,x.2.2⟩:xZ)) (fun _=>rfl) (fun _ h=>h.1)).le (Nat.le_succ m)
theorem Zg {H:Type} {enc:TypeId × Value→H} {W:World} {base:Nat} {spare:Nat→Bool} {held:Bool}:∀m:Nat,Opn T enc Tryz.prog W base spare held m 26 (T.cells 26) xC
 | 0=>fun fuel h cs x hx _=>by
   obtain rfl:fuel=0:=Nat.le_zero.1 h
   simp [DataW.trod] at hx
 | m+1=>tY Tryz.underlying26 (lG (by kernel_rfl) ((pG (T:=T) (e:=9) (ei:=_) rfl (fun _=>rfl) Tryz.underlying22 (by kernel_rfl) rfl (by kernel_rfl) (tX Tryz.underlying9)).le (Nat.le_succ m)) (lG (by kernel_rfl) ((pG (T:=T) (e:=26) (ei:=_) rfl (fun _=>rfl) Tryz.underlying23 (by kernel_rfl) rfl (by kernel_rfl) (Zg m)).le (Nat.le_succ m)) (yO (by kernel_rfl) (by kernel_rfl) ((pG (T:=T) (e:=41) (ei:=_) rfl (fun _=>rfl) Tryz.underlying24 (by kernel_rfl) rfl (by kernel_rfl) (acT m)).le (Nat.le_succ m))))) (fun x:List ByteArray × List uV × List xZ=>(⟨x.1,x.2.1,x.2.2⟩:uV)) (fun _=>rfl) (fun _ h=> .mk _ h.1.1 h.1.2 h.2.1.1 h.2.2.1 h.2.2.2 h.2.1.2)
theorem adO {H:Type} {enc:TypeId × Value→H} {W:World} {base:Nat} {spare:Nat→Bool} {held:Bool} (m:Nat):Opn T enc Tryz.prog W base spare held m 68 (fun l:List Int=>[.sl 5 l]) (fun l=>l.length≤140737488351232∧∀x∈l,(Lit.int .u8 x).wf=true):=
 ((pG (T:=T) (e:=5) (ei:=_) rfl (fun _=>rfl) Tryz.underlying68 (by kernel_rfl) rfl (by kernel_rfl) (uN Tryz.underlying5)).le (Nat.le_succ m))
theorem abb {H:Type} {enc:TypeId × Value→H} {W:World} {base:Nat} {spare:Nat→Bool} {held:Bool} (m:Nat):Opn T enc Tryz.prog W base spare held m 186 (T.cells 186) (fun x:sV=>x.f0.size≤140737488351232∧x.f1.length≤140737488351232):=
 (tY Tryz.underlying186 (lG (by kernel_rfl) (tX Tryz.underlying9) (lG (by kernel_rfl) ((pG (T:=T) (e:=5) (ei:=_) rfl (fun _=>rfl) Tryz.underlying68 (by kernel_rfl) rfl (by kernel_rfl) (uN Tryz.underlying5)).le (Nat.le_succ m)) (yO (by kernel_rfl) (by kernel_rfl) (uN Tryz.underlying3)))) (fun x:ByteArray × List Int × Int=>(⟨x.1,x.2.1,x.2.2⟩:sV)) (fun _=>rfl) (fun _ h=>⟨h.1,h.2.1.1⟩)).le (Nat.le_succ m)
theorem adN {H:Type} {enc:TypeId × Value→H} {W:World} {base:Nat} {spare:Nat→Bool} {held:Bool} (m:Nat):Opn T enc Tryz.prog W base spare held m 52 Vx abd:=
 (tY Tryz.underlying52 (lG (by kernel_rfl) (uN Tryz.underlying3) (lG (by kernel_rfl) (Zg m) (yO (by kernel_rfl) (by kernel_rfl) ((pG (T:=T) (e:=186) (ei:=_) rfl (fun _=>rfl) Tryz.underlying50 (by kernel_rfl) rfl (by kernel_rfl) (abb m)).le (Nat.le_succ m))))) (fun x:Int × uV × List sV=>(⟨x.1,x.2.1,x.2.2⟩:RL)) (fun _=>rfl) (fun _ h=>⟨h.2.1,h.2.2.1,h.2.2.2⟩)).le (Nat.le_succ m)
end Go.Proofs.YtcnfgfomholheaaGreatDoor.Q
