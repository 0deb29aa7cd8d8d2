/- What the row of FnExactKeptWanted hands over, opened into the table's types. Laid out by a program of this work. -/
import Derived.Test.YtcnfgfomholheaaGreatDoorZq
import Derived.Test.YtcnfgfomholheaaGreatDoorZc
namespace Go.Proofs.YtcnfgfomholheaaGreatDoor.Q
open Go.RowKit Go.Proofs.YtcnfgfomholheaaGreatDoor.Z
set_option linter.unusedVariables false
set_option maxRecDepth 100000
set_option maxHeartbeats 4000000
theorem ac5 {H:Type} {enc:TypeId × Value→H} {W:World} {base:Nat} {spare:Nat→Bool} {held:Bool} (m:Nat):Opn T enc Tryz.prog W base spare held m 41 (T.cells 41) (fun x:yT=>x.f0.size≤140737488351232):=
 (qW Tryz.underlying41 (lq (by kernel_rfl) (uU Tryz.underlying9) (lq (by kernel_rfl) (sD Tryz.underlying3) (wB (by kernel_rfl) (by kernel_rfl) (sD Tryz.underlying3)))) (fun x:ByteArray × Int × Int=>(⟨x.1,x.2.1,x.2.2⟩:yT)) (fun _=>rfl) (fun _ h=>h.1)).le (Nat.le_succ m)
theorem ZK {H:Type} {enc:TypeId × Value→H} {W:World} {base:Nat} {spare:Nat→Bool} {held:Bool}:∀m:Nat,Opn T enc Tryz.prog W base spare held m 26 (T.cells 26) yw
 | 0=>fun fuel h cs x hx _=>by
   obtain rfl:fuel=0:=Nat.le_zero.1 h
   simp [DataW.trod] at hx
 | m+1=>qW Tryz.underlying26 (lq (by kernel_rfl) ((ou (T:=T) (e:=9) (ei:=_) rfl (fun _=>rfl) Tryz.underlying22 (by kernel_rfl) rfl (by kernel_rfl) (uU Tryz.underlying9)).le (Nat.le_succ m)) (lq (by kernel_rfl) ((ou (T:=T) (e:=26) (ei:=_) rfl (fun _=>rfl) Tryz.underlying23 (by kernel_rfl) rfl (by kernel_rfl) (ZK m)).le (Nat.le_succ m)) (wB (by kernel_rfl) (by kernel_rfl) ((ou (T:=T) (e:=41) (ei:=_) rfl (fun _=>rfl) Tryz.underlying24 (by kernel_rfl) rfl (by kernel_rfl) (ac5 m)).le (Nat.le_succ m))))) (fun x:List ByteArray × List wC × List yT=>(⟨x.1,x.2.1,x.2.2⟩:wC)) (fun _=>rfl) (fun _ h=> .mk _ h.1.1 h.1.2 h.2.1.1 h.2.2.1 h.2.2.2 h.2.1.2)
theorem ad6 {H:Type} {enc:TypeId × Value→H} {W:World} {base:Nat} {spare:Nat→Bool} {held:Bool} (m:Nat):Opn T enc Tryz.prog W base spare held m 76 (fun l:List Int=>[.sl 3 l]) (fun l=>l.length≤140737488351232∧∀x∈l,(Lit.int .i64 x).wf=true):=
 ((ou (T:=T) (e:=3) (ei:=_) rfl (fun _=>rfl) Tryz.underlying76 (by kernel_rfl) rfl (by kernel_rfl) (sD Tryz.underlying3)).le (Nat.le_succ m))
theorem abv {H:Type} {enc:TypeId × Value→H} {W:World} {base:Nat} {spare:Nat→Bool} {held:Bool} (m:Nat):Opn T enc Tryz.prog W base spare held m 142 (T.cells 142) (fun x:uH=>x.f0.size≤140737488351232):=
 (qW Tryz.underlying142 (lq (by kernel_rfl) (uU Tryz.underlying9) (wB (by kernel_rfl) (by kernel_rfl) (sD Tryz.underlying3))) (fun x:ByteArray × Int=>(⟨x.1,x.2⟩:uH)) (fun _=>rfl) (fun _ h=>h.1)).le (Nat.le_succ m)
theorem ad5 {H:Type} {enc:TypeId × Value→H} {W:World} {base:Nat} {spare:Nat→Bool} {held:Bool} (m:Nat):Opn T enc Tryz.prog W base spare held m 74 (fun l:List uH=>[.sl 142 l]) (fun l=>l.length≤140737488351232∧∀x∈l,x.f0.size≤140737488351232):=
 ((ou (T:=T) (e:=142) (ei:=_) rfl (fun _=>rfl) Tryz.underlying74 (by kernel_rfl) rfl (by kernel_rfl) (abv m)).le (Nat.le_succ m))
theorem abw {H:Type} {enc:TypeId × Value→H} {W:World} {base:Nat} {spare:Nat→Bool} {held:Bool} (m:Nat):Opn T enc Tryz.prog W base spare held m 186 (T.cells 186) (fun x:uI=>x.f0.size≤140737488351232∧x.f1.length≤140737488351232):=
 (qW Tryz.underlying186 (lq (by kernel_rfl) (uU Tryz.underlying9) (lq (by kernel_rfl) ((ou (T:=T) (e:=5) (ei:=_) rfl (fun _=>rfl) Tryz.underlying68 (by kernel_rfl) rfl (by kernel_rfl) (sD Tryz.underlying5)).le (Nat.le_succ m)) (wB (by kernel_rfl) (by kernel_rfl) (sD Tryz.underlying3)))) (fun x:ByteArray × List Int × Int=>(⟨x.1,x.2.1,x.2.2⟩:uI)) (fun _=>rfl) (fun _ h=>⟨h.1,h.2.1.1⟩)).le (Nat.le_succ m)
theorem ad4 {H:Type} {enc:TypeId × Value→H} {W:World} {base:Nat} {spare:Nat→Bool} {held:Bool} (m:Nat):Opn T enc Tryz.prog W base spare held m 52 VW abx:=
 (qW Tryz.underlying52 (lq (by kernel_rfl) (sD Tryz.underlying3) (lq (by kernel_rfl) (ZK m) (wB (by kernel_rfl) (by kernel_rfl) ((ou (T:=T) (e:=186) (ei:=_) rfl (fun _=>rfl) Tryz.underlying50 (by kernel_rfl) rfl (by kernel_rfl) (abw m)).le (Nat.le_succ m))))) (fun x:Int × wC × List uI=>(⟨x.1,x.2.1,x.2.2⟩:RL)) (fun _=>rfl) (fun _ h=>⟨h.2.1,h.2.2.1,h.2.2.2⟩)).le (Nat.le_succ m)
end Go.Proofs.YtcnfgfomholheaaGreatDoor.Q
