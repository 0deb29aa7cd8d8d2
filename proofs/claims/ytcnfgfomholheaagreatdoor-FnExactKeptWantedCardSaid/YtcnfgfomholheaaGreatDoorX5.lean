/- Contracts of functions that the print does not take, in the form in which the print takes its callees: utf8.DecodeRune, utf8.RuneCountInString, strings.Split, impl.TextOk. Conditions: the package-level tables as laid (Tabs); each function's own '.f' is 'none' where its contract says nothing. -/
import Derived.Test.YtcnfgfomholheaaGreatDoorProg
import Derived.Test.YtcnfgfomholheaaGreatDoorSh
import Derived.Test.YtcnfgfomholheaaGreatDoorX1
import Derived.Test.YtcnfgfomholheaaGreatDoorWd
import Derived.Laws.RangeString
import Derived.Laws.RangeAny
import Derived.LoopTactic
import Derived.Deep.DeepMust
namespace Go.Proofs.YtcnfgfomholheaaGreatDoor.X
open Go.RowKit Go.Proofs.YtcnfgfomholheaaGreatDoorW.PrintWords Go.Proofs.YtcnfgfomholheaaGreatDoorW.PrintLast Go.Proofs.YtcnfgfomholheaaGreatDoorW.PrintMore
set_option linter.unusedVariables false
set_option linter.unusedSimpArgs false
def lH (s:ByteArray):Nat→Nat→Bool
 | 0,_=>true
 | b+1,pos=>if pos<s.size then (if (Utf8.decode s pos).1=0 then false else lH s b (pos+(Utf8.decode s pos).2)) else true
def fP (s:ByteArray):Bool:=lH s s.size 0 && (Lib.validD s.data.toList && decide (s.size≤60))
def fG.f (a0:ByteArray):Option Bool:=if a0.size<9223372036854775807 then some (fP a0) else none
set_option maxHeartbeats 4000000 in
set_option maxRecDepth 1000000 in
theorem fG.calls (a0:ByteArray) (r:Bool) (w:World) (hT:Tabs w) (h:fG.f a0=some r):
  Calls Tryz.prog 147 #[.string a0] w fun e w'=>e= .returned (.bool r)∧Below w.heap.size w w':=by
 unfold fG.f at h
 by_cases hs:a0.size<9223372036854775807
 ·rw [if_pos hs] at h
  simp only [Option.some.injEq] at h
  subst h
  have hv:∀w1,Below w.heap.size w w1→Calls Tryz.prog 194 #[.string a0] w1 fun e w'=>e= .returned (.bool (Lib.validD a0.data.toList))∧Below w1.heap.size w1 w':=
   fun w1 hb=>Any.utf8_ValidString Tryz.Rl a0 w1 (by omega) (Tabs.below hT hb).1
  have Hv:=Aside0.mk hv
  clear hv hT
  unfold fP
  obtain⟨Z,hZ⟩:∃Z,lH a0 a0.size 0=Z:=⟨_,rfl⟩
  obtain⟨V,hV⟩:∃V,Lib.validD a0.data.toList=V:=⟨_,rfl⟩
  rw [hV] at Hv
  rw [hZ,hV]
  have HZ:=Aside0.mk hZ
  clear hZ hV
  go_enter Tryz.func147,Tryz.ntmps147
  go_wp2
  go_loopw [4] (fun _ w'=>∃(pos b:Nat),w'=w.iter a0 pos∧Aside0 (lH a0 b pos=Z)∧a0.size≤pos+b) (fun _ w'=>a0.size - w'.iterPos w.heap.size)
  case atStart=>exact⟨0,a0.size,rfl,HZ,by omega⟩
  case round=>
   clear HZ
   obtain⟨pos,b,rfl,hc,hb⟩:=hrel
   by_cases hp:pos<a0.size
   ·have hnx:∀ty,(Instr.next (.pointer (some ⟨w.heap.size,0,none⟩)) true ty).run Tryz.prog (w.iter a0 pos)=_:=fun ty=>run_next_any w a0 pos ty hp
    have hwd:=Lib.decode_width_pos a0 pos hp
    obtain⟨b,rfl⟩:∃m,b=m+1:=⟨b - 1,by omega⟩
    have h2:=hc.out
    simp only [lH] at h2
    rw [if_pos hp] at h2
    by_cases hz:(Utf8.decode a0 pos).1=0
    ·rw [if_pos hz] at h2
     subst h2
     have hz1:(((Utf8.decode a0 pos).1:Nat):Int)=0:=by omega
     have hz2:((((Utf8.decode a0 pos).1:Nat):Int)==0)=true:=beq_iff_eq.2 hz1
     clear hz hz1 hc
     go_wp2
     go_ret
     exact⟨rfl,(Below.refl _ _).alloc (Nat.le_refl _) _⟩
    ·rw [if_neg hz] at h2
     have hz2:((((Utf8.decode a0 pos).1:Nat):Int)==0)=false:=beq_eq_false_iff_ne.2 (by omega)
     have hc2:=Aside0.mk h2
     clear hz hc h2
     go_wp2
     go_roundw
     case rel=>exact⟨pos+(Utf8.decode a0 pos).2,b,rfl,hc2,by omega⟩
     case measure=>
      simp
      omega
   ·have hnx:∀ty,(Instr.next (.pointer (some ⟨w.heap.size,0,none⟩)) true ty).run Tryz.prog (w.iter a0 pos)=_:=fun ty=>run_next_end w a0 pos ty hp
    have h2:=hc.out
    have hz:lH a0 b pos=true:=by
     cases b with
     | zero=>rfl
     | succ b=>simp only [lH];rw [if_neg hp]
    rw [hz] at h2
    subst h2
    have cV:=Hv.out (w.iter a0 pos) ((Below.refl _ _).alloc (Nat.le_refl _) _)
    have CV:=Aside0.mk cV
    clear cV hc hz
    cases V with
    | false=>
      go_wp2_with (go_at_call 194;refine CV.out.mono ?_;rintro e w' ⟨rfl,hb⟩)
      go_ret
      exact⟨rfl,aW ((Below.refl _ _).alloc (Nat.le_refl _) _) hb⟩
    | true=>
      have hlen:((a0.size:Int)≤60)↔a0.size≤60:=by omega
      go_wp2_with (go_at_call 194;refine CV.out.mono ?_;rintro e w' ⟨rfl,hb⟩)
      go_ret
      exact⟨by simp,aW ((Below.refl _ _).alloc (Nat.le_refl _) _) hb⟩
 ·rw [if_neg hs] at h
  cases h
end Go.Proofs.YtcnfgfomholheaaGreatDoor.X
