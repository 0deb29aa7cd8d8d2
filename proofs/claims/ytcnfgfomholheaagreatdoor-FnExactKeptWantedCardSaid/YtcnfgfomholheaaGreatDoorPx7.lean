import Derived.Test.YtcnfgfomholheaaGreatDoorPx0
import Derived.Test.YtcnfgfomholheaaGreatDoorPx2
import Derived.Test.YtcnfgfomholheaaGreatDoorPx5
import Derived.Test.YtcnfgfomholheaaGreatDoorPx6
namespace Go.Proofs.YtcnfgfomholheaaGreatDoor.P
open Go.RowKit Go.Proofs.YtcnfgfomholheaaGreatDoor.X Go.Proofs.YtcnfgfomholheaaGreatDoorW.PrintWords Go.Proofs.YtcnfgfomholheaaGreatDoorW.PrintLast Go.Proofs.YtcnfgfomholheaaGreatDoorW.PrintMore
attribute [local go_sem] mG mJ oQ oU kZ lg mM mO
set_option linter.unusedVariables false
set_option linter.unusedSimpArgs false
def iG.f (a0:ByteArray):Option (Bool):=if (a0.size:Int)>0 then (if 0<(a0.size:Int) then (some ((bt a0 0)==36)) else (none)) else (some false)
set_option maxHeartbeats 8000000 in
set_option maxRecDepth 100000 in
theorem iG.calls (a0:ByteArray) (r:Bool) (w:World) (h:iG.f a0=some r):
  Calls Tryz.prog 183 #[.string a0] w fun e w'=>e= .returned (.bool r)∧aA w w':=by
 have H:(if (a0.size:Int)>0 then (if 0<(a0.size:Int) then (some ((bt a0 0)==36)) else (none)) else (some false))=some r:=h
 clear h
 by_cases c2:(a0.size:Int)>0
 ·rw [if_pos c2] at H
  have Vt:decide (0<(a0.size:Int))=true:=decide_eq_true c2
  have Vu:decide (0<a0.size)=true:=decide_eq_true (by omega)
  clear c2
  by_cases c3:0<(a0.size:Int)
  ·rw [if_pos c3] at H
   have yM:decide (0<(a0.size:Int))=true:=decide_eq_true c3
   have ZB:decide (0<a0.size)=true:=decide_eq_true (by omega)
   clear c3
   obtain rfl:=Option.some.inj H
   have p4:0≤(0:Int):=(by omega)
   have q4:0<a0.size:=(by have:(0:Int)<(a0.size:Int):=of_decide_eq_true (by first | (with_reducible assumption) | assumption);omega)
   have hx4:∀h:0<a0.size,((a0[0]'h).toNat:Int)=bt a0 0:=pV a0 0
   clear p4
   have qi4:(0<(a0.size:Int))=True:=eq_true (of_decide_eq_true (by first | (with_reducible assumption) | assumption))
   replace q4:=eq_true q4
   go_enter Tryz.func183,Tryz.ntmps183
   go_wp2
   go_ret
   exact⟨by first | rfl | (simp;done) | (simp [*];done),by repeat (first | exact aA.refl _ | apply aA.step)⟩
  ·rw [if_neg c3] at H
   exact absurd H (by simp)
 ·rw [if_neg c2] at H
  have Vt:decide (0<(a0.size:Int))=false:=decide_eq_false c2
  have Vu:decide (0<a0.size)=false:=decide_eq_false (by omega)
  clear c2
  obtain rfl:=Option.some.inj H
  go_enter Tryz.func183,Tryz.ntmps183
  go_wp2
  go_ret
  exact⟨by first | rfl | (simp;done) | (simp [*];done),by repeat (first | exact aA.refl _ | apply aA.step)⟩
def dQ.l0:Nat→List ByteArray→List ByteArray→Int→Option (Bool)
 | 0,_,_,_=>none
 | k+1,x0,x1,x5=>if x5<(x0.length:Int) then (if 0≤x5 then (if (aT ByteArray.empty x0 x5).toList=([35]:List UInt8) then (some true) else (if x5≥(x1.length:Int) then (some false) else (if (aT ByteArray.empty x0 x5).toList=([43]:List UInt8) then (if x5<(x1.length:Int) then (if (aT ByteArray.empty x1 x5).toList=([35]:List UInt8) then (some false) else (dQ.l0 k x0 x1 (wrap64 (x5+1)))) else (none)) else (if x5<(x1.length:Int) then (if (aT ByteArray.empty x0 x5).toList=(aT ByteArray.empty x1 x5).toList then (dQ.l0 k x0 x1 (wrap64 (x5+1))) else (some false)) else (none))))) else (none)) else (some ((x0.length:Int)==(x1.length:Int)))
def dQ.f (k:Nat) (l0:List ByteArray) (l1:List ByteArray):Option (Bool):=dQ.l0 k l0 l1 0
set_option maxHeartbeats 8000000 in
set_option maxRecDepth 100000 in
theorem dQ.calls (k:Nat) (A0:Option Addr) (c0:Nat) (l0:List ByteArray) (A1:Option Addr) (c1:Nat) (l1:List ByteArray) (r:Bool) (w:World) (hr0:Kd.C Kd.string w A0 l0.length l0) (hc0:l0.length≤c0) (hr1:Kd.C Kd.string w A1 l1.length l1) (hc1:l1.length≤c1) (h:dQ.f k l0 l1=some r):
  Calls Tryz.prog 184 #[.slice A0 l0.length c0, .slice A1 l1.length c1] w fun e w'=>e= .returned (.bool r)∧aA w w':=by
 have HR0:=Aside0.mk hr0
 have HC0:=Aside0.mk hc0
 clear hr0 hc0
 have HR1:=Aside0.mk hr1
 have HC1:=Aside0.mk hc1
 clear hr1 hc1
 have H:(dQ.l0 k l0 l1 0)=some r:=h
 clear h
 have H':=Aside0.mk H
 clear H
 go_enter Tryz.func184,Tryz.ntmps184
 go_wp2
 repeat (go_quiet (fail);try go_wp2)
 go_loopg [5] k (fun kq v5 w'=>∃(x5_1:Int),v5= .int .i64 x5_1∧Aside0 (dQ.l0 kq l0 l1 x5_1=some r)∧Aside0 (kq≤k)∧aA w w')
 case atStart=>exact⟨(0),(by first | rfl | (simp;done) | (simp [*];done)),H',⟨Nat.le_refl _⟩,by repeat (first | exact aA.refl _ | apply aA.step)⟩
 case round=>
  clear H'
  try clear c1
  try clear p2
  obtain⟨x5_1,rfl,HA,jZ,⟨m1,rfl⟩⟩:=hrel
  cases gk with
  | zero=>exact absurd HA.out (by simp [dQ.l0])
  | succ k1=>
    have H:=HA.out
    clear HA
    simp only [dQ.l0] at H
    by_cases c3:x5_1<(l0.length:Int)
    ·rw [if_pos c3] at H
     have yM:decide (x5_1<(l0.length:Int))=true:=decide_eq_true c3
     clear c3
     by_cases c4:0≤x5_1
     ·rw [if_pos c4] at H
      have jM:decide (0≤x5_1)=true:=decide_eq_true c4
      clear c4
      by_cases c5:(aT ByteArray.empty l0 x5_1).toList=([35]:List UInt8)
      ·rw [if_pos c5] at H
       have sU:((aT ByteArray.empty l0 x5_1).toList==([35]:List UInt8))=true:=beq_iff_eq.mpr c5
       have D8:((aT ByteArray.empty l0 x5_1).toList !=([35]:List UInt8))=false:=bne_eq_false_iff_eq.mpr c5
       clear c5
       obtain rfl:=Option.some.inj H
       have kQ:0≤(x5_1:Int):=of_decide_eq_true (by first | (with_reducible assumption) | assumption)
       have kR:x5_1<(l0.length:Int):=of_decide_eq_true (by first | (with_reducible assumption) | assumption)
       obtain⟨oh,xH,zI⟩:=Kd.aV HR0.out x5_1 kQ kR
       cases xH
       replace kQ:=eq_true kQ
       replace kR:=eq_true kR
       go_wp2
       repeat (go_quiet (fail);try go_wp2)
       go_ret
       exact⟨by first | rfl | (simp;done) | (simp [*];done),by repeat (first | exact aA.refl _ | apply aA.step)⟩
      ·rw [if_neg c5] at H
       have sU:((aT ByteArray.empty l0 x5_1).toList==([35]:List UInt8))=false:=beq_eq_false_iff_ne.mpr c5
       have D8:((aT ByteArray.empty l0 x5_1).toList !=([35]:List UInt8))=true:=bne_iff_ne.mpr c5
       by_cases c6:x5_1≥(l1.length:Int)
       ·rw [if_pos c6] at H
        have sW:decide ((l1.length:Int)≤x5_1)=true:=decide_eq_true c6
        clear c6
        obtain rfl:=Option.some.inj H
        have kQ:0≤(x5_1:Int):=of_decide_eq_true (by first | (with_reducible assumption) | assumption)
        have kR:x5_1<(l0.length:Int):=of_decide_eq_true (by first | (with_reducible assumption) | assumption)
        obtain⟨oh,xH,zI⟩:=Kd.aV HR0.out x5_1 kQ kR
        cases xH
        replace kQ:=eq_true kQ
        replace kR:=eq_true kR
        go_wp2
        repeat (go_quiet (fail);try go_wp2)
        go_ret
        exact⟨by first | rfl | (simp;done) | (simp [*];done),by repeat (first | exact aA.refl _ | apply aA.step)⟩
       ·rw [if_neg c6] at H
        have sW:decide ((l1.length:Int)≤x5_1)=false:=decide_eq_false c6
        clear c6
        by_cases c7:(aT ByteArray.empty l0 x5_1).toList=([43]:List UInt8)
        ·rw [if_pos c7] at H
         have sV:((aT ByteArray.empty l0 x5_1).toList==([43]:List UInt8))=true:=beq_iff_eq.mpr c7
         have G5:((aT ByteArray.empty l0 x5_1).toList !=([43]:List UInt8))=false:=bne_eq_false_iff_eq.mpr c7
         clear c7
         by_cases c8:x5_1<(l1.length:Int)
         ·rw [if_pos c8] at H
          have Ba:decide (x5_1<(l1.length:Int))=true:=decide_eq_true c8
          clear c8
          by_cases c9:(aT ByteArray.empty l1 x5_1).toList=([35]:List UInt8)
          ·rw [if_pos c9] at H
           have Ea:((aT ByteArray.empty l1 x5_1).toList==([35]:List UInt8))=true:=beq_iff_eq.mpr c9
           have Vh:((aT ByteArray.empty l1 x5_1).toList !=([35]:List UInt8))=false:=bne_eq_false_iff_eq.mpr c9
           clear c9
           obtain rfl:=Option.some.inj H
           have kQ:0≤(x5_1:Int):=of_decide_eq_true (by first | (with_reducible assumption) | assumption)
           have kR:x5_1<(l0.length:Int):=of_decide_eq_true (by first | (with_reducible assumption) | assumption)
           obtain⟨oh,xH,zI⟩:=Kd.aV HR0.out x5_1 kQ kR
           cases xH
           replace kQ:=eq_true kQ
           replace kR:=eq_true kR
           have qH:0≤(x5_1:Int):=of_decide_eq_true (by first | (with_reducible assumption) | assumption)
           have qI:x5_1<(l0.length:Int):=of_decide_eq_true (by first | (with_reducible assumption) | assumption)
           obtain⟨Bj,e165,Ll⟩:=Kd.aV HR0.out x5_1 qH qI
           obtain rfl:oh=Bj:=(by injection e165)
           replace qH:=eq_true qH
           replace qI:=eq_true qI
           have Hg:0≤(x5_1:Int):=of_decide_eq_true (by first | (with_reducible assumption) | assumption)
           have Hl:x5_1<(l1.length:Int):=of_decide_eq_true (by first | (with_reducible assumption) | assumption)
           obtain⟨ad1,e166,abg⟩:=Kd.aV HR1.out x5_1 Hg Hl
           cases e166
           replace Hg:=eq_true Hg
           replace Hl:=eq_true Hl
           go_wp2
           repeat (go_quiet (fail);try go_wp2)
           go_ret
           exact⟨by first | rfl | (simp;done) | (simp [*];done),by repeat (first | exact aA.refl _ | apply aA.step)⟩
          ·rw [if_neg c9] at H
           have Ea:((aT ByteArray.empty l1 x5_1).toList==([35]:List UInt8))=false:=beq_eq_false_iff_ne.mpr c9
           have Vh:((aT ByteArray.empty l1 x5_1).toList !=([35]:List UInt8))=true:=bne_iff_ne.mpr c9
           have H':=Aside0.mk H
           clear H
           have kQ:0≤(x5_1:Int):=of_decide_eq_true (by first | (with_reducible assumption) | assumption)
           have kR:x5_1<(l0.length:Int):=of_decide_eq_true (by first | (with_reducible assumption) | assumption)
           obtain⟨oh,xH,zI⟩:=Kd.aV HR0.out x5_1 kQ kR
           cases xH
           replace kQ:=eq_true kQ
           replace kR:=eq_true kR
           have qH:0≤(x5_1:Int):=of_decide_eq_true (by first | (with_reducible assumption) | assumption)
           have qI:x5_1<(l0.length:Int):=of_decide_eq_true (by first | (with_reducible assumption) | assumption)
           obtain⟨Bj,e165,Ll⟩:=Kd.aV HR0.out x5_1 qH qI
           obtain rfl:oh=Bj:=(by injection e165)
           replace qH:=eq_true qH
           replace qI:=eq_true qI
           have Hg:0≤(x5_1:Int):=of_decide_eq_true (by first | (with_reducible assumption) | assumption)
           have Hl:x5_1<(l1.length:Int):=of_decide_eq_true (by first | (with_reducible assumption) | assumption)
           obtain⟨ad1,e166,abg⟩:=Kd.aV HR1.out x5_1 Hg Hl
           cases e166
           replace Hg:=eq_true Hg
           replace Hl:=eq_true Hl
           have ZG:0≤(x5_1:Int):=of_decide_eq_true (by first | (with_reducible assumption) | assumption)
           have ZH:x5_1<(l0.length:Int):=of_decide_eq_true (by first | (with_reducible assumption) | assumption)
           obtain⟨ad2,e167,afd⟩:=Kd.aV HR0.out x5_1 ZG ZH
           obtain rfl:oh=ad2:=(by injection e167)
           replace ZG:=eq_true ZG
           replace ZH:=eq_true ZH
           go_wp2
           repeat (go_quiet (fail);try go_wp2)
           go_roundg k1
           case measure=>have:=jZ.out;omega
           case rel=>exact⟨(wrap64 (x5_1+1)),(by first | rfl | (simp;done) | (simp [*];done)),H',⟨by have:=jZ.out;omega⟩,by repeat (first | exact aA.refl _ | apply aA.step)⟩
         ·rw [if_neg c8] at H
          exact absurd H (by simp)
        ·rw [if_neg c7] at H
         have sV:((aT ByteArray.empty l0 x5_1).toList==([43]:List UInt8))=false:=beq_eq_false_iff_ne.mpr c7
         have G5:((aT ByteArray.empty l0 x5_1).toList !=([43]:List UInt8))=true:=bne_iff_ne.mpr c7
         by_cases c10:x5_1<(l1.length:Int)
         ·rw [if_pos c10] at H
          have aal:decide (x5_1<(l1.length:Int))=true:=decide_eq_true c10
          clear c10
          by_cases c11:(aT ByteArray.empty l0 x5_1).toList=(aT ByteArray.empty l1 x5_1).toList
          ·rw [if_pos c11] at H
           have nZ:((aT ByteArray.empty l0 x5_1).toList==(aT ByteArray.empty l1 x5_1).toList)=true:=beq_iff_eq.mpr c11
           have Vx:((aT ByteArray.empty l0 x5_1).toList !=(aT ByteArray.empty l1 x5_1).toList)=false:=bne_eq_false_iff_eq.mpr c11
           clear c11
           have H':=Aside0.mk H
           clear H
           have kQ:0≤(x5_1:Int):=of_decide_eq_true (by first | (with_reducible assumption) | assumption)
           have kR:x5_1<(l0.length:Int):=of_decide_eq_true (by first | (with_reducible assumption) | assumption)
           obtain⟨oh,xH,zI⟩:=Kd.aV HR0.out x5_1 kQ kR
           cases xH
           replace kQ:=eq_true kQ
           replace kR:=eq_true kR
           have qH:0≤(x5_1:Int):=of_decide_eq_true (by first | (with_reducible assumption) | assumption)
           have qI:x5_1<(l0.length:Int):=of_decide_eq_true (by first | (with_reducible assumption) | assumption)
           obtain⟨Bj,e165,Ll⟩:=Kd.aV HR0.out x5_1 qH qI
           obtain rfl:oh=Bj:=(by injection e165)
           replace qH:=eq_true qH
           replace qI:=eq_true qI
           have Ho:0≤(x5_1:Int):=of_decide_eq_true (by first | (with_reducible assumption) | assumption)
           have Hq:x5_1<(l0.length:Int):=of_decide_eq_true (by first | (with_reducible assumption) | assumption)
           obtain⟨Vz,e168,abh⟩:=Kd.aV HR0.out x5_1 Ho Hq
           obtain rfl:oh=Vz:=(by injection e168)
           replace Ho:=eq_true Ho
           replace Hq:=eq_true Hq
           have Hr:0≤(x5_1:Int):=of_decide_eq_true (by first | (with_reducible assumption) | assumption)
           have Ht:x5_1<(l0.length:Int):=of_decide_eq_true (by first | (with_reducible assumption) | assumption)
           obtain⟨VA,e169,abj⟩:=Kd.aV HR0.out x5_1 Hr Ht
           obtain rfl:oh=VA:=(by injection e169)
           replace Hr:=eq_true Hr
           replace Ht:=eq_true Ht
           have Hu:0≤(x5_1:Int):=of_decide_eq_true (by first | (with_reducible assumption) | assumption)
           have Hw:x5_1<(l1.length:Int):=of_decide_eq_true (by first | (with_reducible assumption) | assumption)
           obtain⟨ad3,e170,abk⟩:=Kd.aV HR1.out x5_1 Hu Hw
           cases e170
           replace Hu:=eq_true Hu
           replace Hw:=eq_true Hw
           go_wp2
           repeat (go_quiet (fail);try go_wp2)
           go_roundg k1
           case measure=>have:=jZ.out;omega
           case rel=>exact⟨(wrap64 (x5_1+1)),(by first | rfl | (simp;done) | (simp [*];done)),H',⟨by have:=jZ.out;omega⟩,by repeat (first | exact aA.refl _ | apply aA.step)⟩
          ·rw [if_neg c11] at H
           have nZ:((aT ByteArray.empty l0 x5_1).toList==(aT ByteArray.empty l1 x5_1).toList)=false:=beq_eq_false_iff_ne.mpr c11
           have Vx:((aT ByteArray.empty l0 x5_1).toList !=(aT ByteArray.empty l1 x5_1).toList)=true:=bne_iff_ne.mpr c11
           obtain rfl:=Option.some.inj H
           have kQ:0≤(x5_1:Int):=of_decide_eq_true (by first | (with_reducible assumption) | assumption)
           have kR:x5_1<(l0.length:Int):=of_decide_eq_true (by first | (with_reducible assumption) | assumption)
           obtain⟨oh,xH,zI⟩:=Kd.aV HR0.out x5_1 kQ kR
           cases xH
           replace kQ:=eq_true kQ
           replace kR:=eq_true kR
           have qH:0≤(x5_1:Int):=of_decide_eq_true (by first | (with_reducible assumption) | assumption)
           have qI:x5_1<(l0.length:Int):=of_decide_eq_true (by first | (with_reducible assumption) | assumption)
           obtain⟨Bj,e165,Ll⟩:=Kd.aV HR0.out x5_1 qH qI
           obtain rfl:oh=Bj:=(by injection e165)
           replace qH:=eq_true qH
           replace qI:=eq_true qI
           have Ho:0≤(x5_1:Int):=of_decide_eq_true (by first | (with_reducible assumption) | assumption)
           have Hq:x5_1<(l0.length:Int):=of_decide_eq_true (by first | (with_reducible assumption) | assumption)
           obtain⟨Vz,e168,abh⟩:=Kd.aV HR0.out x5_1 Ho Hq
           obtain rfl:oh=Vz:=(by injection e168)
           replace Ho:=eq_true Ho
           replace Hq:=eq_true Hq
           have Hr:0≤(x5_1:Int):=of_decide_eq_true (by first | (with_reducible assumption) | assumption)
           have Ht:x5_1<(l0.length:Int):=of_decide_eq_true (by first | (with_reducible assumption) | assumption)
           obtain⟨VA,e169,abj⟩:=Kd.aV HR0.out x5_1 Hr Ht
           obtain rfl:oh=VA:=(by injection e169)
           replace Hr:=eq_true Hr
           replace Ht:=eq_true Ht
           have Hu:0≤(x5_1:Int):=of_decide_eq_true (by first | (with_reducible assumption) | assumption)
           have Hw:x5_1<(l1.length:Int):=of_decide_eq_true (by first | (with_reducible assumption) | assumption)
           obtain⟨ad3,e170,abk⟩:=Kd.aV HR1.out x5_1 Hu Hw
           cases e170
           replace Hu:=eq_true Hu
           replace Hw:=eq_true Hw
           go_wp2
           repeat (go_quiet (fail);try go_wp2)
           go_ret
           exact⟨by first | rfl | (simp;done) | (simp [*];done),by repeat (first | exact aA.refl _ | apply aA.step)⟩
         ·rw [if_neg c10] at H
          exact absurd H (by simp)
     ·rw [if_neg c4] at H
      exact absurd H (by simp)
    ·rw [if_neg c3] at H
     have yM:decide (x5_1<(l0.length:Int))=false:=decide_eq_false c3
     clear c3
     obtain rfl:=Option.some.inj H
     go_wp2
     repeat (go_quiet (fail);try go_wp2)
     go_ret
     exact⟨by first | rfl | (simp;done) | (simp [*];done),by repeat (first | exact aA.refl _ | apply aA.step)⟩
def bK.j0:Nat→ByteArray→ByteArray→Bool→Option (Bool)
 | 0,_,_,_=>none
 | k+1,x0,x1,x20=>if x20=true then (some false) else ((bC.f k x0).bind fun t175=>((bC.f k x1).bind fun yO=>((dQ.f k t175 yO).bind fun yP=>(some yP))))
def bK.f (k:Nat) (a0:ByteArray) (a1:ByteArray):Option (Bool):=(aU.f k a0).bind fun t171=>(if t171=true then ((iC.f k a1).bind fun yQ=>(if yQ=true then ((iD.f a0).bind fun t173=>(if t173=true then ((iG.f a1).bind fun ni=>(bK.j0 k a0 a1 ni)) else (bK.j0 k a0 a1 false))) else (bK.j0 k a0 a1 true))) else (bK.j0 k a0 a1 true))
set_option maxHeartbeats 8000000 in
set_option maxRecDepth 100000 in
theorem bK.calls (k:Nat) (a0:ByteArray) (a1:ByteArray) (r:Bool) (w:World) (h:bK.f k a0 a1=some r):
  Calls Tryz.prog 113 #[.string a0, .string a1] w fun e w'=>e= .returned (.bool r)∧Below w.heap.size w w':=by
 have HB:=Aside0.mk (Below.refl w.heap.size w)
 have H:((aU.f k a0).bind fun t171=>(if t171=true then ((iC.f k a1).bind fun yQ=>(if yQ=true then ((iD.f a0).bind fun t173=>(if t173=true then ((iG.f a1).bind fun ni=>(bK.j0 k a0 a1 ni)) else (bK.j0 k a0 a1 false))) else (bK.j0 k a0 a1 true))) else (bK.j0 k a0 a1 true)))=some r:=h
 clear h
 have Eb:=Aside0.mk H
 clear H
 go_enter Tryz.func113,Tryz.ntmps113
 go_upto_region 1 with (fail)
 go_cut [20] (fun v20 wc=>∃(kq:Nat) (x20_2:Bool),v20= .bool x20_2∧Aside0 (bK.j0 kq a0 a1 x20_2=some r)∧Aside0 (kq≤k)∧Aside0 (Below w.heap.size w wc))
 case first=>
  have H:=Eb.out
  clear Eb
  replace H:=Option.bind_eq_some_iff.mp H
  obtain⟨t171,Yf,H⟩:=H
  replace H:(if t171=true then ((iC.f k a1).bind fun yQ=>(if yQ=true then ((iD.f a0).bind fun t173=>(if t173=true then ((iG.f a1).bind fun ni=>(bK.j0 k a0 a1 ni)) else (bK.j0 k a0 a1 false))) else (bK.j0 k a0 a1 true))) else (bK.j0 k a0 a1 true))=some r:=H
  have A4:=Aside0.mk Yf
  clear Yf
  by_cases c5:t171=true
  ·subst c5
   have H1:((iC.f k a1).bind fun yQ=>(if yQ=true then ((iD.f a0).bind fun t173=>(if t173=true then ((iG.f a1).bind fun ni=>(bK.j0 k a0 a1 ni)) else (bK.j0 k a0 a1 false))) else (bK.j0 k a0 a1 true)))=some r:=by rw [if_pos rfl] at H;exact H
   clear H
   have H:=H1
   clear H1
   replace H:=Option.bind_eq_some_iff.mp H
   obtain⟨yQ,yu,H⟩:=H
   replace H:(if yQ=true then ((iD.f a0).bind fun t173=>(if t173=true then ((iG.f a1).bind fun ni=>(bK.j0 k a0 a1 ni)) else (bK.j0 k a0 a1 false))) else (bK.j0 k a0 a1 true))=some r:=H
   have A6:=Aside0.mk yu
   clear yu
   by_cases c7:yQ=true
   ·subst c7
    have H1:((iD.f a0).bind fun t173=>(if t173=true then ((iG.f a1).bind fun ni=>(bK.j0 k a0 a1 ni)) else (bK.j0 k a0 a1 false)))=some r:=by rw [if_pos rfl] at H;exact H
    clear H
    have H:=H1
    clear H1
    replace H:=Option.bind_eq_some_iff.mp H
    obtain⟨t173,MS,H⟩:=H
    replace H:(if t173=true then ((iG.f a1).bind fun ni=>(bK.j0 k a0 a1 ni)) else (bK.j0 k a0 a1 false))=some r:=H
    have A8:=Aside0.mk MS
    clear MS
    by_cases c9:t173=true
    ·subst c9
     have H1:((iG.f a1).bind fun ni=>(bK.j0 k a0 a1 ni))=some r:=by rw [if_pos rfl] at H;exact H
     clear H
     have H:=H1
     clear H1
     replace H:=Option.bind_eq_some_iff.mp H
     obtain⟨ni,D7,H⟩:=H
     replace H:(bK.j0 k a0 a1 ni)=some r:=H
     have Yb:=Aside0.mk D7
     clear D7
     have H':=Aside0.mk H
     clear H
     go_wp2_with (first | ((with_reducible refine aQ (f:=106) rfl ?_);refine cZ (some 6) rfl rfl Tryz.func106 (by kernel_rfl) rfl #[.string a0] rfl (by(try simp only [List.map_toArray,List.map_cons,List.map_nil]);first | done | rfl | (simp only [List.length_drop,List.length_take];rfl)) ?_;(with_reducible refine(aU.calls k a0 true _ A4.out).mono ?_);rintro e w11 ⟨rfl,hb⟩;refine⟨_,rfl,?_⟩;have bf:=Aside0.mk (aW (by repeat (first | (with_reducible first | exact HB.out | apply aj | apply ah | apply ak) | exact HB.out)) hb);clear HB;have HB:=bf;clear bf;(try clear hb);(try clear hb2);(try clear hk);(try clear hi)) | (go_at_call 181;(with_reducible refine(iC.calls k a1 true _ A6.out).mono ?_);rintro e w12 ⟨rfl,hb⟩;have bf:=Aside0.mk (aW (by repeat (first | (with_reducible first | exact HB.out | apply aj | apply ah | apply ak) | exact HB.out)) hb);clear HB;have HB:=bf;clear bf;(try clear hb);(try clear hb2);(try clear hk);(try clear hi)) | (go_at_call 182;(with_reducible refine(iD.calls a0 true _ A8.out).mono ?_);rintro e w' ⟨rfl,⟨nd,rfl⟩⟩) | (go_at_call 183;(with_reducible refine(iG.calls a1 ni _ Yb.out).mono ?_);rintro e w' ⟨rfl,⟨nd,rfl⟩⟩))
     go_meet
     case rel=>exact⟨_,(ni),(by first | rfl | (simp;done) | (simp [*];done)),H',⟨by first | omega | exact Nat.le_refl _⟩,⟨by repeat (first | (with_reducible first | exact HB.out | apply aj | apply ah | apply ak) | exact HB.out)⟩⟩
    ·replace c9:=Bool.eq_false_iff.mpr c9
     subst c9
     have H1:(bK.j0 k a0 a1 false)=some r:=by rw [if_neg (show ¬(false=true) by decide)] at H;exact H
     clear H
     have H:=H1
     clear H1
     have H':=Aside0.mk H
     clear H
     go_wp2_with (first | ((with_reducible refine aQ (f:=106) rfl ?_);refine cZ (some 6) rfl rfl Tryz.func106 (by kernel_rfl) rfl #[.string a0] rfl (by(try simp only [List.map_toArray,List.map_cons,List.map_nil]);first | done | rfl | (simp only [List.length_drop,List.length_take];rfl)) ?_;(with_reducible refine(aU.calls k a0 true _ A4.out).mono ?_);rintro e w13 ⟨rfl,hb⟩;refine⟨_,rfl,?_⟩;have bf:=Aside0.mk (aW (by repeat (first | (with_reducible first | exact HB.out | apply aj | apply ah | apply ak) | exact HB.out)) hb);clear HB;have HB:=bf;clear bf;(try clear hb);(try clear hb2);(try clear hk);(try clear hi)) | (go_at_call 181;(with_reducible refine(iC.calls k a1 true _ A6.out).mono ?_);rintro e w14 ⟨rfl,hb⟩;have bf:=Aside0.mk (aW (by repeat (first | (with_reducible first | exact HB.out | apply aj | apply ah | apply ak) | exact HB.out)) hb);clear HB;have HB:=bf;clear bf;(try clear hb);(try clear hb2);(try clear hk);(try clear hi)) | (go_at_call 182;(with_reducible refine(iD.calls a0 false _ A8.out).mono ?_);rintro e w' ⟨rfl,⟨nd,rfl⟩⟩))
     go_meet
     case rel=>exact⟨_,(false),(by first | rfl | (simp;done) | (simp [*];done)),H',⟨by first | omega | exact Nat.le_refl _⟩,⟨by repeat (first | (with_reducible first | exact HB.out | apply aj | apply ah | apply ak) | exact HB.out)⟩⟩
   ·replace c7:=Bool.eq_false_iff.mpr c7
    subst c7
    have H1:(bK.j0 k a0 a1 true)=some r:=by rw [if_neg (show ¬(false=true) by decide)] at H;exact H
    clear H
    have H:=H1
    clear H1
    have H':=Aside0.mk H
    clear H
    go_wp2_with (first | ((with_reducible refine aQ (f:=106) rfl ?_);refine cZ (some 6) rfl rfl Tryz.func106 (by kernel_rfl) rfl #[.string a0] rfl (by(try simp only [List.map_toArray,List.map_cons,List.map_nil]);first | done | rfl | (simp only [List.length_drop,List.length_take];rfl)) ?_;(with_reducible refine(aU.calls k a0 true _ A4.out).mono ?_);rintro e w15 ⟨rfl,hb⟩;refine⟨_,rfl,?_⟩;have bf:=Aside0.mk (aW (by repeat (first | (with_reducible first | exact HB.out | apply aj | apply ah | apply ak) | exact HB.out)) hb);clear HB;have HB:=bf;clear bf;(try clear hb);(try clear hb2);(try clear hk);(try clear hi)) | (go_at_call 181;(with_reducible refine(iC.calls k a1 false _ A6.out).mono ?_);rintro e w16 ⟨rfl,hb⟩;have bf:=Aside0.mk (aW (by repeat (first | (with_reducible first | exact HB.out | apply aj | apply ah | apply ak) | exact HB.out)) hb);clear HB;have HB:=bf;clear bf;(try clear hb);(try clear hb2);(try clear hk);(try clear hi)))
    go_meet
    case rel=>exact⟨_,(true),(by first | rfl | (simp;done) | (simp [*];done)),H',⟨by first | omega | exact Nat.le_refl _⟩,⟨by repeat (first | (with_reducible first | exact HB.out | apply aj | apply ah | apply ak) | exact HB.out)⟩⟩
  ·replace c5:=Bool.eq_false_iff.mpr c5
   subst c5
   have H1:(bK.j0 k a0 a1 true)=some r:=by rw [if_neg (show ¬(false=true) by decide)] at H;exact H
   clear H
   have H:=H1
   clear H1
   have H':=Aside0.mk H
   clear H
   go_wp2_with (first | ((with_reducible refine aQ (f:=106) rfl ?_);refine cZ (some 6) rfl rfl Tryz.func106 (by kernel_rfl) rfl #[.string a0] rfl (by(try simp only [List.map_toArray,List.map_cons,List.map_nil]);first | done | rfl | (simp only [List.length_drop,List.length_take];rfl)) ?_;(with_reducible refine(aU.calls k a0 false _ A4.out).mono ?_);rintro e w17 ⟨rfl,hb⟩;refine⟨_,rfl,?_⟩;have bf:=Aside0.mk (aW (by repeat (first | (with_reducible first | exact HB.out | apply aj | apply ah | apply ak) | exact HB.out)) hb);clear HB;have HB:=bf;clear bf;(try clear hb);(try clear hb2);(try clear hk);(try clear hi)))
   go_meet
   case rel=>exact⟨_,(true),(by first | rfl | (simp;done) | (simp [*];done)),H',⟨by first | omega | exact Nat.le_refl _⟩,⟨by repeat (first | (with_reducible first | exact HB.out | apply aj | apply ah | apply ak) | exact HB.out)⟩⟩
 case rest=>
  clear Eb
  try clear c1
  try clear p2
  try clear c5
  try clear c7
  try clear c9
  try clear c10
  try clear c11
  obtain⟨kq,x20_2,rfl,HA,HJ2,HB⟩:=hcut
  cases kq with
  | zero=>exact absurd HA.out (by simp [bK.j0])
  | succ rX=>
    have H:=HA.out
    clear HA
    simp only [bK.j0] at H
    by_cases c18:x20_2=true
    ·subst c18
     have H1:(some false)=some r:=by rw [if_pos rfl] at H;exact H
     clear H
     have H:=H1
     clear H1
     obtain rfl:=Option.some.inj H
     go_wp2
     go_ret
     exact⟨by first | rfl | (simp [aJ,aK]<;>rfl) | (simp [*,aJ,aK]<;>rfl),by repeat (first | (with_reducible first | exact HB.out | apply aj | apply ah | apply ak) | exact HB.out)⟩
    ·replace c18:=Bool.eq_false_iff.mpr c18
     subst c18
     have H1:((bC.f rX a0).bind fun t175=>((bC.f rX a1).bind fun yO=>((dQ.f rX t175 yO).bind fun yP=>(some yP))))=some r:=by rw [if_neg (show ¬(false=true) by decide)] at H;exact H
     clear H
     have H:=H1
     clear H1
     replace H:=Option.bind_eq_some_iff.mp H
     obtain⟨t175,Qn,H⟩:=H
     replace H:((bC.f rX a1).bind fun yO=>((dQ.f rX t175 yO).bind fun yP=>(some yP)))=some r:=H
     have A19:=Aside0.mk Qn
     clear Qn
     replace H:=Option.bind_eq_some_iff.mp H
     obtain⟨yO,Qo,H⟩:=H
     replace H:((dQ.f rX t175 yO).bind fun yP=>(some yP))=some r:=H
     have mD:=Aside0.mk Qo
     clear Qo
     replace H:=Option.bind_eq_some_iff.mp H
     obtain⟨yP,Qp,H⟩:=H
     replace H:(some yP)=some r:=H
     have A21:=Aside0.mk Qp
     clear Qp
     obtain rfl:=Option.some.inj H
     go_wp2_with (first | ((with_reducible refine aQ (f:=108) rfl ?_);refine cZ (some 22) rfl rfl Tryz.func108 (by kernel_rfl) rfl #[.string a0] rfl (by(try simp only [List.map_toArray,List.map_cons,List.map_nil]);first | done | rfl | (simp only [List.length_drop,List.length_take];rfl)) ?_;(with_reducible refine(bC.calls rX a0 t175 _ A19.out).mono ?_);rintro e w22 ⟨afW,rfl,ho0,hb⟩;refine⟨_,rfl,?_⟩;have bf:=Aside0.mk (Kd.lV ho0 (jg (by repeat (first | (with_reducible first | exact HB.out | apply aj | apply ah | apply ak) | exact HB.out))));have gy:=Aside0.mk (aW (by repeat (first | (with_reducible first | exact HB.out | apply aj | apply ah | apply ak) | exact HB.out)) hb);clear HB;have Bl:=bf;have HB:=gy;clear bf gy;(try clear hb);(try clear hb2);(try clear hk);(try clear hi);(try clear ho0)) | ((with_reducible refine aQ (f:=108) rfl ?_);refine cZ (some 24) rfl rfl Tryz.func108 (by kernel_rfl) rfl #[.string a1] rfl (by(try simp only [List.map_toArray,List.map_cons,List.map_nil]);first | done | rfl | (simp only [List.length_drop,List.length_take];rfl)) ?_;(with_reducible refine(bC.calls rX a1 yO _ mD.out).mono ?_);rintro e w23 ⟨afX,rfl,ho0,hb⟩;refine⟨_,rfl,?_⟩;have bf:=Aside0.mk (Kd.N8 (by(with_reducible repeat (first | apply Kd.dK | apply Kd.dL | apply Kd.dZ));exact Bl.out) (Kd.VN ho0) hb);have gy:=Aside0.mk (Kd.lV (Kd.VQ ho0 (Kd.abu (by(with_reducible repeat (first | apply Kd.dK | apply Kd.dL | apply Kd.dZ));exact Bl.out))) (jg (by repeat (first | (with_reducible first | exact HB.out | apply aj | apply ah | apply ak) | exact HB.out))));have qQ:=Aside0.mk (aW (by repeat (first | (with_reducible first | exact HB.out | apply aj | apply ah | apply ak) | exact HB.out)) hb);clear Bl;clear HB;have Bl:=bf;have VB:=gy;have HB:=qQ;clear bf gy qQ;(try clear hb);(try clear hb2);(try clear hk);(try clear hi);(try clear ho0);obtain⟨Vm,Vo,Qq⟩:=Kd.iW Bl.out;subst Qq;obtain⟨Vp,Vq,Qr⟩:=Kd.iW VB.out;subst Qr) | ((with_reducible refine aQ (f:=184) rfl ?_);refine cZ (some 25) rfl rfl Tryz.func184 (by kernel_rfl) rfl #[.slice Vm t175.length Vo, .slice Vp yO.length Vq] rfl (by(try simp only [List.map_toArray,List.map_cons,List.map_nil]);first | done | rfl | (simp only [List.length_drop,List.length_take];rfl)) ?_;(with_reducible refine(dQ.calls rX _ _ t175 _ _ yO yP _ ?dW ?JE ?Vr ?Vs A21.out).mono ?_);(case dW=>repeat (first | exact(Kd.cO Bl.out).2.2 | (with_reducible refine Kd.yS ?_ _) | (with_reducible refine Kd.vO ?_ _) | (with_reducible refine Kd.BX ?_)));(case JE=>exact(Kd.cO Bl.out).2.1);(case Vr=>repeat (first | exact(Kd.cO VB.out).2.2 | (with_reducible refine Kd.yS ?_ _) | (with_reducible refine Kd.vO ?_ _) | (with_reducible refine Kd.BX ?_)));(case Vs=>exact(Kd.cO VB.out).2.1);rintro e w' ⟨rfl,⟨nd,rfl⟩⟩;refine⟨_,rfl,?_⟩))
     go_ret
     exact⟨by first | rfl | (simp [aJ,aK]<;>rfl) | (simp [*,aJ,aK]<;>rfl),by repeat (first | (with_reducible first | exact HB.out | apply aj | apply ah | apply ak) | exact HB.out)⟩
end Go.Proofs.YtcnfgfomholheaaGreatDoor.P
