import Derived.Test.YtcnfgfomholheaaGreatDoorPx0
import Derived.Test.YtcnfgfomholheaaGreatDoorPx2
import Derived.Test.YtcnfgfomholheaaGreatDoorPx5
import Derived.Test.YtcnfgfomholheaaGreatDoorPx6
namespace Go.Proofs.YtcnfgfomholheaaGreatDoor.P
open Go.RowKit Go.Proofs.YtcnfgfomholheaaGreatDoor.X Go.Proofs.YtcnfgfomholheaaGreatDoorW.PrintWords Go.Proofs.YtcnfgfomholheaaGreatDoorW.PrintLast Go.Proofs.YtcnfgfomholheaaGreatDoorW.PrintMore
attribute [local go_sem] lU lV oC oD kF kG lW lX
set_option linter.unusedVariables false
set_option linter.unusedSimpArgs false
def gV.f (a0:ByteArray):Option (Bool):=if (a0.size:Int)>0 then (if 0<(a0.size:Int) then (some ((bt a0 0)==36)) else (none)) else (some false)
set_option maxHeartbeats 8000000 in
set_option maxRecDepth 100000 in
theorem gV.calls (a0:ByteArray) (r:Bool) (w:World) (h:gV.f a0=some r):
  Calls Tryz.prog 183 #[.string a0] w fun e w'=>e= .returned (.bool r)∧ay w w':=by
 have H:(if (a0.size:Int)>0 then (if 0<(a0.size:Int) then (some ((bt a0 0)==36)) else (none)) else (some false))=some r:=h
 clear h
 by_cases c2:(a0.size:Int)>0
 ·rw [if_pos c2] at H
  have Vr:decide (0<(a0.size:Int))=true:=decide_eq_true c2
  have Vs:decide (0<a0.size)=true:=decide_eq_true (by omega)
  clear c2
  by_cases c3:0<(a0.size:Int)
  ·rw [if_pos c3] at H
   have xP:decide (0<(a0.size:Int))=true:=decide_eq_true c3
   have Zv:decide (0<a0.size)=true:=decide_eq_true (by omega)
   clear c3
   obtain rfl:=Option.some.inj H
   have p4:0≤(0:Int):=(by omega)
   have q4:0<a0.size:=(by have:(0:Int)<(a0.size:Int):=of_decide_eq_true (by first | (with_reducible assumption) | assumption);omega)
   have hx4:∀h:0<a0.size,((a0[0]'h).toNat:Int)=bt a0 0:=o7 a0 0
   clear p4
   have qi4:(0<(a0.size:Int))=True:=eq_true (of_decide_eq_true (by first | (with_reducible assumption) | assumption))
   replace q4:=eq_true q4
   go_enter Tryz.func183,Tryz.ntmps183
   go_wp2
   go_ret
   exact⟨by first | rfl | (simp;done) | (simp [*];done),by repeat (first | exact ay.refl _ | apply ay.step)⟩
  ·rw [if_neg c3] at H
   exact absurd H (by simp)
 ·rw [if_neg c2] at H
  have Vr:decide (0<(a0.size:Int))=false:=decide_eq_false c2
  have Vs:decide (0<a0.size)=false:=decide_eq_false (by omega)
  clear c2
  obtain rfl:=Option.some.inj H
  go_enter Tryz.func183,Tryz.ntmps183
  go_wp2
  go_ret
  exact⟨by first | rfl | (simp;done) | (simp [*];done),by repeat (first | exact ay.refl _ | apply ay.step)⟩
def dM.l0:Nat→List ByteArray→List ByteArray→Int→Option (Bool)
 | 0,_,_,_=>none
 | k+1,x0,x1,x5=>if x5<(x0.length:Int) then (if 0≤x5 then (if (aK ByteArray.empty x0 x5).toList=([35]:List UInt8) then (some true) else (if x5≥(x1.length:Int) then (some false) else (if (aK ByteArray.empty x0 x5).toList=([43]:List UInt8) then (if x5<(x1.length:Int) then (if (aK ByteArray.empty x1 x5).toList=([35]:List UInt8) then (some false) else (dM.l0 k x0 x1 (wrap64 (x5+1)))) else (none)) else (if x5<(x1.length:Int) then (if (aK ByteArray.empty x0 x5).toList=(aK ByteArray.empty x1 x5).toList then (dM.l0 k x0 x1 (wrap64 (x5+1))) else (some false)) else (none))))) else (none)) else (some ((x0.length:Int)==(x1.length:Int)))
def dM.f (k:Nat) (l0:List ByteArray) (l1:List ByteArray):Option (Bool):=dM.l0 k l0 l1 0
set_option maxHeartbeats 8000000 in
set_option maxRecDepth 100000 in
theorem dM.calls (k:Nat) (A0:Option Addr) (c0:Nat) (l0:List ByteArray) (A1:Option Addr) (c1:Nat) (l1:List ByteArray) (r:Bool) (w:World) (hr0:Kd.C Kd.string w A0 l0.length l0) (hc0:l0.length≤c0) (hr1:Kd.C Kd.string w A1 l1.length l1) (hc1:l1.length≤c1) (h:dM.f k l0 l1=some r):
  Calls Tryz.prog 184 #[.slice A0 l0.length c0, .slice A1 l1.length c1] w fun e w'=>e= .returned (.bool r)∧ay w w':=by
 have HR0:=Aside0.mk hr0
 have HC0:=Aside0.mk hc0
 clear hr0 hc0
 have HR1:=Aside0.mk hr1
 have HC1:=Aside0.mk hc1
 clear hr1 hc1
 have H:(dM.l0 k l0 l1 0)=some r:=h
 clear h
 have H':=Aside0.mk H
 clear H
 go_enter Tryz.func184,Tryz.ntmps184
 go_wp2
 repeat (go_quiet (fail);try go_wp2)
 go_loopg [5] k (fun kq v5 w'=>∃(x5_1:Int),v5= .int .i64 x5_1∧Aside0 (dM.l0 kq l0 l1 x5_1=some r)∧Aside0 (kq≤k)∧ay w w')
 case atStart=>exact⟨(0),(by first | rfl | (simp;done) | (simp [*];done)),H',⟨Nat.le_refl _⟩,by repeat (first | exact ay.refl _ | apply ay.step)⟩
 case round=>
  clear H'
  try clear c1
  try clear p2
  obtain⟨x5_1,rfl,HA,jM,⟨m1,rfl⟩⟩:=hrel
  cases gk with
  | zero=>exact absurd HA.out (by simp [dM.l0])
  | succ k1=>
    have H:=HA.out
    clear HA
    simp only [dM.l0] at H
    by_cases c3:x5_1<(l0.length:Int)
    ·rw [if_pos c3] at H
     have xP:decide (x5_1<(l0.length:Int))=true:=decide_eq_true c3
     clear c3
     by_cases c4:0≤x5_1
     ·rw [if_pos c4] at H
      have jD:decide (0≤x5_1)=true:=decide_eq_true c4
      clear c4
      by_cases c5:(aK ByteArray.empty l0 x5_1).toList=([35]:List UInt8)
      ·rw [if_pos c5] at H
       have rV:((aK ByteArray.empty l0 x5_1).toList==([35]:List UInt8))=true:=beq_iff_eq.mpr c5
       have Di:((aK ByteArray.empty l0 x5_1).toList !=([35]:List UInt8))=false:=bne_eq_false_iff_eq.mpr c5
       clear c5
       obtain rfl:=Option.some.inj H
       have jZ:0≤(x5_1:Int):=of_decide_eq_true (by first | (with_reducible assumption) | assumption)
       have ku:x5_1<(l0.length:Int):=of_decide_eq_true (by first | (with_reducible assumption) | assumption)
       obtain⟨nP,wu,yL⟩:=Kd.aQ HR0.out x5_1 jZ ku
       cases wu
       replace jZ:=eq_true jZ
       replace ku:=eq_true ku
       go_wp2
       repeat (go_quiet (fail);try go_wp2)
       go_ret
       exact⟨by first | rfl | (simp;done) | (simp [*];done),by repeat (first | exact ay.refl _ | apply ay.step)⟩
      ·rw [if_neg c5] at H
       have rV:((aK ByteArray.empty l0 x5_1).toList==([35]:List UInt8))=false:=beq_eq_false_iff_ne.mpr c5
       have Di:((aK ByteArray.empty l0 x5_1).toList !=([35]:List UInt8))=true:=bne_iff_ne.mpr c5
       by_cases c6:x5_1≥(l1.length:Int)
       ·rw [if_pos c6] at H
        have rX:decide ((l1.length:Int)≤x5_1)=true:=decide_eq_true c6
        clear c6
        obtain rfl:=Option.some.inj H
        have jZ:0≤(x5_1:Int):=of_decide_eq_true (by first | (with_reducible assumption) | assumption)
        have ku:x5_1<(l0.length:Int):=of_decide_eq_true (by first | (with_reducible assumption) | assumption)
        obtain⟨nP,wu,yL⟩:=Kd.aQ HR0.out x5_1 jZ ku
        cases wu
        replace jZ:=eq_true jZ
        replace ku:=eq_true ku
        go_wp2
        repeat (go_quiet (fail);try go_wp2)
        go_ret
        exact⟨by first | rfl | (simp;done) | (simp [*];done),by repeat (first | exact ay.refl _ | apply ay.step)⟩
       ·rw [if_neg c6] at H
        have rX:decide ((l1.length:Int)≤x5_1)=false:=decide_eq_false c6
        clear c6
        by_cases c7:(aK ByteArray.empty l0 x5_1).toList=([43]:List UInt8)
        ·rw [if_pos c7] at H
         have rW:((aK ByteArray.empty l0 x5_1).toList==([43]:List UInt8))=true:=beq_iff_eq.mpr c7
         have Gl:((aK ByteArray.empty l0 x5_1).toList !=([43]:List UInt8))=false:=bne_eq_false_iff_eq.mpr c7
         clear c7
         by_cases c8:x5_1<(l1.length:Int)
         ·rw [if_pos c8] at H
          have zK:decide (x5_1<(l1.length:Int))=true:=decide_eq_true c8
          clear c8
          by_cases c9:(aK ByteArray.empty l1 x5_1).toList=([35]:List UInt8)
          ·rw [if_pos c9] at H
           have Dk:((aK ByteArray.empty l1 x5_1).toList==([35]:List UInt8))=true:=beq_iff_eq.mpr c9
           have Vf:((aK ByteArray.empty l1 x5_1).toList !=([35]:List UInt8))=false:=bne_eq_false_iff_eq.mpr c9
           clear c9
           obtain rfl:=Option.some.inj H
           have jZ:0≤(x5_1:Int):=of_decide_eq_true (by first | (with_reducible assumption) | assumption)
           have ku:x5_1<(l0.length:Int):=of_decide_eq_true (by first | (with_reducible assumption) | assumption)
           obtain⟨nP,wu,yL⟩:=Kd.aQ HR0.out x5_1 jZ ku
           cases wu
           replace jZ:=eq_true jZ
           replace ku:=eq_true ku
           have qc:0≤(x5_1:Int):=of_decide_eq_true (by first | (with_reducible assumption) | assumption)
           have qg:x5_1<(l0.length:Int):=of_decide_eq_true (by first | (with_reducible assumption) | assumption)
           obtain⟨zT,e165,KE⟩:=Kd.aQ HR0.out x5_1 qc qg
           obtain rfl:nP=zT:=(by injection e165)
           replace qc:=eq_true qc
           replace qg:=eq_true qg
           have Gu:0≤(x5_1:Int):=of_decide_eq_true (by first | (with_reducible assumption) | assumption)
           have Gv:x5_1<(l1.length:Int):=of_decide_eq_true (by first | (with_reducible assumption) | assumption)
           obtain⟨adR,e166,aa6⟩:=Kd.aQ HR1.out x5_1 Gu Gv
           cases e166
           replace Gu:=eq_true Gu
           replace Gv:=eq_true Gv
           go_wp2
           repeat (go_quiet (fail);try go_wp2)
           go_ret
           exact⟨by first | rfl | (simp;done) | (simp [*];done),by repeat (first | exact ay.refl _ | apply ay.step)⟩
          ·rw [if_neg c9] at H
           have Dk:((aK ByteArray.empty l1 x5_1).toList==([35]:List UInt8))=false:=beq_eq_false_iff_ne.mpr c9
           have Vf:((aK ByteArray.empty l1 x5_1).toList !=([35]:List UInt8))=true:=bne_iff_ne.mpr c9
           have H':=Aside0.mk H
           clear H
           have jZ:0≤(x5_1:Int):=of_decide_eq_true (by first | (with_reducible assumption) | assumption)
           have ku:x5_1<(l0.length:Int):=of_decide_eq_true (by first | (with_reducible assumption) | assumption)
           obtain⟨nP,wu,yL⟩:=Kd.aQ HR0.out x5_1 jZ ku
           cases wu
           replace jZ:=eq_true jZ
           replace ku:=eq_true ku
           have qc:0≤(x5_1:Int):=of_decide_eq_true (by first | (with_reducible assumption) | assumption)
           have qg:x5_1<(l0.length:Int):=of_decide_eq_true (by first | (with_reducible assumption) | assumption)
           obtain⟨zT,e165,KE⟩:=Kd.aQ HR0.out x5_1 qc qg
           obtain rfl:nP=zT:=(by injection e165)
           replace qc:=eq_true qc
           replace qg:=eq_true qg
           have Gu:0≤(x5_1:Int):=of_decide_eq_true (by first | (with_reducible assumption) | assumption)
           have Gv:x5_1<(l1.length:Int):=of_decide_eq_true (by first | (with_reducible assumption) | assumption)
           obtain⟨adR,e166,aa6⟩:=Kd.aQ HR1.out x5_1 Gu Gv
           cases e166
           replace Gu:=eq_true Gu
           replace Gv:=eq_true Gv
           have Zz:0≤(x5_1:Int):=of_decide_eq_true (by first | (with_reducible assumption) | assumption)
           have ZA:x5_1<(l0.length:Int):=of_decide_eq_true (by first | (with_reducible assumption) | assumption)
           obtain⟨adS,e167,aeY⟩:=Kd.aQ HR0.out x5_1 Zz ZA
           obtain rfl:nP=adS:=(by injection e167)
           replace Zz:=eq_true Zz
           replace ZA:=eq_true ZA
           go_wp2
           repeat (go_quiet (fail);try go_wp2)
           go_roundg k1
           case measure=>have:=jM.out;omega
           case rel=>exact⟨(wrap64 (x5_1+1)),(by first | rfl | (simp;done) | (simp [*];done)),H',⟨by have:=jM.out;omega⟩,by repeat (first | exact ay.refl _ | apply ay.step)⟩
         ·rw [if_neg c8] at H
          exact absurd H (by simp)
        ·rw [if_neg c7] at H
         have rW:((aK ByteArray.empty l0 x5_1).toList==([43]:List UInt8))=false:=beq_eq_false_iff_ne.mpr c7
         have Gl:((aK ByteArray.empty l0 x5_1).toList !=([43]:List UInt8))=true:=bne_iff_ne.mpr c7
         by_cases c10:x5_1<(l1.length:Int)
         ·rw [if_pos c10] at H
          have aaj:decide (x5_1<(l1.length:Int))=true:=decide_eq_true c10
          clear c10
          by_cases c11:(aK ByteArray.empty l0 x5_1).toList=(aK ByteArray.empty l1 x5_1).toList
          ·rw [if_pos c11] at H
           have nO:((aK ByteArray.empty l0 x5_1).toList==(aK ByteArray.empty l1 x5_1).toList)=true:=beq_iff_eq.mpr c11
           have Vu:((aK ByteArray.empty l0 x5_1).toList !=(aK ByteArray.empty l1 x5_1).toList)=false:=bne_eq_false_iff_eq.mpr c11
           clear c11
           have H':=Aside0.mk H
           clear H
           have jZ:0≤(x5_1:Int):=of_decide_eq_true (by first | (with_reducible assumption) | assumption)
           have ku:x5_1<(l0.length:Int):=of_decide_eq_true (by first | (with_reducible assumption) | assumption)
           obtain⟨nP,wu,yL⟩:=Kd.aQ HR0.out x5_1 jZ ku
           cases wu
           replace jZ:=eq_true jZ
           replace ku:=eq_true ku
           have qc:0≤(x5_1:Int):=of_decide_eq_true (by first | (with_reducible assumption) | assumption)
           have qg:x5_1<(l0.length:Int):=of_decide_eq_true (by first | (with_reducible assumption) | assumption)
           obtain⟨zT,e165,KE⟩:=Kd.aQ HR0.out x5_1 qc qg
           obtain rfl:nP=zT:=(by injection e165)
           replace qc:=eq_true qc
           replace qg:=eq_true qg
           have Gw:0≤(x5_1:Int):=of_decide_eq_true (by first | (with_reducible assumption) | assumption)
           have Gx:x5_1<(l0.length:Int):=of_decide_eq_true (by first | (with_reducible assumption) | assumption)
           obtain⟨Vx,e168,aa7⟩:=Kd.aQ HR0.out x5_1 Gw Gx
           obtain rfl:nP=Vx:=(by injection e168)
           replace Gw:=eq_true Gw
           replace Gx:=eq_true Gx
           have Gy:0≤(x5_1:Int):=of_decide_eq_true (by first | (with_reducible assumption) | assumption)
           have Gz:x5_1<(l0.length:Int):=of_decide_eq_true (by first | (with_reducible assumption) | assumption)
           obtain⟨Vy,e169,aa8⟩:=Kd.aQ HR0.out x5_1 Gy Gz
           obtain rfl:nP=Vy:=(by injection e169)
           replace Gy:=eq_true Gy
           replace Gz:=eq_true Gz
           have GH:0≤(x5_1:Int):=of_decide_eq_true (by first | (with_reducible assumption) | assumption)
           have GI:x5_1<(l1.length:Int):=of_decide_eq_true (by first | (with_reducible assumption) | assumption)
           obtain⟨adT,e170,aa9⟩:=Kd.aQ HR1.out x5_1 GH GI
           cases e170
           replace GH:=eq_true GH
           replace GI:=eq_true GI
           go_wp2
           repeat (go_quiet (fail);try go_wp2)
           go_roundg k1
           case measure=>have:=jM.out;omega
           case rel=>exact⟨(wrap64 (x5_1+1)),(by first | rfl | (simp;done) | (simp [*];done)),H',⟨by have:=jM.out;omega⟩,by repeat (first | exact ay.refl _ | apply ay.step)⟩
          ·rw [if_neg c11] at H
           have nO:((aK ByteArray.empty l0 x5_1).toList==(aK ByteArray.empty l1 x5_1).toList)=false:=beq_eq_false_iff_ne.mpr c11
           have Vu:((aK ByteArray.empty l0 x5_1).toList !=(aK ByteArray.empty l1 x5_1).toList)=true:=bne_iff_ne.mpr c11
           obtain rfl:=Option.some.inj H
           have jZ:0≤(x5_1:Int):=of_decide_eq_true (by first | (with_reducible assumption) | assumption)
           have ku:x5_1<(l0.length:Int):=of_decide_eq_true (by first | (with_reducible assumption) | assumption)
           obtain⟨nP,wu,yL⟩:=Kd.aQ HR0.out x5_1 jZ ku
           cases wu
           replace jZ:=eq_true jZ
           replace ku:=eq_true ku
           have qc:0≤(x5_1:Int):=of_decide_eq_true (by first | (with_reducible assumption) | assumption)
           have qg:x5_1<(l0.length:Int):=of_decide_eq_true (by first | (with_reducible assumption) | assumption)
           obtain⟨zT,e165,KE⟩:=Kd.aQ HR0.out x5_1 qc qg
           obtain rfl:nP=zT:=(by injection e165)
           replace qc:=eq_true qc
           replace qg:=eq_true qg
           have Gw:0≤(x5_1:Int):=of_decide_eq_true (by first | (with_reducible assumption) | assumption)
           have Gx:x5_1<(l0.length:Int):=of_decide_eq_true (by first | (with_reducible assumption) | assumption)
           obtain⟨Vx,e168,aa7⟩:=Kd.aQ HR0.out x5_1 Gw Gx
           obtain rfl:nP=Vx:=(by injection e168)
           replace Gw:=eq_true Gw
           replace Gx:=eq_true Gx
           have Gy:0≤(x5_1:Int):=of_decide_eq_true (by first | (with_reducible assumption) | assumption)
           have Gz:x5_1<(l0.length:Int):=of_decide_eq_true (by first | (with_reducible assumption) | assumption)
           obtain⟨Vy,e169,aa8⟩:=Kd.aQ HR0.out x5_1 Gy Gz
           obtain rfl:nP=Vy:=(by injection e169)
           replace Gy:=eq_true Gy
           replace Gz:=eq_true Gz
           have GH:0≤(x5_1:Int):=of_decide_eq_true (by first | (with_reducible assumption) | assumption)
           have GI:x5_1<(l1.length:Int):=of_decide_eq_true (by first | (with_reducible assumption) | assumption)
           obtain⟨adT,e170,aa9⟩:=Kd.aQ HR1.out x5_1 GH GI
           cases e170
           replace GH:=eq_true GH
           replace GI:=eq_true GI
           go_wp2
           repeat (go_quiet (fail);try go_wp2)
           go_ret
           exact⟨by first | rfl | (simp;done) | (simp [*];done),by repeat (first | exact ay.refl _ | apply ay.step)⟩
         ·rw [if_neg c10] at H
          exact absurd H (by simp)
     ·rw [if_neg c4] at H
      exact absurd H (by simp)
    ·rw [if_neg c3] at H
     have xP:decide (x5_1<(l0.length:Int))=false:=decide_eq_false c3
     clear c3
     obtain rfl:=Option.some.inj H
     go_wp2
     repeat (go_quiet (fail);try go_wp2)
     go_ret
     exact⟨by first | rfl | (simp;done) | (simp [*];done),by repeat (first | exact ay.refl _ | apply ay.step)⟩
def bI.j0:Nat→ByteArray→ByteArray→Bool→Option (Bool)
 | 0,_,_,_=>none
 | k+1,x0,x1,x20=>if x20=true then (some false) else ((bf.f k x0).bind fun t175=>((bf.f k x1).bind fun xR=>((dM.f k t175 xR).bind fun xU=>(some xU))))
def bI.f (k:Nat) (a0:ByteArray) (a1:ByteArray):Option (Bool):=(aN.f k a0).bind fun t171=>(if t171=true then ((iF.f k a1).bind fun xW=>(if xW=true then ((gI.f a0).bind fun t173=>(if t173=true then ((gV.f a1).bind fun mO=>(bI.j0 k a0 a1 mO)) else (bI.j0 k a0 a1 false))) else (bI.j0 k a0 a1 true))) else (bI.j0 k a0 a1 true))
set_option maxHeartbeats 8000000 in
set_option maxRecDepth 100000 in
theorem bI.calls (k:Nat) (a0:ByteArray) (a1:ByteArray) (r:Bool) (w:World) (h:bI.f k a0 a1=some r):
  Calls Tryz.prog 113 #[.string a0, .string a1] w fun e w'=>e= .returned (.bool r)∧Below w.heap.size w w':=by
 have HB:=Aside0.mk (Below.refl w.heap.size w)
 have H:((aN.f k a0).bind fun t171=>(if t171=true then ((iF.f k a1).bind fun xW=>(if xW=true then ((gI.f a0).bind fun t173=>(if t173=true then ((gV.f a1).bind fun mO=>(bI.j0 k a0 a1 mO)) else (bI.j0 k a0 a1 false))) else (bI.j0 k a0 a1 true))) else (bI.j0 k a0 a1 true)))=some r:=h
 clear h
 have Dl:=Aside0.mk H
 clear H
 go_enter Tryz.func113,Tryz.ntmps113
 go_upto_region 1 with (fail)
 go_cut [20] (fun v20 wc=>∃(kq:Nat) (x20_2:Bool),v20= .bool x20_2∧Aside0 (bI.j0 kq a0 a1 x20_2=some r)∧Aside0 (kq≤k)∧Aside0 (Below w.heap.size w wc))
 case first=>
  have H:=Dl.out
  clear Dl
  replace H:=Option.bind_eq_some_iff.mp H
  obtain⟨t171,Yc,H⟩:=H
  replace H:(if t171=true then ((iF.f k a1).bind fun xW=>(if xW=true then ((gI.f a0).bind fun t173=>(if t173=true then ((gV.f a1).bind fun mO=>(bI.j0 k a0 a1 mO)) else (bI.j0 k a0 a1 false))) else (bI.j0 k a0 a1 true))) else (bI.j0 k a0 a1 true))=some r:=H
  have A4:=Aside0.mk Yc
  clear Yc
  by_cases c5:t171=true
  ·subst c5
   have H1:((iF.f k a1).bind fun xW=>(if xW=true then ((gI.f a0).bind fun t173=>(if t173=true then ((gV.f a1).bind fun mO=>(bI.j0 k a0 a1 mO)) else (bI.j0 k a0 a1 false))) else (bI.j0 k a0 a1 true)))=some r:=by rw [if_pos rfl] at H;exact H
   clear H
   have H:=H1
   clear H1
   replace H:=Option.bind_eq_some_iff.mp H
   obtain⟨xW,xk,H⟩:=H
   replace H:(if xW=true then ((gI.f a0).bind fun t173=>(if t173=true then ((gV.f a1).bind fun mO=>(bI.j0 k a0 a1 mO)) else (bI.j0 k a0 a1 false))) else (bI.j0 k a0 a1 true))=some r:=H
   have A6:=Aside0.mk xk
   clear xk
   by_cases c7:xW=true
   ·subst c7
    have H1:((gI.f a0).bind fun t173=>(if t173=true then ((gV.f a1).bind fun mO=>(bI.j0 k a0 a1 mO)) else (bI.j0 k a0 a1 false)))=some r:=by rw [if_pos rfl] at H;exact H
    clear H
    have H:=H1
    clear H1
    replace H:=Option.bind_eq_some_iff.mp H
    obtain⟨t173,LP,H⟩:=H
    replace H:(if t173=true then ((gV.f a1).bind fun mO=>(bI.j0 k a0 a1 mO)) else (bI.j0 k a0 a1 false))=some r:=H
    have A8:=Aside0.mk LP
    clear LP
    by_cases c9:t173=true
    ·subst c9
     have H1:((gV.f a1).bind fun mO=>(bI.j0 k a0 a1 mO))=some r:=by rw [if_pos rfl] at H;exact H
     clear H
     have H:=H1
     clear H1
     replace H:=Option.bind_eq_some_iff.mp H
     obtain⟨mO,Dh,H⟩:=H
     replace H:(bI.j0 k a0 a1 mO)=some r:=H
     have X8:=Aside0.mk Dh
     clear Dh
     have H':=Aside0.mk H
     clear H
     go_wp2_with (first | ((with_reducible refine aH (f:=106) rfl ?_);refine bW (some 6) rfl rfl Tryz.func106 (by kernel_rfl) rfl #[.string a0] rfl (by(try simp only [List.map_toArray,List.map_cons,List.map_nil]);first | done | rfl | (simp only [List.length_drop,List.length_take];rfl)) ?_;(with_reducible refine(aN.calls k a0 true _ A4.out).mono ?_);rintro e w11 ⟨rfl,hb⟩;refine⟨_,rfl,?_⟩;have aY:=Aside0.mk (aJ (by repeat (first | (with_reducible first | exact HB.out | apply aj | apply ah | apply ak) | exact HB.out)) hb);clear HB;have HB:=aY;clear aY;(try clear hb);(try clear hb2);(try clear hk);(try clear hi)) | (go_at_call 181;(with_reducible refine(iF.calls k a1 true _ A6.out).mono ?_);rintro e w12 ⟨rfl,hb⟩;have aY:=Aside0.mk (aJ (by repeat (first | (with_reducible first | exact HB.out | apply aj | apply ah | apply ak) | exact HB.out)) hb);clear HB;have HB:=aY;clear aY;(try clear hb);(try clear hb2);(try clear hk);(try clear hi)) | (go_at_call 182;(with_reducible refine(gI.calls a0 true _ A8.out).mono ?_);rintro e w' ⟨rfl,⟨nd,rfl⟩⟩) | (go_at_call 183;(with_reducible refine(gV.calls a1 mO _ X8.out).mono ?_);rintro e w' ⟨rfl,⟨nd,rfl⟩⟩))
     go_meet
     case rel=>exact⟨_,(mO),(by first | rfl | (simp;done) | (simp [*];done)),H',⟨by first | omega | exact Nat.le_refl _⟩,⟨by repeat (first | (with_reducible first | exact HB.out | apply aj | apply ah | apply ak) | exact HB.out)⟩⟩
    ·replace c9:=Bool.eq_false_iff.mpr c9
     subst c9
     have H1:(bI.j0 k a0 a1 false)=some r:=by rw [if_neg (show ¬(false=true) by decide)] at H;exact H
     clear H
     have H:=H1
     clear H1
     have H':=Aside0.mk H
     clear H
     go_wp2_with (first | ((with_reducible refine aH (f:=106) rfl ?_);refine bW (some 6) rfl rfl Tryz.func106 (by kernel_rfl) rfl #[.string a0] rfl (by(try simp only [List.map_toArray,List.map_cons,List.map_nil]);first | done | rfl | (simp only [List.length_drop,List.length_take];rfl)) ?_;(with_reducible refine(aN.calls k a0 true _ A4.out).mono ?_);rintro e w13 ⟨rfl,hb⟩;refine⟨_,rfl,?_⟩;have aY:=Aside0.mk (aJ (by repeat (first | (with_reducible first | exact HB.out | apply aj | apply ah | apply ak) | exact HB.out)) hb);clear HB;have HB:=aY;clear aY;(try clear hb);(try clear hb2);(try clear hk);(try clear hi)) | (go_at_call 181;(with_reducible refine(iF.calls k a1 true _ A6.out).mono ?_);rintro e w14 ⟨rfl,hb⟩;have aY:=Aside0.mk (aJ (by repeat (first | (with_reducible first | exact HB.out | apply aj | apply ah | apply ak) | exact HB.out)) hb);clear HB;have HB:=aY;clear aY;(try clear hb);(try clear hb2);(try clear hk);(try clear hi)) | (go_at_call 182;(with_reducible refine(gI.calls a0 false _ A8.out).mono ?_);rintro e w' ⟨rfl,⟨nd,rfl⟩⟩))
     go_meet
     case rel=>exact⟨_,(false),(by first | rfl | (simp;done) | (simp [*];done)),H',⟨by first | omega | exact Nat.le_refl _⟩,⟨by repeat (first | (with_reducible first | exact HB.out | apply aj | apply ah | apply ak) | exact HB.out)⟩⟩
   ·replace c7:=Bool.eq_false_iff.mpr c7
    subst c7
    have H1:(bI.j0 k a0 a1 true)=some r:=by rw [if_neg (show ¬(false=true) by decide)] at H;exact H
    clear H
    have H:=H1
    clear H1
    have H':=Aside0.mk H
    clear H
    go_wp2_with (first | ((with_reducible refine aH (f:=106) rfl ?_);refine bW (some 6) rfl rfl Tryz.func106 (by kernel_rfl) rfl #[.string a0] rfl (by(try simp only [List.map_toArray,List.map_cons,List.map_nil]);first | done | rfl | (simp only [List.length_drop,List.length_take];rfl)) ?_;(with_reducible refine(aN.calls k a0 true _ A4.out).mono ?_);rintro e w15 ⟨rfl,hb⟩;refine⟨_,rfl,?_⟩;have aY:=Aside0.mk (aJ (by repeat (first | (with_reducible first | exact HB.out | apply aj | apply ah | apply ak) | exact HB.out)) hb);clear HB;have HB:=aY;clear aY;(try clear hb);(try clear hb2);(try clear hk);(try clear hi)) | (go_at_call 181;(with_reducible refine(iF.calls k a1 false _ A6.out).mono ?_);rintro e w16 ⟨rfl,hb⟩;have aY:=Aside0.mk (aJ (by repeat (first | (with_reducible first | exact HB.out | apply aj | apply ah | apply ak) | exact HB.out)) hb);clear HB;have HB:=aY;clear aY;(try clear hb);(try clear hb2);(try clear hk);(try clear hi)))
    go_meet
    case rel=>exact⟨_,(true),(by first | rfl | (simp;done) | (simp [*];done)),H',⟨by first | omega | exact Nat.le_refl _⟩,⟨by repeat (first | (with_reducible first | exact HB.out | apply aj | apply ah | apply ak) | exact HB.out)⟩⟩
  ·replace c5:=Bool.eq_false_iff.mpr c5
   subst c5
   have H1:(bI.j0 k a0 a1 true)=some r:=by rw [if_neg (show ¬(false=true) by decide)] at H;exact H
   clear H
   have H:=H1
   clear H1
   have H':=Aside0.mk H
   clear H
   go_wp2_with (first | ((with_reducible refine aH (f:=106) rfl ?_);refine bW (some 6) rfl rfl Tryz.func106 (by kernel_rfl) rfl #[.string a0] rfl (by(try simp only [List.map_toArray,List.map_cons,List.map_nil]);first | done | rfl | (simp only [List.length_drop,List.length_take];rfl)) ?_;(with_reducible refine(aN.calls k a0 false _ A4.out).mono ?_);rintro e w17 ⟨rfl,hb⟩;refine⟨_,rfl,?_⟩;have aY:=Aside0.mk (aJ (by repeat (first | (with_reducible first | exact HB.out | apply aj | apply ah | apply ak) | exact HB.out)) hb);clear HB;have HB:=aY;clear aY;(try clear hb);(try clear hb2);(try clear hk);(try clear hi)))
   go_meet
   case rel=>exact⟨_,(true),(by first | rfl | (simp;done) | (simp [*];done)),H',⟨by first | omega | exact Nat.le_refl _⟩,⟨by repeat (first | (with_reducible first | exact HB.out | apply aj | apply ah | apply ak) | exact HB.out)⟩⟩
 case rest=>
  clear Dl
  try clear c1
  try clear p2
  try clear c5
  try clear c7
  try clear c9
  try clear c10
  try clear c11
  obtain⟨kq,x20_2,rfl,HA,HJ2,HB⟩:=hcut
  cases kq with
  | zero=>exact absurd HA.out (by simp [bI.j0])
  | succ qV=>
    have H:=HA.out
    clear HA
    simp only [bI.j0] at H
    by_cases c18:x20_2=true
    ·subst c18
     have H1:(some false)=some r:=by rw [if_pos rfl] at H;exact H
     clear H
     have H:=H1
     clear H1
     obtain rfl:=Option.some.inj H
     go_wp2
     go_ret
     exact⟨by first | rfl | (simp [aA,aC]<;>rfl) | (simp [*,aA,aC]<;>rfl),by repeat (first | (with_reducible first | exact HB.out | apply aj | apply ah | apply ak) | exact HB.out)⟩
    ·replace c18:=Bool.eq_false_iff.mpr c18
     subst c18
     have H1:((bf.f qV a0).bind fun t175=>((bf.f qV a1).bind fun xR=>((dM.f qV t175 xR).bind fun xU=>(some xU))))=some r:=by rw [if_neg (show ¬(false=true) by decide)] at H;exact H
     clear H
     have H:=H1
     clear H1
     replace H:=Option.bind_eq_some_iff.mp H
     obtain⟨t175,P9,H⟩:=H
     replace H:((bf.f qV a1).bind fun xR=>((dM.f qV t175 xR).bind fun xU=>(some xU)))=some r:=H
     have A19:=Aside0.mk P9
     clear P9
     replace H:=Option.bind_eq_some_iff.mp H
     obtain⟨xR,Qa,H⟩:=H
     replace H:((dM.f qV t175 xR).bind fun xU=>(some xU))=some r:=H
     have lK:=Aside0.mk Qa
     clear Qa
     replace H:=Option.bind_eq_some_iff.mp H
     obtain⟨xU,Qb,H⟩:=H
     replace H:(some xU)=some r:=H
     have A21:=Aside0.mk Qb
     clear Qb
     obtain rfl:=Option.some.inj H
     go_wp2_with (first | ((with_reducible refine aH (f:=108) rfl ?_);refine bW (some 22) rfl rfl Tryz.func108 (by kernel_rfl) rfl #[.string a0] rfl (by(try simp only [List.map_toArray,List.map_cons,List.map_nil]);first | done | rfl | (simp only [List.length_drop,List.length_take];rfl)) ?_;(with_reducible refine(bf.calls qV a0 t175 _ A19.out).mono ?_);rintro e w22 ⟨afE,rfl,ho0,hb⟩;refine⟨_,rfl,?_⟩;have aY:=Aside0.mk (Kd.lu ho0 (iQ (by repeat (first | (with_reducible first | exact HB.out | apply aj | apply ah | apply ak) | exact HB.out))));have fK:=Aside0.mk (aJ (by repeat (first | (with_reducible first | exact HB.out | apply aj | apply ah | apply ak) | exact HB.out)) hb);clear HB;have zU:=aY;have HB:=fK;clear aY fK;(try clear hb);(try clear hb2);(try clear hk);(try clear hi);(try clear ho0)) | ((with_reducible refine aH (f:=108) rfl ?_);refine bW (some 24) rfl rfl Tryz.func108 (by kernel_rfl) rfl #[.string a1] rfl (by(try simp only [List.map_toArray,List.map_cons,List.map_nil]);first | done | rfl | (simp only [List.length_drop,List.length_take];rfl)) ?_;(with_reducible refine(bf.calls qV a1 xR _ lK.out).mono ?_);rintro e w23 ⟨afF,rfl,ho0,hb⟩;refine⟨_,rfl,?_⟩;have aY:=Aside0.mk (Kd.NS (by(with_reducible repeat (first | apply Kd.dI | apply Kd.dJ | apply Kd.dR));exact zU.out) (Kd.NQ ho0) hb);have fK:=Aside0.mk (Kd.lu (Kd.VZ ho0 (Kd.abr (by(with_reducible repeat (first | apply Kd.dI | apply Kd.dJ | apply Kd.dR));exact zU.out))) (iQ (by repeat (first | (with_reducible first | exact HB.out | apply aj | apply ah | apply ak) | exact HB.out))));have qA:=Aside0.mk (aJ (by repeat (first | (with_reducible first | exact HB.out | apply aj | apply ah | apply ak) | exact HB.out)) hb);clear zU;clear HB;have zU:=aY;have Vz:=fK;have HB:=qA;clear aY fK qA;(try clear hb);(try clear hb2);(try clear hk);(try clear hi);(try clear ho0);obtain⟨Vk,Vl,Qc⟩:=Kd.iJ zU.out;subst Qc;obtain⟨Vm,Vo,Qd⟩:=Kd.iJ Vz.out;subst Qd) | ((with_reducible refine aH (f:=184) rfl ?_);refine bW (some 25) rfl rfl Tryz.func184 (by kernel_rfl) rfl #[.slice Vk t175.length Vl, .slice Vm xR.length Vo] rfl (by(try simp only [List.map_toArray,List.map_cons,List.map_nil]);first | done | rfl | (simp only [List.length_drop,List.length_take];rfl)) ?_;(with_reducible refine(dM.calls qV _ _ t175 _ _ xR xU _ ?dP ?Jb ?Vp ?Vq A21.out).mono ?_);(case dP=>repeat (first | exact(Kd.bD zU.out).2.2 | (with_reducible refine Kd.xX ?_ _) | (with_reducible refine Kd.uN ?_ _) | (with_reducible refine Kd.AO ?_)));(case Jb=>exact(Kd.bD zU.out).2.1);(case Vp=>repeat (first | exact(Kd.bD Vz.out).2.2 | (with_reducible refine Kd.xX ?_ _) | (with_reducible refine Kd.uN ?_ _) | (with_reducible refine Kd.AO ?_)));(case Vq=>exact(Kd.bD Vz.out).2.1);rintro e w' ⟨rfl,⟨nd,rfl⟩⟩;refine⟨_,rfl,?_⟩))
     go_ret
     exact⟨by first | rfl | (simp [aA,aC]<;>rfl) | (simp [*,aA,aC]<;>rfl),by repeat (first | (with_reducible first | exact HB.out | apply aj | apply ah | apply ak) | exact HB.out)⟩
end Go.Proofs.YtcnfgfomholheaaGreatDoor.P
