import Derived.Test.YtcnfgfomholheaaGreatDoorPx0
import Derived.Test.YtcnfgfomholheaaGreatDoorPx1
import Derived.Test.YtcnfgfomholheaaGreatDoorPx2
import Derived.Test.YtcnfgfomholheaaGreatDoorPx5
namespace Go.Proofs.YtcnfgfomholheaaGreatDoor.P
open Go.RowKit Go.Proofs.YtcnfgfomholheaaGreatDoor.X Go.Proofs.YtcnfgfomholheaaGreatDoorW.PrintWords Go.Proofs.YtcnfgfomholheaaGreatDoorW.PrintLast Go.Proofs.YtcnfgfomholheaaGreatDoorW.PrintMore
attribute [local go_sem] mG mJ oQ oU kZ lg mM mO
set_option linter.unusedVariables false
set_option linter.unusedSimpArgs false
def strings_HasPrefix.f (a0:ByteArray) (a1:ByteArray):Option (Bool):=(stringslite_HasPrefix.f a0 a1).bind fun t148=>(some t148)
set_option maxHeartbeats 8000000 in
set_option maxRecDepth 100000 in
theorem strings_HasPrefix.calls (a0:ByteArray) (a1:ByteArray) (r:Bool) (w:World) (h:strings_HasPrefix.f a0 a1=some r):
  Calls Tryz.prog 195 #[.string a0, .string a1] w fun e w'=>e= .returned (.bool r)∧aA w w':=by
 have H:((stringslite_HasPrefix.f a0 a1).bind fun t148=>(some t148))=some r:=h
 clear h
 replace H:=Option.bind_eq_some_iff.mp H
 obtain⟨t148,Yc,H⟩:=H
 replace H:(some t148)=some r:=H
 have A3:=Aside0.mk Yc
 clear Yc
 obtain rfl:=Option.some.inj H
 go_enter Tryz.func195,Tryz.ntmps195
 go_wp2_with (first | ((with_reducible refine aQ (f:=219) rfl ?_);refine cZ (some 7) rfl rfl Tryz.func219 (by kernel_rfl) rfl #[.string a0, .string a1] rfl (by(try simp only [List.map_toArray,List.map_cons,List.map_nil]);first | done | rfl | (simp only [List.length_drop,List.length_take];rfl)) ?_;(with_reducible refine(stringslite_HasPrefix.calls a0 a1 t148 _ A3.out).mono ?_);rintro e w' ⟨rfl,⟨nd,rfl⟩⟩;refine⟨_,rfl,?_⟩))
 go_ret
 exact⟨by first | rfl | (simp;done) | (simp [*];done),by repeat (first | exact aA.refl _ | apply aA.step)⟩
def iF.f (a0:ByteArray):Option (Bool):=(strings_HasPrefix.f a0 (⟨#[36]⟩:ByteArray)).bind fun KZ=>(some KZ)
set_option maxHeartbeats 8000000 in
set_option maxRecDepth 100000 in
theorem iF.calls (a0:ByteArray) (r:Bool) (w:World) (h:iF.f a0=some r):
  Calls Tryz.prog 151 #[.string a0] w fun e w'=>e= .returned (.bool r)∧aA w w':=by
 have H:((strings_HasPrefix.f a0 (⟨#[36]⟩:ByteArray)).bind fun KZ=>(some KZ))=some r:=h
 clear h
 replace H:=Option.bind_eq_some_iff.mp H
 obtain⟨KZ,mD,H⟩:=H
 replace H:(some KZ)=some r:=H
 have A2:=Aside0.mk mD
 clear mD
 obtain rfl:=Option.some.inj H
 go_enter Tryz.func151,Tryz.ntmps151
 go_wp2_with (first | ((with_reducible refine aQ (f:=195) rfl ?_);refine cZ (some 4) rfl rfl Tryz.func195 (by kernel_rfl) rfl #[.string a0, .string (⟨#[36]⟩:ByteArray)] rfl (by(try simp only [List.map_toArray,List.map_cons,List.map_nil]);first | done | rfl | (simp only [List.length_drop,List.length_take];rfl)) ?_;(with_reducible refine(strings_HasPrefix.calls a0 (⟨#[36]⟩:ByteArray) KZ _ A2.out).mono ?_);rintro e w' ⟨rfl,⟨nd,rfl⟩⟩;refine⟨_,rfl,?_⟩))
 go_ret
 exact⟨by first | rfl | (simp;done) | (simp [*];done),by repeat (first | exact aA.refl _ | apply aA.step)⟩
mutual
def dw.l0:Nat→List ByteArray→List ByteArray→List ByteArray→Int→Int→Option (Bool)
 | 0,_,_,_,_,_=>none
 | k+1,x0,x1,x7,x8,x9=>if x9<x8 then (if 0≤x9 then (if x9<(x7.length:Int) then (if (aT ByteArray.empty x7 x9).toList=([35]:List UInt8) then (some true) else (if x9=(x1.length:Int) then (some false) else (if (aT ByteArray.empty x7 x9).toList=([43]:List UInt8) then (if x9<(x1.length:Int) then (dw.j1 k x0 x1 x9 (aT ByteArray.empty x7 x9) x7 x8 x9 ((aT ByteArray.empty x1 x9).toList==([35]:List UInt8))) else (none)) else (dw.j1 k x0 x1 x9 (aT ByteArray.empty x7 x9) x7 x8 x9 false)))) else (none)) else (none)) else (some ((x0.length:Int)==(x1.length:Int)))
def dw.j1:Nat→List ByteArray→List ByteArray→Int→ByteArray→List ByteArray→Int→Int→Bool→Option (Bool)
 | 0,_,_,_,_,_,_,_,_=>none
 | k+1,x0,x1,x5,x6,x7,x8,x9,x22=>if x22=true then (some false) else (if x6.toList=([43]:List UInt8) then (dw.l0 k x0 x1 x7 x8 (wrap64 (x9+1))) else (if 0≤x5 then (if x5<(x1.length:Int) then (if x6.toList=(aT ByteArray.empty x1 x5).toList then (dw.l0 k x0 x1 x7 x8 (wrap64 (x9+1))) else (some false)) else (none)) else (none)))
end
def dw.f (k:Nat) (l0:List ByteArray) (l1:List ByteArray):Option (Bool):=dw.l0 k l0 l1 l0 (l0.length:Int) 0
set_option maxHeartbeats 8000000 in
set_option maxRecDepth 100000 in
theorem dw.calls (k:Nat) (A0:Option Addr) (c0:Nat) (l0:List ByteArray) (A1:Option Addr) (c1:Nat) (l1:List ByteArray) (r:Bool) (w:World) (hr0:Kd.C Kd.string w A0 l0.length l0) (hc0:l0.length≤c0) (hr1:Kd.C Kd.string w A1 l1.length l1) (hc1:l1.length≤c1) (h:dw.f k l0 l1=some r):
  Calls Tryz.prog 152 #[.slice A0 l0.length c0, .slice A1 l1.length c1] w fun e w'=>e= .returned (.bool r)∧aA w w':=by
 have HR0:=Aside0.mk hr0
 have HC0:=Aside0.mk hc0
 clear hr0 hc0
 have HR1:=Aside0.mk hr1
 have HC1:=Aside0.mk hc1
 clear hr1 hc1
 have H:(dw.l0 k l0 l1 l0 (l0.length:Int) 0)=some r:=h
 clear h
 have H':=Aside0.mk H
 clear H
 go_enter Tryz.func152,Tryz.ntmps152
 go_wp2
 go_loopg [9] k (fun kq v9 w'=>∃(x9_1:Int),v9= .int .i64 x9_1∧Aside0 (dw.l0 kq l0 l1 l0 (l0.length:Int) x9_1=some r)∧Aside0 (kq≤k)∧aA w w')
 case atStart=>exact⟨(0),(by first | rfl | (simp;done) | (simp [*];done)),H',⟨Nat.le_refl _⟩,by repeat (first | exact aA.refl _ | apply aA.step)⟩
 case round=>
  clear H'
  try clear c1
  try clear p2
  obtain⟨x9_1,rfl,HA,jZ,⟨m1,rfl⟩⟩:=hrel
  cases gk with
  | zero=>exact absurd HA.out (by simp [dw.l0])
  | succ k1=>
    have H:=HA.out
    clear HA
    simp only [dw.l0] at H
    by_cases c3:x9_1<(l0.length:Int)
    ·rw [if_pos c3] at H
     have yM:decide (x9_1<(l0.length:Int))=true:=decide_eq_true c3
     clear c3
     by_cases c4:0≤x9_1
     ·rw [if_pos c4] at H
      have jM:decide (0≤x9_1)=true:=decide_eq_true c4
      clear c4
      by_cases c5:x9_1<(l0.length:Int)
      ·rw [if_pos c5] at H
       have sU:decide (x9_1<(l0.length:Int))=true:=decide_eq_true c5
       clear c5
       by_cases c6:(aT ByteArray.empty l0 x9_1).toList=([35]:List UInt8)
       ·rw [if_pos c6] at H
        have sW:((aT ByteArray.empty l0 x9_1).toList==([35]:List UInt8))=true:=beq_iff_eq.mpr c6
        have Ql:((aT ByteArray.empty l0 x9_1).toList !=([35]:List UInt8))=false:=bne_eq_false_iff_eq.mpr c6
        clear c6
        obtain rfl:=Option.some.inj H
        have uP:0≤(x9_1:Int):=of_decide_eq_true (by first | (with_reducible assumption) | assumption)
        have uQ:x9_1<(l0.length:Int):=of_decide_eq_true (by first | (with_reducible assumption) | assumption)
        obtain⟨aak,Qm,La⟩:=Kd.aV HR0.out x9_1 uP uQ
        cases Qm
        replace uP:=eq_true uP
        replace uQ:=eq_true uQ
        go_wp2
        go_ret
        exact⟨by first | rfl | (simp;done) | (simp [*];done),by repeat (first | exact aA.refl _ | apply aA.step)⟩
       ·rw [if_neg c6] at H
        have sW:((aT ByteArray.empty l0 x9_1).toList==([35]:List UInt8))=false:=beq_eq_false_iff_ne.mpr c6
        have Ql:((aT ByteArray.empty l0 x9_1).toList !=([35]:List UInt8))=true:=bne_iff_ne.mpr c6
        by_cases c7:x9_1=(l1.length:Int)
        ·rw [if_pos c7] at H
         have sV:(x9_1==(l1.length:Int))=true:=beq_iff_eq.mpr c7
         have G5:(x9_1 !=(l1.length:Int))=false:=bne_eq_false_iff_eq.mpr c7
         clear c7
         obtain rfl:=Option.some.inj H
         have uP:0≤(x9_1:Int):=of_decide_eq_true (by first | (with_reducible assumption) | assumption)
         have uQ:x9_1<(l0.length:Int):=of_decide_eq_true (by first | (with_reducible assumption) | assumption)
         obtain⟨aak,Qm,La⟩:=Kd.aV HR0.out x9_1 uP uQ
         cases Qm
         replace uP:=eq_true uP
         replace uQ:=eq_true uQ
         go_wp2
         go_ret
         exact⟨by first | rfl | (simp;done) | (simp [*];done),by repeat (first | exact aA.refl _ | apply aA.step)⟩
        ·rw [if_neg c7] at H
         have sV:(x9_1==(l1.length:Int))=false:=beq_eq_false_iff_ne.mpr c7
         have G5:(x9_1 !=(l1.length:Int))=true:=bne_iff_ne.mpr c7
         have HC8:=Aside0.mk H
         clear H
         have uP:0≤(x9_1:Int):=of_decide_eq_true (by first | (with_reducible assumption) | assumption)
         have uQ:x9_1<(l0.length:Int):=of_decide_eq_true (by first | (with_reducible assumption) | assumption)
         obtain⟨aak,Qm,La⟩:=Kd.aV HR0.out x9_1 uP uQ
         cases Qm
         replace uP:=eq_true uP
         replace uQ:=eq_true uQ
         go_upto_region 8 with (fail)
         go_cut [22] (fun v22 wc=>∃(kq:Nat) (x22_7:Bool),v22= .bool x22_7∧Aside0 (dw.j1 kq l0 l1 x9_1 (aT ByteArray.empty l0 x9_1) l0 (l0.length:Int) x9_1 x22_7=some r)∧Aside0 (kq≤k1)∧aA w wc)
         case first=>
          have H:=HC8.out
          clear HC8
          by_cases c9:(aT ByteArray.empty l0 x9_1).toList=([43]:List UInt8)
          ·rw [if_pos c9] at H
           have Ea:((aT ByteArray.empty l0 x9_1).toList==([43]:List UInt8))=true:=beq_iff_eq.mpr c9
           have Vh:((aT ByteArray.empty l0 x9_1).toList !=([43]:List UInt8))=false:=bne_eq_false_iff_eq.mpr c9
           clear c9
           (first | rw [Ea] | (simp only [uT,xK];rw [Ea]) | skip)
           by_cases c10:x9_1<(l1.length:Int)
           ·rw [if_pos c10] at H
            have aal:decide (x9_1<(l1.length:Int))=true:=decide_eq_true c10
            clear c10
            have H':=Aside0.mk H
            clear H
            have Vj:0≤(x9_1:Int):=of_decide_eq_true (by first | (with_reducible assumption) | assumption)
            have Vk:x9_1<(l1.length:Int):=of_decide_eq_true (by first | (with_reducible assumption) | assumption)
            obtain⟨afo,aeW,abe⟩:=Kd.aV HR1.out x9_1 Vj Vk
            cases aeW
            replace Vj:=eq_true Vj
            replace Vk:=eq_true Vk
            go_wp2
            go_meet
            case rel=>exact⟨_,(((aT ByteArray.empty l1 x9_1).toList==([35]:List UInt8))),(by first | rfl | (simp;done) | (simp [*];done)),H',⟨by have:=jZ.out;first | omega | exact Nat.le_refl _⟩,by repeat (first | exact aA.refl _ | apply aA.step)⟩
           ·rw [if_neg c10] at H
            exact absurd H (by simp)
          ·rw [if_neg c9] at H
           have Ea:((aT ByteArray.empty l0 x9_1).toList==([43]:List UInt8))=false:=beq_eq_false_iff_ne.mpr c9
           have Vh:((aT ByteArray.empty l0 x9_1).toList !=([43]:List UInt8))=true:=bne_iff_ne.mpr c9
           (first | rw [Ea] | (simp only [uT,xK];rw [Ea]) | skip)
           have H':=Aside0.mk H
           clear H
           go_wp2
           go_meet
           case rel=>exact⟨_,(false),(by first | rfl | (simp;done) | (simp [*];done)),H',⟨by have:=jZ.out;first | omega | exact Nat.le_refl _⟩,by repeat (first | exact aA.refl _ | apply aA.step)⟩
         case rest=>
          clear HC8
          try clear c1
          try clear p1
          try clear q1
          try clear hx1
          try clear p2
          try clear c3
          try clear yM
          try clear c4
          try clear jM
          try clear c5
          try clear sU
          try clear c6
          try clear sW
          try clear Ql
          try clear c7
          try clear sV
          try clear G5
          try clear c9
          try clear Ea
          try clear Vh
          try clear c10
          try clear aal
          try clear La
          try clear abe
          try clear uP
          try clear Vj
          try clear p2
          try clear uQ
          try clear Vk
          obtain⟨kq,x22_7,rfl,HA,HJ7,⟨mc7,rfl⟩⟩:=hcut
          cases kq with
          | zero=>exact absurd HA.out (by simp [dw.j1])
          | succ kj7=>
            have H:=HA.out
            clear HA
            simp only [dw.j1] at H
            by_cases c11:x22_7=true
            ·subst c11
             have H1:(some false)=some r:=by rw [if_pos rfl] at H;exact H
             clear H
             have H:=H1
             clear H1
             obtain rfl:=Option.some.inj H
             go_wp2
             go_ret
             exact⟨by first | rfl | (simp;done) | (simp [*];done),by repeat (first | exact aA.refl _ | apply aA.step)⟩
            ·replace c11:=Bool.eq_false_iff.mpr c11
             subst c11
             have H1:(if (aT ByteArray.empty l0 x9_1).toList=([43]:List UInt8) then (dw.l0 kj7 l0 l1 l0 (l0.length:Int) (wrap64 (x9_1+1))) else (if 0≤x9_1 then (if x9_1<(l1.length:Int) then (if (aT ByteArray.empty l0 x9_1).toList=(aT ByteArray.empty l1 x9_1).toList then (dw.l0 kj7 l0 l1 l0 (l0.length:Int) (wrap64 (x9_1+1))) else (some false)) else (none)) else (none)))=some r:=by rw [if_neg (show ¬(false=true) by decide)] at H;exact H
             clear H
             have H:=H1
             clear H1
             by_cases c12:(aT ByteArray.empty l0 x9_1).toList=([43]:List UInt8)
             ·rw [if_pos c12] at H
              have NP:((aT ByteArray.empty l0 x9_1).toList==([43]:List UInt8))=true:=beq_iff_eq.mpr c12
              have adN:((aT ByteArray.empty l0 x9_1).toList !=([43]:List UInt8))=false:=bne_eq_false_iff_eq.mpr c12
              clear c12
              have H':=Aside0.mk H
              clear H
              go_wp2
              go_roundg kj7
              case measure=>have:=jZ.out;have:=HJ7.out;omega
              case rel=>exact⟨(wrap64 (x9_1+1)),(by first | rfl | (simp;done) | (simp [*];done)),H',⟨by have:=jZ.out;have:=HJ7.out;omega⟩,by repeat (first | exact aA.refl _ | apply aA.step)⟩
             ·rw [if_neg c12] at H
              have NP:((aT ByteArray.empty l0 x9_1).toList==([43]:List UInt8))=false:=beq_eq_false_iff_ne.mpr c12
              have adN:((aT ByteArray.empty l0 x9_1).toList !=([43]:List UInt8))=true:=bne_iff_ne.mpr c12
              by_cases c13:0≤x9_1
              ·rw [if_pos c13] at H
               have afp:decide (0≤x9_1)=true:=decide_eq_true c13
               clear c13
               by_cases c14:x9_1<(l1.length:Int)
               ·rw [if_pos c14] at H
                have o8:decide (x9_1<(l1.length:Int))=true:=decide_eq_true c14
                clear c14
                by_cases c15:(aT ByteArray.empty l0 x9_1).toList=(aT ByteArray.empty l1 x9_1).toList
                ·rw [if_pos c15] at H
                 have aai:((aT ByteArray.empty l0 x9_1).toList==(aT ByteArray.empty l1 x9_1).toList)=true:=beq_iff_eq.mpr c15
                 have aaj:((aT ByteArray.empty l0 x9_1).toList !=(aT ByteArray.empty l1 x9_1).toList)=false:=bne_eq_false_iff_eq.mpr c15
                 clear c15
                 have H':=Aside0.mk H
                 clear H
                 have G8:0≤(x9_1:Int):=of_decide_eq_true (by first | (with_reducible assumption) | assumption)
                 have G9:x9_1<(l1.length:Int):=of_decide_eq_true (by first | (with_reducible assumption) | assumption)
                 obtain⟨adO,e152,abf⟩:=Kd.aV HR1.out x9_1 G8 G9
                 cases e152
                 replace G8:=eq_true G8
                 replace G9:=eq_true G9
                 go_wp2
                 go_roundg kj7
                 case measure=>have:=jZ.out;have:=HJ7.out;omega
                 case rel=>exact⟨(wrap64 (x9_1+1)),(by first | rfl | (simp;done) | (simp [*];done)),H',⟨by have:=jZ.out;have:=HJ7.out;omega⟩,by repeat (first | exact aA.refl _ | apply aA.step)⟩
                ·rw [if_neg c15] at H
                 have aai:((aT ByteArray.empty l0 x9_1).toList==(aT ByteArray.empty l1 x9_1).toList)=false:=beq_eq_false_iff_ne.mpr c15
                 have aaj:((aT ByteArray.empty l0 x9_1).toList !=(aT ByteArray.empty l1 x9_1).toList)=true:=bne_iff_ne.mpr c15
                 obtain rfl:=Option.some.inj H
                 have G8:0≤(x9_1:Int):=of_decide_eq_true (by first | (with_reducible assumption) | assumption)
                 have G9:x9_1<(l1.length:Int):=of_decide_eq_true (by first | (with_reducible assumption) | assumption)
                 obtain⟨adO,e152,abf⟩:=Kd.aV HR1.out x9_1 G8 G9
                 cases e152
                 replace G8:=eq_true G8
                 replace G9:=eq_true G9
                 go_wp2
                 go_ret
                 exact⟨by first | rfl | (simp;done) | (simp [*];done),by repeat (first | exact aA.refl _ | apply aA.step)⟩
               ·rw [if_neg c14] at H
                exact absurd H (by simp)
              ·rw [if_neg c13] at H
               exact absurd H (by simp)
      ·rw [if_neg c5] at H
       exact absurd H (by simp)
     ·rw [if_neg c4] at H
      exact absurd H (by simp)
    ·rw [if_neg c3] at H
     have yM:decide (x9_1<(l0.length:Int))=false:=decide_eq_false c3
     clear c3
     obtain rfl:=Option.some.inj H
     go_wp2
     go_ret
     exact⟨by first | rfl | (simp;done) | (simp [*];done),by repeat (first | exact aA.refl _ | apply aA.step)⟩
def bJ.j0:Nat→ByteArray→ByteArray→Bool→Option (Bool)
 | 0,_,_,_=>none
 | k+1,x0,x1,x20=>if x20=true then (some false) else ((dG.f x0).bind fun t157=>((dG.f x1).bind fun t160=>((dw.f k t157 t160).bind fun yN=>(some yN))))
def bJ.f (k:Nat) (a0:ByteArray) (a1:ByteArray):Option (Bool):=(bY.f k a0).bind fun Lc=>(if Lc=true then ((iy.f a1).bind fun t154=>(if t154=true then ((eY.f a0).bind fun rW=>(if rW=true then ((iF.f a1).bind fun t156=>(bJ.j0 k a0 a1 t156)) else (bJ.j0 k a0 a1 false))) else (bJ.j0 k a0 a1 true))) else (bJ.j0 k a0 a1 true))
set_option maxHeartbeats 8000000 in
set_option maxRecDepth 100000 in
theorem bJ.calls (k:Nat) (a0:ByteArray) (a1:ByteArray) (r:Bool) (w:World) (hT:Tabs w) (h:bJ.f k a0 a1=some r):
  Calls Tryz.prog 80 #[.string a0, .string a1] w fun e w'=>e= .returned (.bool r)∧Below w.heap.size w w':=by
 have HT:=Aside0.mk hT
 clear hT
 have HB:=Aside0.mk (Below.refl w.heap.size w)
 have H:((bY.f k a0).bind fun Lc=>(if Lc=true then ((iy.f a1).bind fun t154=>(if t154=true then ((eY.f a0).bind fun rW=>(if rW=true then ((iF.f a1).bind fun t156=>(bJ.j0 k a0 a1 t156)) else (bJ.j0 k a0 a1 false))) else (bJ.j0 k a0 a1 true))) else (bJ.j0 k a0 a1 true)))=some r:=h
 clear h
 have Eb:=Aside0.mk H
 clear H
 go_enter Tryz.func80,Tryz.ntmps80
 go_upto_region 1 with (fail)
 go_cut [20] (fun v20 wc=>∃(kq:Nat) (x20_2:Bool),v20= .bool x20_2∧Aside0 (bJ.j0 kq a0 a1 x20_2=some r)∧Aside0 (kq≤k)∧Aside0 (Below w.heap.size w wc))
 case first=>
  have H:=Eb.out
  clear Eb
  replace H:=Option.bind_eq_some_iff.mp H
  obtain⟨Lc,Yf,H⟩:=H
  replace H:(if Lc=true then ((iy.f a1).bind fun t154=>(if t154=true then ((eY.f a0).bind fun rW=>(if rW=true then ((iF.f a1).bind fun t156=>(bJ.j0 k a0 a1 t156)) else (bJ.j0 k a0 a1 false))) else (bJ.j0 k a0 a1 true))) else (bJ.j0 k a0 a1 true))=some r:=H
  have A4:=Aside0.mk Yf
  clear Yf
  by_cases c5:Lc=true
  ·subst c5
   have H1:((iy.f a1).bind fun t154=>(if t154=true then ((eY.f a0).bind fun rW=>(if rW=true then ((iF.f a1).bind fun t156=>(bJ.j0 k a0 a1 t156)) else (bJ.j0 k a0 a1 false))) else (bJ.j0 k a0 a1 true)))=some r:=by rw [if_pos rfl] at H;exact H
   clear H
   have H:=H1
   clear H1
   replace H:=Option.bind_eq_some_iff.mp H
   obtain⟨t154,yu,H⟩:=H
   replace H:(if t154=true then ((eY.f a0).bind fun rW=>(if rW=true then ((iF.f a1).bind fun t156=>(bJ.j0 k a0 a1 t156)) else (bJ.j0 k a0 a1 false))) else (bJ.j0 k a0 a1 true))=some r:=H
   have A6:=Aside0.mk yu
   clear yu
   by_cases c7:t154=true
   ·subst c7
    have H1:((eY.f a0).bind fun rW=>(if rW=true then ((iF.f a1).bind fun t156=>(bJ.j0 k a0 a1 t156)) else (bJ.j0 k a0 a1 false)))=some r:=by rw [if_pos rfl] at H;exact H
    clear H
    have H:=H1
    clear H1
    replace H:=Option.bind_eq_some_iff.mp H
    obtain⟨rW,MS,H⟩:=H
    replace H:(if rW=true then ((iF.f a1).bind fun t156=>(bJ.j0 k a0 a1 t156)) else (bJ.j0 k a0 a1 false))=some r:=H
    have A8:=Aside0.mk MS
    clear MS
    by_cases c9:rW=true
    ·subst c9
     have H1:((iF.f a1).bind fun t156=>(bJ.j0 k a0 a1 t156))=some r:=by rw [if_pos rfl] at H;exact H
     clear H
     have H:=H1
     clear H1
     replace H:=Option.bind_eq_some_iff.mp H
     obtain⟨t156,D7,H⟩:=H
     replace H:(bJ.j0 k a0 a1 t156)=some r:=H
     have Yb:=Aside0.mk D7
     clear D7
     have H':=Aside0.mk H
     clear H
     go_wp2_with (first | ((with_reducible refine aQ (f:=77) rfl ?_);refine cZ (some 6) rfl rfl Tryz.func77 (by kernel_rfl) rfl #[.string a0] rfl (by(try simp only [List.map_toArray,List.map_cons,List.map_nil]);first | done | rfl | (simp only [List.length_drop,List.length_take];rfl)) ?_;(with_reducible refine(bY.calls k a0 true _ ?dW A4.out).mono ?_);(case dW=>exact Tabs.below HT.out (by repeat (first | (with_reducible first | exact HB.out | apply aj | apply ah | apply ak) | exact HB.out)));rintro e w11 ⟨rfl,hb⟩;refine⟨_,rfl,?_⟩;have bf:=Aside0.mk (aW (by repeat (first | (with_reducible first | exact HB.out | apply aj | apply ah | apply ak) | exact HB.out)) hb);clear HB;have HB:=bf;clear bf;(try clear hb);(try clear hb2);(try clear hk);(try clear hi)) | (go_at_call 149;(with_reducible refine(iy.calls a1 true _ ?dW A6.out).mono ?_);(case dW=>exact Tabs.below HT.out (by repeat (first | (with_reducible first | exact HB.out | apply aj | apply ah | apply ak) | exact HB.out)));rintro e w12 ⟨rfl,hb⟩;have bf:=Aside0.mk (aW (by repeat (first | (with_reducible first | exact HB.out | apply aj | apply ah | apply ak) | exact HB.out)) hb);clear HB;have HB:=bf;clear bf;(try clear hb);(try clear hb2);(try clear hk);(try clear hi)) | (go_at_call 150;(with_reducible refine(eY.calls a0 true _ A8.out).mono ?_);rintro e w' ⟨rfl,⟨nd,rfl⟩⟩) | (go_at_call 151;(with_reducible refine(iF.calls a1 t156 _ Yb.out).mono ?_);rintro e w' ⟨rfl,⟨nd,rfl⟩⟩))
     go_meet
     case rel=>exact⟨_,(t156),(by first | rfl | (simp;done) | (simp [*];done)),H',⟨by first | omega | exact Nat.le_refl _⟩,⟨by repeat (first | (with_reducible first | exact HB.out | apply aj | apply ah | apply ak) | exact HB.out)⟩⟩
    ·replace c9:=Bool.eq_false_iff.mpr c9
     subst c9
     have H1:(bJ.j0 k a0 a1 false)=some r:=by rw [if_neg (show ¬(false=true) by decide)] at H;exact H
     clear H
     have H:=H1
     clear H1
     have H':=Aside0.mk H
     clear H
     go_wp2_with (first | ((with_reducible refine aQ (f:=77) rfl ?_);refine cZ (some 6) rfl rfl Tryz.func77 (by kernel_rfl) rfl #[.string a0] rfl (by(try simp only [List.map_toArray,List.map_cons,List.map_nil]);first | done | rfl | (simp only [List.length_drop,List.length_take];rfl)) ?_;(with_reducible refine(bY.calls k a0 true _ ?dW A4.out).mono ?_);(case dW=>exact Tabs.below HT.out (by repeat (first | (with_reducible first | exact HB.out | apply aj | apply ah | apply ak) | exact HB.out)));rintro e w13 ⟨rfl,hb⟩;refine⟨_,rfl,?_⟩;have bf:=Aside0.mk (aW (by repeat (first | (with_reducible first | exact HB.out | apply aj | apply ah | apply ak) | exact HB.out)) hb);clear HB;have HB:=bf;clear bf;(try clear hb);(try clear hb2);(try clear hk);(try clear hi)) | (go_at_call 149;(with_reducible refine(iy.calls a1 true _ ?dW A6.out).mono ?_);(case dW=>exact Tabs.below HT.out (by repeat (first | (with_reducible first | exact HB.out | apply aj | apply ah | apply ak) | exact HB.out)));rintro e w14 ⟨rfl,hb⟩;have bf:=Aside0.mk (aW (by repeat (first | (with_reducible first | exact HB.out | apply aj | apply ah | apply ak) | exact HB.out)) hb);clear HB;have HB:=bf;clear bf;(try clear hb);(try clear hb2);(try clear hk);(try clear hi)) | (go_at_call 150;(with_reducible refine(eY.calls a0 false _ A8.out).mono ?_);rintro e w' ⟨rfl,⟨nd,rfl⟩⟩))
     go_meet
     case rel=>exact⟨_,(false),(by first | rfl | (simp;done) | (simp [*];done)),H',⟨by first | omega | exact Nat.le_refl _⟩,⟨by repeat (first | (with_reducible first | exact HB.out | apply aj | apply ah | apply ak) | exact HB.out)⟩⟩
   ·replace c7:=Bool.eq_false_iff.mpr c7
    subst c7
    have H1:(bJ.j0 k a0 a1 true)=some r:=by rw [if_neg (show ¬(false=true) by decide)] at H;exact H
    clear H
    have H:=H1
    clear H1
    have H':=Aside0.mk H
    clear H
    go_wp2_with (first | ((with_reducible refine aQ (f:=77) rfl ?_);refine cZ (some 6) rfl rfl Tryz.func77 (by kernel_rfl) rfl #[.string a0] rfl (by(try simp only [List.map_toArray,List.map_cons,List.map_nil]);first | done | rfl | (simp only [List.length_drop,List.length_take];rfl)) ?_;(with_reducible refine(bY.calls k a0 true _ ?dW A4.out).mono ?_);(case dW=>exact Tabs.below HT.out (by repeat (first | (with_reducible first | exact HB.out | apply aj | apply ah | apply ak) | exact HB.out)));rintro e w15 ⟨rfl,hb⟩;refine⟨_,rfl,?_⟩;have bf:=Aside0.mk (aW (by repeat (first | (with_reducible first | exact HB.out | apply aj | apply ah | apply ak) | exact HB.out)) hb);clear HB;have HB:=bf;clear bf;(try clear hb);(try clear hb2);(try clear hk);(try clear hi)) | (go_at_call 149;(with_reducible refine(iy.calls a1 false _ ?dW A6.out).mono ?_);(case dW=>exact Tabs.below HT.out (by repeat (first | (with_reducible first | exact HB.out | apply aj | apply ah | apply ak) | exact HB.out)));rintro e w16 ⟨rfl,hb⟩;have bf:=Aside0.mk (aW (by repeat (first | (with_reducible first | exact HB.out | apply aj | apply ah | apply ak) | exact HB.out)) hb);clear HB;have HB:=bf;clear bf;(try clear hb);(try clear hb2);(try clear hk);(try clear hi)))
    go_meet
    case rel=>exact⟨_,(true),(by first | rfl | (simp;done) | (simp [*];done)),H',⟨by first | omega | exact Nat.le_refl _⟩,⟨by repeat (first | (with_reducible first | exact HB.out | apply aj | apply ah | apply ak) | exact HB.out)⟩⟩
  ·replace c5:=Bool.eq_false_iff.mpr c5
   subst c5
   have H1:(bJ.j0 k a0 a1 true)=some r:=by rw [if_neg (show ¬(false=true) by decide)] at H;exact H
   clear H
   have H:=H1
   clear H1
   have H':=Aside0.mk H
   clear H
   go_wp2_with (first | ((with_reducible refine aQ (f:=77) rfl ?_);refine cZ (some 6) rfl rfl Tryz.func77 (by kernel_rfl) rfl #[.string a0] rfl (by(try simp only [List.map_toArray,List.map_cons,List.map_nil]);first | done | rfl | (simp only [List.length_drop,List.length_take];rfl)) ?_;(with_reducible refine(bY.calls k a0 false _ ?dW A4.out).mono ?_);(case dW=>exact Tabs.below HT.out (by repeat (first | (with_reducible first | exact HB.out | apply aj | apply ah | apply ak) | exact HB.out)));rintro e w17 ⟨rfl,hb⟩;refine⟨_,rfl,?_⟩;have bf:=Aside0.mk (aW (by repeat (first | (with_reducible first | exact HB.out | apply aj | apply ah | apply ak) | exact HB.out)) hb);clear HB;have HB:=bf;clear bf;(try clear hb);(try clear hb2);(try clear hk);(try clear hi)))
   go_meet
   case rel=>exact⟨_,(true),(by first | rfl | (simp;done) | (simp [*];done)),H',⟨by first | omega | exact Nat.le_refl _⟩,⟨by repeat (first | (with_reducible first | exact HB.out | apply aj | apply ah | apply ak) | exact HB.out)⟩⟩
 case rest=>
  clear Eb
  try clear p2
  try clear c5
  try clear c7
  try clear c8
  try clear c9
  obtain⟨kq,x20_2,rfl,HA,HJ2,HB⟩:=hcut
  cases kq with
  | zero=>exact absurd HA.out (by simp [bJ.j0])
  | succ rX=>
    have H:=HA.out
    clear HA
    simp only [bJ.j0] at H
    by_cases c18:x20_2=true
    ·subst c18
     have H1:(some false)=some r:=by rw [if_pos rfl] at H;exact H
     clear H
     have H:=H1
     clear H1
     obtain rfl:=Option.some.inj H
     go_wp2
     go_ret
     exact⟨by first | rfl | (simp [aJ,aK]<;>rfl) | (simp [*,aJ,aK]<;>rfl),by repeat (first | (with_reducible first | exact HB.out | apply aj | apply ah | apply ak) | exact HB.out)⟩
    ·replace c18:=Bool.eq_false_iff.mpr c18
     subst c18
     have H1:((dG.f a0).bind fun t157=>((dG.f a1).bind fun t160=>((dw.f rX t157 t160).bind fun yN=>(some yN))))=some r:=by rw [if_neg (show ¬(false=true) by decide)] at H;exact H
     clear H
     have H:=H1
     clear H1
     replace H:=Option.bind_eq_some_iff.mp H
     obtain⟨t157,Qn,H⟩:=H
     replace H:((dG.f a1).bind fun t160=>((dw.f rX t157 t160).bind fun yN=>(some yN)))=some r:=H
     have A19:=Aside0.mk Qn
     clear Qn
     replace H:=Option.bind_eq_some_iff.mp H
     obtain⟨t160,Qo,H⟩:=H
     replace H:((dw.f rX t157 t160).bind fun yN=>(some yN))=some r:=H
     have mD:=Aside0.mk Qo
     clear Qo
     replace H:=Option.bind_eq_some_iff.mp H
     obtain⟨yN,Qp,H⟩:=H
     replace H:(some yN)=some r:=H
     have A21:=Aside0.mk Qp
     clear Qp
     obtain rfl:=Option.some.inj H
     go_wp2_with (first | ((with_reducible refine aQ (f:=101) rfl ?_);refine cZ (some 22) rfl rfl Tryz.func101 (by kernel_rfl) rfl #[.string a0] rfl (by(try simp only [List.map_toArray,List.map_cons,List.map_nil]);first | done | rfl | (simp only [List.length_drop,List.length_take];rfl)) ?_;(with_reducible refine(dG.calls a0 t157 _ ?dW A19.out).mono ?_);(case dW=>exact Tabs.below HT.out (by repeat (first | (with_reducible first | exact HB.out | apply aj | apply ah | apply ak) | exact HB.out)));rintro e w22 ⟨afC,rfl,ho0,hb⟩;refine⟨_,rfl,?_⟩;have bf:=Aside0.mk (Kd.lV ho0 (jg (by repeat (first | (with_reducible first | exact HB.out | apply aj | apply ah | apply ak) | exact HB.out))));have gy:=Aside0.mk (aW (by repeat (first | (with_reducible first | exact HB.out | apply aj | apply ah | apply ak) | exact HB.out)) hb);clear HB;have Bc:=bf;have HB:=gy;clear bf gy;(try clear hb);(try clear hb2);(try clear hk);(try clear hi);(try clear ho0)) | ((with_reducible refine aQ (f:=101) rfl ?_);refine cZ (some 24) rfl rfl Tryz.func101 (by kernel_rfl) rfl #[.string a1] rfl (by(try simp only [List.map_toArray,List.map_cons,List.map_nil]);first | done | rfl | (simp only [List.length_drop,List.length_take];rfl)) ?_;(with_reducible refine(dG.calls a1 t160 _ ?dW mD.out).mono ?_);(case dW=>exact Tabs.below HT.out (by repeat (first | (with_reducible first | exact HB.out | apply aj | apply ah | apply ak) | exact HB.out)));rintro e w23 ⟨afD,rfl,ho0,hb⟩;refine⟨_,rfl,?_⟩;have bf:=Aside0.mk (Kd.N8 (by(with_reducible repeat (first | apply Kd.dK | apply Kd.dL | apply Kd.dZ));exact Bc.out) (Kd.VN ho0) hb);have gy:=Aside0.mk (Kd.lV (Kd.VQ ho0 (Kd.abu (by(with_reducible repeat (first | apply Kd.dK | apply Kd.dL | apply Kd.dZ));exact Bc.out))) (jg (by repeat (first | (with_reducible first | exact HB.out | apply aj | apply ah | apply ak) | exact HB.out))));have qQ:=Aside0.mk (aW (by repeat (first | (with_reducible first | exact HB.out | apply aj | apply ah | apply ak) | exact HB.out)) hb);clear Bc;clear HB;have Bc:=bf;have Vl:=gy;have HB:=qQ;clear bf gy qQ;(try clear hb);(try clear hb2);(try clear hk);(try clear hi);(try clear ho0);obtain⟨Vm,Vo,Qq⟩:=Kd.iW Bc.out;subst Qq;obtain⟨Vp,Vq,Qr⟩:=Kd.iW Vl.out;subst Qr) | ((with_reducible refine aQ (f:=152) rfl ?_);refine cZ (some 25) rfl rfl Tryz.func152 (by kernel_rfl) rfl #[.slice Vm t157.length Vo, .slice Vp t160.length Vq] rfl (by(try simp only [List.map_toArray,List.map_cons,List.map_nil]);first | done | rfl | (simp only [List.length_drop,List.length_take];rfl)) ?_;(with_reducible refine(dw.calls rX _ _ t157 _ _ t160 yN _ ?dW ?JE ?Vr ?Vs A21.out).mono ?_);(case dW=>repeat (first | exact(Kd.cO Bc.out).2.2 | (with_reducible refine Kd.yS ?_ _) | (with_reducible refine Kd.vO ?_ _) | (with_reducible refine Kd.BX ?_)));(case JE=>exact(Kd.cO Bc.out).2.1);(case Vr=>repeat (first | exact(Kd.cO Vl.out).2.2 | (with_reducible refine Kd.yS ?_ _) | (with_reducible refine Kd.vO ?_ _) | (with_reducible refine Kd.BX ?_)));(case Vs=>exact(Kd.cO Vl.out).2.1);rintro e w' ⟨rfl,⟨nd,rfl⟩⟩;refine⟨_,rfl,?_⟩))
     go_ret
     exact⟨by first | rfl | (simp [aJ,aK]<;>rfl) | (simp [*,aJ,aK]<;>rfl),by repeat (first | (with_reducible first | exact HB.out | apply aj | apply ah | apply ak) | exact HB.out)⟩
def iD.f (a0:ByteArray):Option (Bool):=if a0.toList=([]:List UInt8) then (some false) else (if 0<(a0.size:Int) then (if (bt a0 0)=43 then (some true) else (some ((bt a0 0)==35))) else (none))
set_option maxHeartbeats 8000000 in
set_option maxRecDepth 100000 in
theorem iD.calls (a0:ByteArray) (r:Bool) (w:World) (h:iD.f a0=some r):
  Calls Tryz.prog 182 #[.string a0] w fun e w'=>e= .returned (.bool r)∧aA w w':=by
 have H:(if a0.toList=([]:List UInt8) then (some false) else (if 0<(a0.size:Int) then (if (bt a0 0)=43 then (some true) else (some ((bt a0 0)==35))) else (none)))=some r:=h
 clear h
 by_cases c2:a0.toList=([]:List UInt8)
 ·rw [if_pos c2] at H
  have Vt:(a0.toList==([]:List UInt8))=true:=beq_iff_eq.mpr c2
  have Vu:(a0.toList !=([]:List UInt8))=false:=bne_eq_false_iff_eq.mpr c2
  clear c2
  obtain rfl:=Option.some.inj H
  go_enter Tryz.func182,Tryz.ntmps182
  go_wp2
  go_ret
  exact⟨by first | rfl | (simp;done) | (simp [*];done),by repeat (first | exact aA.refl _ | apply aA.step)⟩
 ·rw [if_neg c2] at H
  have Vt:(a0.toList==([]:List UInt8))=false:=beq_eq_false_iff_ne.mpr c2
  have Vu:(a0.toList !=([]:List UInt8))=true:=bne_iff_ne.mpr c2
  by_cases c3:0<(a0.size:Int)
  ·rw [if_pos c3] at H
   have yM:decide (0<(a0.size:Int))=true:=decide_eq_true c3
   have ZB:decide (0<a0.size)=true:=decide_eq_true (by omega)
   clear c3
   by_cases c5:(bt a0 0)=43
   ·rw [if_pos c5] at H
    have sU:((bt a0 0)==43)=true:=beq_iff_eq.mpr c5
    have D8:((bt a0 0) !=43)=false:=bne_eq_false_iff_eq.mpr c5
    clear c5
    obtain rfl:=Option.some.inj H
    have p4:0≤(0:Int):=(by omega)
    have q4:0<a0.size:=(by have:(0:Int)<(a0.size:Int):=of_decide_eq_true (by first | (with_reducible assumption) | assumption);omega)
    have hx4:∀h:0<a0.size,((a0[0]'h).toNat:Int)=bt a0 0:=pV a0 0
    clear p4
    have qi4:(0<(a0.size:Int))=True:=eq_true (of_decide_eq_true (by first | (with_reducible assumption) | assumption))
    replace q4:=eq_true q4
    go_enter Tryz.func182,Tryz.ntmps182
    go_wp2
    go_ret
    exact⟨by first | rfl | (simp;done) | (simp [*];done),by repeat (first | exact aA.refl _ | apply aA.step)⟩
   ·rw [if_neg c5] at H
    have sU:((bt a0 0)==43)=false:=beq_eq_false_iff_ne.mpr c5
    have D8:((bt a0 0) !=43)=true:=bne_iff_ne.mpr c5
    obtain rfl:=Option.some.inj H
    have p4:0≤(0:Int):=(by omega)
    have q4:0<a0.size:=(by have:(0:Int)<(a0.size:Int):=of_decide_eq_true (by first | (with_reducible assumption) | assumption);omega)
    have hx4:∀h:0<a0.size,((a0[0]'h).toNat:Int)=bt a0 0:=pV a0 0
    clear p4
    have qi4:(0<(a0.size:Int))=True:=eq_true (of_decide_eq_true (by first | (with_reducible assumption) | assumption))
    replace q4:=eq_true q4
    have p6:0≤(0:Int):=(by omega)
    have q6:0<a0.size:=(by have:(0:Int)<(a0.size:Int):=of_decide_eq_true (by first | (with_reducible assumption) | assumption);omega)
    have hx6:∀h:0<a0.size,((a0[0]'h).toNat:Int)=bt a0 0:=pV a0 0
    clear p6
    have qi6:(0<(a0.size:Int))=True:=eq_true (of_decide_eq_true (by first | (with_reducible assumption) | assumption))
    replace q6:=eq_true q6
    go_enter Tryz.func182,Tryz.ntmps182
    go_wp2
    go_ret
    exact⟨by first | rfl | (simp;done) | (simp [*];done),by repeat (first | exact aA.refl _ | apply aA.step)⟩
  ·rw [if_neg c3] at H
   exact absurd H (by simp)
end Go.Proofs.YtcnfgfomholheaaGreatDoor.P
