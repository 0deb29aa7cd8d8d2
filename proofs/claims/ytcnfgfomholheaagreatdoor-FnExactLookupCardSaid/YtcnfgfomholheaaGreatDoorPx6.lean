import Derived.Test.YtcnfgfomholheaaGreatDoorPx0
import Derived.Test.YtcnfgfomholheaaGreatDoorPx1
import Derived.Test.YtcnfgfomholheaaGreatDoorPx2
import Derived.Test.YtcnfgfomholheaaGreatDoorPx5
namespace Go.Proofs.YtcnfgfomholheaaGreatDoor.P
open Go.RowKit Go.Proofs.YtcnfgfomholheaaGreatDoor.X Go.Proofs.YtcnfgfomholheaaGreatDoorW.PrintWords Go.Proofs.YtcnfgfomholheaaGreatDoorW.PrintLast Go.Proofs.YtcnfgfomholheaaGreatDoorW.PrintMore
attribute [local go_sem] lU lV oC oD kF kG lW lX
set_option linter.unusedVariables false
set_option linter.unusedSimpArgs false
def strings_HasPrefix.f (a0:ByteArray) (a1:ByteArray):Option (Bool):=(stringslite_HasPrefix.f a0 a1).bind fun t148=>(some t148)
set_option maxHeartbeats 8000000 in
set_option maxRecDepth 100000 in
theorem strings_HasPrefix.calls (a0:ByteArray) (a1:ByteArray) (r:Bool) (w:World) (h:strings_HasPrefix.f a0 a1=some r):
  Calls Tryz.prog 195 #[.string a0, .string a1] w fun e w'=>e= .returned (.bool r)∧ay w w':=by
 have H:((stringslite_HasPrefix.f a0 a1).bind fun t148=>(some t148))=some r:=h
 clear h
 replace H:=Option.bind_eq_some_iff.mp H
 obtain⟨t148,X9,H⟩:=H
 replace H:(some t148)=some r:=H
 have A3:=Aside0.mk X9
 clear X9
 obtain rfl:=Option.some.inj H
 go_enter Tryz.func195,Tryz.ntmps195
 go_wp2_with (first | ((with_reducible refine aH (f:=219) rfl ?_);refine bW (some 7) rfl rfl Tryz.func219 (by kernel_rfl) rfl #[.string a0, .string a1] rfl (by(try simp only [List.map_toArray,List.map_cons,List.map_nil]);first | done | rfl | (simp only [List.length_drop,List.length_take];rfl)) ?_;(with_reducible refine(stringslite_HasPrefix.calls a0 a1 t148 _ A3.out).mono ?_);rintro e w' ⟨rfl,⟨nd,rfl⟩⟩;refine⟨_,rfl,?_⟩))
 go_ret
 exact⟨by first | rfl | (simp;done) | (simp [*];done),by repeat (first | exact ay.refl _ | apply ay.step)⟩
def gU.f (a0:ByteArray):Option (Bool):=(strings_HasPrefix.f a0 (⟨#[36]⟩:ByteArray)).bind fun Kv=>(some Kv)
set_option maxHeartbeats 8000000 in
set_option maxRecDepth 100000 in
theorem gU.calls (a0:ByteArray) (r:Bool) (w:World) (h:gU.f a0=some r):
  Calls Tryz.prog 151 #[.string a0] w fun e w'=>e= .returned (.bool r)∧ay w w':=by
 have H:((strings_HasPrefix.f a0 (⟨#[36]⟩:ByteArray)).bind fun Kv=>(some Kv))=some r:=h
 clear h
 replace H:=Option.bind_eq_some_iff.mp H
 obtain⟨Kv,lK,H⟩:=H
 replace H:(some Kv)=some r:=H
 have A2:=Aside0.mk lK
 clear lK
 obtain rfl:=Option.some.inj H
 go_enter Tryz.func151,Tryz.ntmps151
 go_wp2_with (first | ((with_reducible refine aH (f:=195) rfl ?_);refine bW (some 4) rfl rfl Tryz.func195 (by kernel_rfl) rfl #[.string a0, .string (⟨#[36]⟩:ByteArray)] rfl (by(try simp only [List.map_toArray,List.map_cons,List.map_nil]);first | done | rfl | (simp only [List.length_drop,List.length_take];rfl)) ?_;(with_reducible refine(strings_HasPrefix.calls a0 (⟨#[36]⟩:ByteArray) Kv _ A2.out).mono ?_);rintro e w' ⟨rfl,⟨nd,rfl⟩⟩;refine⟨_,rfl,?_⟩))
 go_ret
 exact⟨by first | rfl | (simp;done) | (simp [*];done),by repeat (first | exact ay.refl _ | apply ay.step)⟩
mutual
def dh.l0:Nat→List ByteArray→List ByteArray→List ByteArray→Int→Int→Option (Bool)
 | 0,_,_,_,_,_=>none
 | k+1,x0,x1,x7,x8,x9=>if x9<x8 then (if 0≤x9 then (if x9<(x7.length:Int) then (if (aK ByteArray.empty x7 x9).toList=([35]:List UInt8) then (some true) else (if x9=(x1.length:Int) then (some false) else (if (aK ByteArray.empty x7 x9).toList=([43]:List UInt8) then (if x9<(x1.length:Int) then (dh.j1 k x0 x1 x9 (aK ByteArray.empty x7 x9) x7 x8 x9 ((aK ByteArray.empty x1 x9).toList==([35]:List UInt8))) else (none)) else (dh.j1 k x0 x1 x9 (aK ByteArray.empty x7 x9) x7 x8 x9 false)))) else (none)) else (none)) else (some ((x0.length:Int)==(x1.length:Int)))
def dh.j1:Nat→List ByteArray→List ByteArray→Int→ByteArray→List ByteArray→Int→Int→Bool→Option (Bool)
 | 0,_,_,_,_,_,_,_,_=>none
 | k+1,x0,x1,x5,x6,x7,x8,x9,x22=>if x22=true then (some false) else (if x6.toList=([43]:List UInt8) then (dh.l0 k x0 x1 x7 x8 (wrap64 (x9+1))) else (if 0≤x5 then (if x5<(x1.length:Int) then (if x6.toList=(aK ByteArray.empty x1 x5).toList then (dh.l0 k x0 x1 x7 x8 (wrap64 (x9+1))) else (some false)) else (none)) else (none)))
end
def dh.f (k:Nat) (l0:List ByteArray) (l1:List ByteArray):Option (Bool):=dh.l0 k l0 l1 l0 (l0.length:Int) 0
set_option maxHeartbeats 8000000 in
set_option maxRecDepth 100000 in
theorem dh.calls (k:Nat) (A0:Option Addr) (c0:Nat) (l0:List ByteArray) (A1:Option Addr) (c1:Nat) (l1:List ByteArray) (r:Bool) (w:World) (hr0:Kd.C Kd.string w A0 l0.length l0) (hc0:l0.length≤c0) (hr1:Kd.C Kd.string w A1 l1.length l1) (hc1:l1.length≤c1) (h:dh.f k l0 l1=some r):
  Calls Tryz.prog 152 #[.slice A0 l0.length c0, .slice A1 l1.length c1] w fun e w'=>e= .returned (.bool r)∧ay w w':=by
 have HR0:=Aside0.mk hr0
 have HC0:=Aside0.mk hc0
 clear hr0 hc0
 have HR1:=Aside0.mk hr1
 have HC1:=Aside0.mk hc1
 clear hr1 hc1
 have H:(dh.l0 k l0 l1 l0 (l0.length:Int) 0)=some r:=h
 clear h
 have H':=Aside0.mk H
 clear H
 go_enter Tryz.func152,Tryz.ntmps152
 go_wp2
 go_loopg [9] k (fun kq v9 w'=>∃(x9_1:Int),v9= .int .i64 x9_1∧Aside0 (dh.l0 kq l0 l1 l0 (l0.length:Int) x9_1=some r)∧Aside0 (kq≤k)∧ay w w')
 case atStart=>exact⟨(0),(by first | rfl | (simp;done) | (simp [*];done)),H',⟨Nat.le_refl _⟩,by repeat (first | exact ay.refl _ | apply ay.step)⟩
 case round=>
  clear H'
  try clear c1
  try clear p2
  obtain⟨x9_1,rfl,HA,jM,⟨m1,rfl⟩⟩:=hrel
  cases gk with
  | zero=>exact absurd HA.out (by simp [dh.l0])
  | succ k1=>
    have H:=HA.out
    clear HA
    simp only [dh.l0] at H
    by_cases c3:x9_1<(l0.length:Int)
    ·rw [if_pos c3] at H
     have xP:decide (x9_1<(l0.length:Int))=true:=decide_eq_true c3
     clear c3
     by_cases c4:0≤x9_1
     ·rw [if_pos c4] at H
      have jD:decide (0≤x9_1)=true:=decide_eq_true c4
      clear c4
      by_cases c5:x9_1<(l0.length:Int)
      ·rw [if_pos c5] at H
       have rV:decide (x9_1<(l0.length:Int))=true:=decide_eq_true c5
       clear c5
       by_cases c6:(aK ByteArray.empty l0 x9_1).toList=([35]:List UInt8)
       ·rw [if_pos c6] at H
        have rX:((aK ByteArray.empty l0 x9_1).toList==([35]:List UInt8))=true:=beq_iff_eq.mpr c6
        have P7:((aK ByteArray.empty l0 x9_1).toList !=([35]:List UInt8))=false:=bne_eq_false_iff_eq.mpr c6
        clear c6
        obtain rfl:=Option.some.inj H
        have tY:0≤(x9_1:Int):=of_decide_eq_true (by first | (with_reducible assumption) | assumption)
        have tZ:x9_1<(l0.length:Int):=of_decide_eq_true (by first | (with_reducible assumption) | assumption)
        obtain⟨aai,P8,Kw⟩:=Kd.aQ HR0.out x9_1 tY tZ
        cases P8
        replace tY:=eq_true tY
        replace tZ:=eq_true tZ
        go_wp2
        go_ret
        exact⟨by first | rfl | (simp;done) | (simp [*];done),by repeat (first | exact ay.refl _ | apply ay.step)⟩
       ·rw [if_neg c6] at H
        have rX:((aK ByteArray.empty l0 x9_1).toList==([35]:List UInt8))=false:=beq_eq_false_iff_ne.mpr c6
        have P7:((aK ByteArray.empty l0 x9_1).toList !=([35]:List UInt8))=true:=bne_iff_ne.mpr c6
        by_cases c7:x9_1=(l1.length:Int)
        ·rw [if_pos c7] at H
         have rW:(x9_1==(l1.length:Int))=true:=beq_iff_eq.mpr c7
         have Gl:(x9_1 !=(l1.length:Int))=false:=bne_eq_false_iff_eq.mpr c7
         clear c7
         obtain rfl:=Option.some.inj H
         have tY:0≤(x9_1:Int):=of_decide_eq_true (by first | (with_reducible assumption) | assumption)
         have tZ:x9_1<(l0.length:Int):=of_decide_eq_true (by first | (with_reducible assumption) | assumption)
         obtain⟨aai,P8,Kw⟩:=Kd.aQ HR0.out x9_1 tY tZ
         cases P8
         replace tY:=eq_true tY
         replace tZ:=eq_true tZ
         go_wp2
         go_ret
         exact⟨by first | rfl | (simp;done) | (simp [*];done),by repeat (first | exact ay.refl _ | apply ay.step)⟩
        ·rw [if_neg c7] at H
         have rW:(x9_1==(l1.length:Int))=false:=beq_eq_false_iff_ne.mpr c7
         have Gl:(x9_1 !=(l1.length:Int))=true:=bne_iff_ne.mpr c7
         have HC8:=Aside0.mk H
         clear H
         have tY:0≤(x9_1:Int):=of_decide_eq_true (by first | (with_reducible assumption) | assumption)
         have tZ:x9_1<(l0.length:Int):=of_decide_eq_true (by first | (with_reducible assumption) | assumption)
         obtain⟨aai,P8,Kw⟩:=Kd.aQ HR0.out x9_1 tY tZ
         cases P8
         replace tY:=eq_true tY
         replace tZ:=eq_true tZ
         go_upto_region 8 with (fail)
         go_cut [22] (fun v22 wc=>∃(kq:Nat) (x22_7:Bool),v22= .bool x22_7∧Aside0 (dh.j1 kq l0 l1 x9_1 (aK ByteArray.empty l0 x9_1) l0 (l0.length:Int) x9_1 x22_7=some r)∧Aside0 (kq≤k1)∧ay w wc)
         case first=>
          have H:=HC8.out
          clear HC8
          by_cases c9:(aK ByteArray.empty l0 x9_1).toList=([43]:List UInt8)
          ·rw [if_pos c9] at H
           have Dk:((aK ByteArray.empty l0 x9_1).toList==([43]:List UInt8))=true:=beq_iff_eq.mpr c9
           have Vf:((aK ByteArray.empty l0 x9_1).toList !=([43]:List UInt8))=false:=bne_eq_false_iff_eq.mpr c9
           clear c9
           (first | rw [Dk] | (simp only [uh,wF];rw [Dk]) | skip)
           by_cases c10:x9_1<(l1.length:Int)
           ·rw [if_pos c10] at H
            have aaj:decide (x9_1<(l1.length:Int))=true:=decide_eq_true c10
            clear c10
            have H':=Aside0.mk H
            clear H
            have Vg:0≤(x9_1:Int):=of_decide_eq_true (by first | (with_reducible assumption) | assumption)
            have Vh:x9_1<(l1.length:Int):=of_decide_eq_true (by first | (with_reducible assumption) | assumption)
            obtain⟨ae7,aeE,aa4⟩:=Kd.aQ HR1.out x9_1 Vg Vh
            cases aeE
            replace Vg:=eq_true Vg
            replace Vh:=eq_true Vh
            go_wp2
            go_meet
            case rel=>exact⟨_,(((aK ByteArray.empty l1 x9_1).toList==([35]:List UInt8))),(by first | rfl | (simp;done) | (simp [*];done)),H',⟨by have:=jM.out;first | omega | exact Nat.le_refl _⟩,by repeat (first | exact ay.refl _ | apply ay.step)⟩
           ·rw [if_neg c10] at H
            exact absurd H (by simp)
          ·rw [if_neg c9] at H
           have Dk:((aK ByteArray.empty l0 x9_1).toList==([43]:List UInt8))=false:=beq_eq_false_iff_ne.mpr c9
           have Vf:((aK ByteArray.empty l0 x9_1).toList !=([43]:List UInt8))=true:=bne_iff_ne.mpr c9
           (first | rw [Dk] | (simp only [uh,wF];rw [Dk]) | skip)
           have H':=Aside0.mk H
           clear H
           go_wp2
           go_meet
           case rel=>exact⟨_,(false),(by first | rfl | (simp;done) | (simp [*];done)),H',⟨by have:=jM.out;first | omega | exact Nat.le_refl _⟩,by repeat (first | exact ay.refl _ | apply ay.step)⟩
         case rest=>
          clear HC8
          try clear c1
          try clear p1
          try clear q1
          try clear hx1
          try clear p2
          try clear c3
          try clear xP
          try clear c4
          try clear jD
          try clear c5
          try clear rV
          try clear c6
          try clear rX
          try clear P7
          try clear c7
          try clear rW
          try clear Gl
          try clear c9
          try clear Dk
          try clear Vf
          try clear c10
          try clear aaj
          try clear Kw
          try clear aa4
          try clear tY
          try clear Vg
          try clear p2
          try clear tZ
          try clear Vh
          obtain⟨kq,x22_7,rfl,HA,HJ7,⟨mc7,rfl⟩⟩:=hcut
          cases kq with
          | zero=>exact absurd HA.out (by simp [dh.j1])
          | succ kj7=>
            have H:=HA.out
            clear HA
            simp only [dh.j1] at H
            by_cases c11:x22_7=true
            ·subst c11
             have H1:(some false)=some r:=by rw [if_pos rfl] at H;exact H
             clear H
             have H:=H1
             clear H1
             obtain rfl:=Option.some.inj H
             go_wp2
             go_ret
             exact⟨by first | rfl | (simp;done) | (simp [*];done),by repeat (first | exact ay.refl _ | apply ay.step)⟩
            ·replace c11:=Bool.eq_false_iff.mpr c11
             subst c11
             have H1:(if (aK ByteArray.empty l0 x9_1).toList=([43]:List UInt8) then (dh.l0 kj7 l0 l1 l0 (l0.length:Int) (wrap64 (x9_1+1))) else (if 0≤x9_1 then (if x9_1<(l1.length:Int) then (if (aK ByteArray.empty l0 x9_1).toList=(aK ByteArray.empty l1 x9_1).toList then (dh.l0 kj7 l0 l1 l0 (l0.length:Int) (wrap64 (x9_1+1))) else (some false)) else (none)) else (none)))=some r:=by rw [if_neg (show ¬(false=true) by decide)] at H;exact H
             clear H
             have H:=H1
             clear H1
             by_cases c12:(aK ByteArray.empty l0 x9_1).toList=([43]:List UInt8)
             ·rw [if_pos c12] at H
              have Ny:((aK ByteArray.empty l0 x9_1).toList==([43]:List UInt8))=true:=beq_iff_eq.mpr c12
              have adE:((aK ByteArray.empty l0 x9_1).toList !=([43]:List UInt8))=false:=bne_eq_false_iff_eq.mpr c12
              clear c12
              have H':=Aside0.mk H
              clear H
              go_wp2
              go_roundg kj7
              case measure=>have:=jM.out;have:=HJ7.out;omega
              case rel=>exact⟨(wrap64 (x9_1+1)),(by first | rfl | (simp;done) | (simp [*];done)),H',⟨by have:=jM.out;have:=HJ7.out;omega⟩,by repeat (first | exact ay.refl _ | apply ay.step)⟩
             ·rw [if_neg c12] at H
              have Ny:((aK ByteArray.empty l0 x9_1).toList==([43]:List UInt8))=false:=beq_eq_false_iff_ne.mpr c12
              have adE:((aK ByteArray.empty l0 x9_1).toList !=([43]:List UInt8))=true:=bne_iff_ne.mpr c12
              by_cases c13:0≤x9_1
              ·rw [if_pos c13] at H
               have ae8:decide (0≤x9_1)=true:=decide_eq_true c13
               clear c13
               by_cases c14:x9_1<(l1.length:Int)
               ·rw [if_pos c14] at H
                have oI:decide (x9_1<(l1.length:Int))=true:=decide_eq_true c14
                clear c14
                by_cases c15:(aK ByteArray.empty l0 x9_1).toList=(aK ByteArray.empty l1 x9_1).toList
                ·rw [if_pos c15] at H
                 have aag:((aK ByteArray.empty l0 x9_1).toList==(aK ByteArray.empty l1 x9_1).toList)=true:=beq_iff_eq.mpr c15
                 have aah:((aK ByteArray.empty l0 x9_1).toList !=(aK ByteArray.empty l1 x9_1).toList)=false:=bne_eq_false_iff_eq.mpr c15
                 clear c15
                 have H':=Aside0.mk H
                 clear H
                 have Gp:0≤(x9_1:Int):=of_decide_eq_true (by first | (with_reducible assumption) | assumption)
                 have Gq:x9_1<(l1.length:Int):=of_decide_eq_true (by first | (with_reducible assumption) | assumption)
                 obtain⟨adF,e152,aa5⟩:=Kd.aQ HR1.out x9_1 Gp Gq
                 cases e152
                 replace Gp:=eq_true Gp
                 replace Gq:=eq_true Gq
                 go_wp2
                 go_roundg kj7
                 case measure=>have:=jM.out;have:=HJ7.out;omega
                 case rel=>exact⟨(wrap64 (x9_1+1)),(by first | rfl | (simp;done) | (simp [*];done)),H',⟨by have:=jM.out;have:=HJ7.out;omega⟩,by repeat (first | exact ay.refl _ | apply ay.step)⟩
                ·rw [if_neg c15] at H
                 have aag:((aK ByteArray.empty l0 x9_1).toList==(aK ByteArray.empty l1 x9_1).toList)=false:=beq_eq_false_iff_ne.mpr c15
                 have aah:((aK ByteArray.empty l0 x9_1).toList !=(aK ByteArray.empty l1 x9_1).toList)=true:=bne_iff_ne.mpr c15
                 obtain rfl:=Option.some.inj H
                 have Gp:0≤(x9_1:Int):=of_decide_eq_true (by first | (with_reducible assumption) | assumption)
                 have Gq:x9_1<(l1.length:Int):=of_decide_eq_true (by first | (with_reducible assumption) | assumption)
                 obtain⟨adF,e152,aa5⟩:=Kd.aQ HR1.out x9_1 Gp Gq
                 cases e152
                 replace Gp:=eq_true Gp
                 replace Gq:=eq_true Gq
                 go_wp2
                 go_ret
                 exact⟨by first | rfl | (simp;done) | (simp [*];done),by repeat (first | exact ay.refl _ | apply ay.step)⟩
               ·rw [if_neg c14] at H
                exact absurd H (by simp)
              ·rw [if_neg c13] at H
               exact absurd H (by simp)
      ·rw [if_neg c5] at H
       exact absurd H (by simp)
     ·rw [if_neg c4] at H
      exact absurd H (by simp)
    ·rw [if_neg c3] at H
     have xP:decide (x9_1<(l0.length:Int))=false:=decide_eq_false c3
     clear c3
     obtain rfl:=Option.some.inj H
     go_wp2
     go_ret
     exact⟨by first | rfl | (simp;done) | (simp [*];done),by repeat (first | exact ay.refl _ | apply ay.step)⟩
def bH.j0:Nat→ByteArray→ByteArray→Bool→Option (Bool)
 | 0,_,_,_=>none
 | k+1,x0,x1,x20=>if x20=true then (some false) else ((dB.f x0).bind fun t157=>((dB.f x1).bind fun t160=>((dh.f k t157 t160).bind fun xQ=>(some xQ))))
def bH.f (k:Nat) (a0:ByteArray) (a1:ByteArray):Option (Bool):=(bQ.f k a0).bind fun Ky=>(if Ky=true then ((iE.f a1).bind fun t154=>(if t154=true then ((eG.f a0).bind fun qU=>(if qU=true then ((gU.f a1).bind fun t156=>(bH.j0 k a0 a1 t156)) else (bH.j0 k a0 a1 false))) else (bH.j0 k a0 a1 true))) else (bH.j0 k a0 a1 true))
set_option maxHeartbeats 8000000 in
set_option maxRecDepth 100000 in
theorem bH.calls (k:Nat) (a0:ByteArray) (a1:ByteArray) (r:Bool) (w:World) (hT:Tabs w) (h:bH.f k a0 a1=some r):
  Calls Tryz.prog 80 #[.string a0, .string a1] w fun e w'=>e= .returned (.bool r)∧Below w.heap.size w w':=by
 have HT:=Aside0.mk hT
 clear hT
 have HB:=Aside0.mk (Below.refl w.heap.size w)
 have H:((bQ.f k a0).bind fun Ky=>(if Ky=true then ((iE.f a1).bind fun t154=>(if t154=true then ((eG.f a0).bind fun qU=>(if qU=true then ((gU.f a1).bind fun t156=>(bH.j0 k a0 a1 t156)) else (bH.j0 k a0 a1 false))) else (bH.j0 k a0 a1 true))) else (bH.j0 k a0 a1 true)))=some r:=h
 clear h
 have Dl:=Aside0.mk H
 clear H
 go_enter Tryz.func80,Tryz.ntmps80
 go_upto_region 1 with (fail)
 go_cut [20] (fun v20 wc=>∃(kq:Nat) (x20_2:Bool),v20= .bool x20_2∧Aside0 (bH.j0 kq a0 a1 x20_2=some r)∧Aside0 (kq≤k)∧Aside0 (Below w.heap.size w wc))
 case first=>
  have H:=Dl.out
  clear Dl
  replace H:=Option.bind_eq_some_iff.mp H
  obtain⟨Ky,Yc,H⟩:=H
  replace H:(if Ky=true then ((iE.f a1).bind fun t154=>(if t154=true then ((eG.f a0).bind fun qU=>(if qU=true then ((gU.f a1).bind fun t156=>(bH.j0 k a0 a1 t156)) else (bH.j0 k a0 a1 false))) else (bH.j0 k a0 a1 true))) else (bH.j0 k a0 a1 true))=some r:=H
  have A4:=Aside0.mk Yc
  clear Yc
  by_cases c5:Ky=true
  ·subst c5
   have H1:((iE.f a1).bind fun t154=>(if t154=true then ((eG.f a0).bind fun qU=>(if qU=true then ((gU.f a1).bind fun t156=>(bH.j0 k a0 a1 t156)) else (bH.j0 k a0 a1 false))) else (bH.j0 k a0 a1 true)))=some r:=by rw [if_pos rfl] at H;exact H
   clear H
   have H:=H1
   clear H1
   replace H:=Option.bind_eq_some_iff.mp H
   obtain⟨t154,xk,H⟩:=H
   replace H:(if t154=true then ((eG.f a0).bind fun qU=>(if qU=true then ((gU.f a1).bind fun t156=>(bH.j0 k a0 a1 t156)) else (bH.j0 k a0 a1 false))) else (bH.j0 k a0 a1 true))=some r:=H
   have A6:=Aside0.mk xk
   clear xk
   by_cases c7:t154=true
   ·subst c7
    have H1:((eG.f a0).bind fun qU=>(if qU=true then ((gU.f a1).bind fun t156=>(bH.j0 k a0 a1 t156)) else (bH.j0 k a0 a1 false)))=some r:=by rw [if_pos rfl] at H;exact H
    clear H
    have H:=H1
    clear H1
    replace H:=Option.bind_eq_some_iff.mp H
    obtain⟨qU,LP,H⟩:=H
    replace H:(if qU=true then ((gU.f a1).bind fun t156=>(bH.j0 k a0 a1 t156)) else (bH.j0 k a0 a1 false))=some r:=H
    have A8:=Aside0.mk LP
    clear LP
    by_cases c9:qU=true
    ·subst c9
     have H1:((gU.f a1).bind fun t156=>(bH.j0 k a0 a1 t156))=some r:=by rw [if_pos rfl] at H;exact H
     clear H
     have H:=H1
     clear H1
     replace H:=Option.bind_eq_some_iff.mp H
     obtain⟨t156,Dh,H⟩:=H
     replace H:(bH.j0 k a0 a1 t156)=some r:=H
     have X8:=Aside0.mk Dh
     clear Dh
     have H':=Aside0.mk H
     clear H
     go_wp2_with (first | ((with_reducible refine aH (f:=77) rfl ?_);refine bW (some 6) rfl rfl Tryz.func77 (by kernel_rfl) rfl #[.string a0] rfl (by(try simp only [List.map_toArray,List.map_cons,List.map_nil]);first | done | rfl | (simp only [List.length_drop,List.length_take];rfl)) ?_;(with_reducible refine(bQ.calls k a0 true _ ?dP A4.out).mono ?_);(case dP=>exact Tabs.below HT.out (by repeat (first | (with_reducible first | exact HB.out | apply aj | apply ah | apply ak) | exact HB.out)));rintro e w11 ⟨rfl,hb⟩;refine⟨_,rfl,?_⟩;have aY:=Aside0.mk (aJ (by repeat (first | (with_reducible first | exact HB.out | apply aj | apply ah | apply ak) | exact HB.out)) hb);clear HB;have HB:=aY;clear aY;(try clear hb);(try clear hb2);(try clear hk);(try clear hi)) | (go_at_call 149;(with_reducible refine(iE.calls a1 true _ ?dP A6.out).mono ?_);(case dP=>exact Tabs.below HT.out (by repeat (first | (with_reducible first | exact HB.out | apply aj | apply ah | apply ak) | exact HB.out)));rintro e w12 ⟨rfl,hb⟩;have aY:=Aside0.mk (aJ (by repeat (first | (with_reducible first | exact HB.out | apply aj | apply ah | apply ak) | exact HB.out)) hb);clear HB;have HB:=aY;clear aY;(try clear hb);(try clear hb2);(try clear hk);(try clear hi)) | (go_at_call 150;(with_reducible refine(eG.calls a0 true _ A8.out).mono ?_);rintro e w' ⟨rfl,⟨nd,rfl⟩⟩) | (go_at_call 151;(with_reducible refine(gU.calls a1 t156 _ X8.out).mono ?_);rintro e w' ⟨rfl,⟨nd,rfl⟩⟩))
     go_meet
     case rel=>exact⟨_,(t156),(by first | rfl | (simp;done) | (simp [*];done)),H',⟨by first | omega | exact Nat.le_refl _⟩,⟨by repeat (first | (with_reducible first | exact HB.out | apply aj | apply ah | apply ak) | exact HB.out)⟩⟩
    ·replace c9:=Bool.eq_false_iff.mpr c9
     subst c9
     have H1:(bH.j0 k a0 a1 false)=some r:=by rw [if_neg (show ¬(false=true) by decide)] at H;exact H
     clear H
     have H:=H1
     clear H1
     have H':=Aside0.mk H
     clear H
     go_wp2_with (first | ((with_reducible refine aH (f:=77) rfl ?_);refine bW (some 6) rfl rfl Tryz.func77 (by kernel_rfl) rfl #[.string a0] rfl (by(try simp only [List.map_toArray,List.map_cons,List.map_nil]);first | done | rfl | (simp only [List.length_drop,List.length_take];rfl)) ?_;(with_reducible refine(bQ.calls k a0 true _ ?dP A4.out).mono ?_);(case dP=>exact Tabs.below HT.out (by repeat (first | (with_reducible first | exact HB.out | apply aj | apply ah | apply ak) | exact HB.out)));rintro e w13 ⟨rfl,hb⟩;refine⟨_,rfl,?_⟩;have aY:=Aside0.mk (aJ (by repeat (first | (with_reducible first | exact HB.out | apply aj | apply ah | apply ak) | exact HB.out)) hb);clear HB;have HB:=aY;clear aY;(try clear hb);(try clear hb2);(try clear hk);(try clear hi)) | (go_at_call 149;(with_reducible refine(iE.calls a1 true _ ?dP A6.out).mono ?_);(case dP=>exact Tabs.below HT.out (by repeat (first | (with_reducible first | exact HB.out | apply aj | apply ah | apply ak) | exact HB.out)));rintro e w14 ⟨rfl,hb⟩;have aY:=Aside0.mk (aJ (by repeat (first | (with_reducible first | exact HB.out | apply aj | apply ah | apply ak) | exact HB.out)) hb);clear HB;have HB:=aY;clear aY;(try clear hb);(try clear hb2);(try clear hk);(try clear hi)) | (go_at_call 150;(with_reducible refine(eG.calls a0 false _ A8.out).mono ?_);rintro e w' ⟨rfl,⟨nd,rfl⟩⟩))
     go_meet
     case rel=>exact⟨_,(false),(by first | rfl | (simp;done) | (simp [*];done)),H',⟨by first | omega | exact Nat.le_refl _⟩,⟨by repeat (first | (with_reducible first | exact HB.out | apply aj | apply ah | apply ak) | exact HB.out)⟩⟩
   ·replace c7:=Bool.eq_false_iff.mpr c7
    subst c7
    have H1:(bH.j0 k a0 a1 true)=some r:=by rw [if_neg (show ¬(false=true) by decide)] at H;exact H
    clear H
    have H:=H1
    clear H1
    have H':=Aside0.mk H
    clear H
    go_wp2_with (first | ((with_reducible refine aH (f:=77) rfl ?_);refine bW (some 6) rfl rfl Tryz.func77 (by kernel_rfl) rfl #[.string a0] rfl (by(try simp only [List.map_toArray,List.map_cons,List.map_nil]);first | done | rfl | (simp only [List.length_drop,List.length_take];rfl)) ?_;(with_reducible refine(bQ.calls k a0 true _ ?dP A4.out).mono ?_);(case dP=>exact Tabs.below HT.out (by repeat (first | (with_reducible first | exact HB.out | apply aj | apply ah | apply ak) | exact HB.out)));rintro e w15 ⟨rfl,hb⟩;refine⟨_,rfl,?_⟩;have aY:=Aside0.mk (aJ (by repeat (first | (with_reducible first | exact HB.out | apply aj | apply ah | apply ak) | exact HB.out)) hb);clear HB;have HB:=aY;clear aY;(try clear hb);(try clear hb2);(try clear hk);(try clear hi)) | (go_at_call 149;(with_reducible refine(iE.calls a1 false _ ?dP A6.out).mono ?_);(case dP=>exact Tabs.below HT.out (by repeat (first | (with_reducible first | exact HB.out | apply aj | apply ah | apply ak) | exact HB.out)));rintro e w16 ⟨rfl,hb⟩;have aY:=Aside0.mk (aJ (by repeat (first | (with_reducible first | exact HB.out | apply aj | apply ah | apply ak) | exact HB.out)) hb);clear HB;have HB:=aY;clear aY;(try clear hb);(try clear hb2);(try clear hk);(try clear hi)))
    go_meet
    case rel=>exact⟨_,(true),(by first | rfl | (simp;done) | (simp [*];done)),H',⟨by first | omega | exact Nat.le_refl _⟩,⟨by repeat (first | (with_reducible first | exact HB.out | apply aj | apply ah | apply ak) | exact HB.out)⟩⟩
  ·replace c5:=Bool.eq_false_iff.mpr c5
   subst c5
   have H1:(bH.j0 k a0 a1 true)=some r:=by rw [if_neg (show ¬(false=true) by decide)] at H;exact H
   clear H
   have H:=H1
   clear H1
   have H':=Aside0.mk H
   clear H
   go_wp2_with (first | ((with_reducible refine aH (f:=77) rfl ?_);refine bW (some 6) rfl rfl Tryz.func77 (by kernel_rfl) rfl #[.string a0] rfl (by(try simp only [List.map_toArray,List.map_cons,List.map_nil]);first | done | rfl | (simp only [List.length_drop,List.length_take];rfl)) ?_;(with_reducible refine(bQ.calls k a0 false _ ?dP A4.out).mono ?_);(case dP=>exact Tabs.below HT.out (by repeat (first | (with_reducible first | exact HB.out | apply aj | apply ah | apply ak) | exact HB.out)));rintro e w17 ⟨rfl,hb⟩;refine⟨_,rfl,?_⟩;have aY:=Aside0.mk (aJ (by repeat (first | (with_reducible first | exact HB.out | apply aj | apply ah | apply ak) | exact HB.out)) hb);clear HB;have HB:=aY;clear aY;(try clear hb);(try clear hb2);(try clear hk);(try clear hi)))
   go_meet
   case rel=>exact⟨_,(true),(by first | rfl | (simp;done) | (simp [*];done)),H',⟨by first | omega | exact Nat.le_refl _⟩,⟨by repeat (first | (with_reducible first | exact HB.out | apply aj | apply ah | apply ak) | exact HB.out)⟩⟩
 case rest=>
  clear Dl
  try clear p2
  try clear c5
  try clear c7
  try clear c8
  try clear c9
  obtain⟨kq,x20_2,rfl,HA,HJ2,HB⟩:=hcut
  cases kq with
  | zero=>exact absurd HA.out (by simp [bH.j0])
  | succ qV=>
    have H:=HA.out
    clear HA
    simp only [bH.j0] at H
    by_cases c18:x20_2=true
    ·subst c18
     have H1:(some false)=some r:=by rw [if_pos rfl] at H;exact H
     clear H
     have H:=H1
     clear H1
     obtain rfl:=Option.some.inj H
     go_wp2
     go_ret
     exact⟨by first | rfl | (simp [aA,aC]<;>rfl) | (simp [*,aA,aC]<;>rfl),by repeat (first | (with_reducible first | exact HB.out | apply aj | apply ah | apply ak) | exact HB.out)⟩
    ·replace c18:=Bool.eq_false_iff.mpr c18
     subst c18
     have H1:((dB.f a0).bind fun t157=>((dB.f a1).bind fun t160=>((dh.f qV t157 t160).bind fun xQ=>(some xQ))))=some r:=by rw [if_neg (show ¬(false=true) by decide)] at H;exact H
     clear H
     have H:=H1
     clear H1
     replace H:=Option.bind_eq_some_iff.mp H
     obtain⟨t157,P9,H⟩:=H
     replace H:((dB.f a1).bind fun t160=>((dh.f qV t157 t160).bind fun xQ=>(some xQ)))=some r:=H
     have A19:=Aside0.mk P9
     clear P9
     replace H:=Option.bind_eq_some_iff.mp H
     obtain⟨t160,Qa,H⟩:=H
     replace H:((dh.f qV t157 t160).bind fun xQ=>(some xQ))=some r:=H
     have lK:=Aside0.mk Qa
     clear Qa
     replace H:=Option.bind_eq_some_iff.mp H
     obtain⟨xQ,Qb,H⟩:=H
     replace H:(some xQ)=some r:=H
     have A21:=Aside0.mk Qb
     clear Qb
     obtain rfl:=Option.some.inj H
     go_wp2_with (first | ((with_reducible refine aH (f:=101) rfl ?_);refine bW (some 22) rfl rfl Tryz.func101 (by kernel_rfl) rfl #[.string a0] rfl (by(try simp only [List.map_toArray,List.map_cons,List.map_nil]);first | done | rfl | (simp only [List.length_drop,List.length_take];rfl)) ?_;(with_reducible refine(dB.calls a0 t157 _ ?dP A19.out).mono ?_);(case dP=>exact Tabs.below HT.out (by repeat (first | (with_reducible first | exact HB.out | apply aj | apply ah | apply ak) | exact HB.out)));rintro e w22 ⟨afk,rfl,ho0,hb⟩;refine⟨_,rfl,?_⟩;have aY:=Aside0.mk (Kd.lu ho0 (iQ (by repeat (first | (with_reducible first | exact HB.out | apply aj | apply ah | apply ak) | exact HB.out))));have fK:=Aside0.mk (aJ (by repeat (first | (with_reducible first | exact HB.out | apply aj | apply ah | apply ak) | exact HB.out)) hb);clear HB;have zL:=aY;have HB:=fK;clear aY fK;(try clear hb);(try clear hb2);(try clear hk);(try clear hi);(try clear ho0)) | ((with_reducible refine aH (f:=101) rfl ?_);refine bW (some 24) rfl rfl Tryz.func101 (by kernel_rfl) rfl #[.string a1] rfl (by(try simp only [List.map_toArray,List.map_cons,List.map_nil]);first | done | rfl | (simp only [List.length_drop,List.length_take];rfl)) ?_;(with_reducible refine(dB.calls a1 t160 _ ?dP lK.out).mono ?_);(case dP=>exact Tabs.below HT.out (by repeat (first | (with_reducible first | exact HB.out | apply aj | apply ah | apply ak) | exact HB.out)));rintro e w23 ⟨afl,rfl,ho0,hb⟩;refine⟨_,rfl,?_⟩;have aY:=Aside0.mk (Kd.NS (by(with_reducible repeat (first | apply Kd.dI | apply Kd.dJ | apply Kd.dR));exact zL.out) (Kd.NQ ho0) hb);have fK:=Aside0.mk (Kd.lu (Kd.VZ ho0 (Kd.abr (by(with_reducible repeat (first | apply Kd.dI | apply Kd.dJ | apply Kd.dR));exact zL.out))) (iQ (by repeat (first | (with_reducible first | exact HB.out | apply aj | apply ah | apply ak) | exact HB.out))));have qA:=Aside0.mk (aJ (by repeat (first | (with_reducible first | exact HB.out | apply aj | apply ah | apply ak) | exact HB.out)) hb);clear zL;clear HB;have zL:=aY;have Vj:=fK;have HB:=qA;clear aY fK qA;(try clear hb);(try clear hb2);(try clear hk);(try clear hi);(try clear ho0);obtain⟨Vk,Vl,Qc⟩:=Kd.iJ zL.out;subst Qc;obtain⟨Vm,Vo,Qd⟩:=Kd.iJ Vj.out;subst Qd) | ((with_reducible refine aH (f:=152) rfl ?_);refine bW (some 25) rfl rfl Tryz.func152 (by kernel_rfl) rfl #[.slice Vk t157.length Vl, .slice Vm t160.length Vo] rfl (by(try simp only [List.map_toArray,List.map_cons,List.map_nil]);first | done | rfl | (simp only [List.length_drop,List.length_take];rfl)) ?_;(with_reducible refine(dh.calls qV _ _ t157 _ _ t160 xQ _ ?dP ?Jb ?Vp ?Vq A21.out).mono ?_);(case dP=>repeat (first | exact(Kd.bD zL.out).2.2 | (with_reducible refine Kd.xX ?_ _) | (with_reducible refine Kd.uN ?_ _) | (with_reducible refine Kd.AO ?_)));(case Jb=>exact(Kd.bD zL.out).2.1);(case Vp=>repeat (first | exact(Kd.bD Vj.out).2.2 | (with_reducible refine Kd.xX ?_ _) | (with_reducible refine Kd.uN ?_ _) | (with_reducible refine Kd.AO ?_)));(case Vq=>exact(Kd.bD Vj.out).2.1);rintro e w' ⟨rfl,⟨nd,rfl⟩⟩;refine⟨_,rfl,?_⟩))
     go_ret
     exact⟨by first | rfl | (simp [aA,aC]<;>rfl) | (simp [*,aA,aC]<;>rfl),by repeat (first | (with_reducible first | exact HB.out | apply aj | apply ah | apply ak) | exact HB.out)⟩
def gI.f (a0:ByteArray):Option (Bool):=if a0.toList=([]:List UInt8) then (some false) else (if 0<(a0.size:Int) then (if (bt a0 0)=43 then (some true) else (some ((bt a0 0)==35))) else (none))
set_option maxHeartbeats 8000000 in
set_option maxRecDepth 100000 in
theorem gI.calls (a0:ByteArray) (r:Bool) (w:World) (h:gI.f a0=some r):
  Calls Tryz.prog 182 #[.string a0] w fun e w'=>e= .returned (.bool r)∧ay w w':=by
 have H:(if a0.toList=([]:List UInt8) then (some false) else (if 0<(a0.size:Int) then (if (bt a0 0)=43 then (some true) else (some ((bt a0 0)==35))) else (none)))=some r:=h
 clear h
 by_cases c2:a0.toList=([]:List UInt8)
 ·rw [if_pos c2] at H
  have Vr:(a0.toList==([]:List UInt8))=true:=beq_iff_eq.mpr c2
  have Vs:(a0.toList !=([]:List UInt8))=false:=bne_eq_false_iff_eq.mpr c2
  clear c2
  obtain rfl:=Option.some.inj H
  go_enter Tryz.func182,Tryz.ntmps182
  go_wp2
  go_ret
  exact⟨by first | rfl | (simp;done) | (simp [*];done),by repeat (first | exact ay.refl _ | apply ay.step)⟩
 ·rw [if_neg c2] at H
  have Vr:(a0.toList==([]:List UInt8))=false:=beq_eq_false_iff_ne.mpr c2
  have Vs:(a0.toList !=([]:List UInt8))=true:=bne_iff_ne.mpr c2
  by_cases c3:0<(a0.size:Int)
  ·rw [if_pos c3] at H
   have xP:decide (0<(a0.size:Int))=true:=decide_eq_true c3
   have Zv:decide (0<a0.size)=true:=decide_eq_true (by omega)
   clear c3
   by_cases c5:(bt a0 0)=43
   ·rw [if_pos c5] at H
    have rV:((bt a0 0)==43)=true:=beq_iff_eq.mpr c5
    have Di:((bt a0 0) !=43)=false:=bne_eq_false_iff_eq.mpr c5
    clear c5
    obtain rfl:=Option.some.inj H
    have p4:0≤(0:Int):=(by omega)
    have q4:0<a0.size:=(by have:(0:Int)<(a0.size:Int):=of_decide_eq_true (by first | (with_reducible assumption) | assumption);omega)
    have hx4:∀h:0<a0.size,((a0[0]'h).toNat:Int)=bt a0 0:=o7 a0 0
    clear p4
    have qi4:(0<(a0.size:Int))=True:=eq_true (of_decide_eq_true (by first | (with_reducible assumption) | assumption))
    replace q4:=eq_true q4
    go_enter Tryz.func182,Tryz.ntmps182
    go_wp2
    go_ret
    exact⟨by first | rfl | (simp;done) | (simp [*];done),by repeat (first | exact ay.refl _ | apply ay.step)⟩
   ·rw [if_neg c5] at H
    have rV:((bt a0 0)==43)=false:=beq_eq_false_iff_ne.mpr c5
    have Di:((bt a0 0) !=43)=true:=bne_iff_ne.mpr c5
    obtain rfl:=Option.some.inj H
    have p4:0≤(0:Int):=(by omega)
    have q4:0<a0.size:=(by have:(0:Int)<(a0.size:Int):=of_decide_eq_true (by first | (with_reducible assumption) | assumption);omega)
    have hx4:∀h:0<a0.size,((a0[0]'h).toNat:Int)=bt a0 0:=o7 a0 0
    clear p4
    have qi4:(0<(a0.size:Int))=True:=eq_true (of_decide_eq_true (by first | (with_reducible assumption) | assumption))
    replace q4:=eq_true q4
    have p6:0≤(0:Int):=(by omega)
    have q6:0<a0.size:=(by have:(0:Int)<(a0.size:Int):=of_decide_eq_true (by first | (with_reducible assumption) | assumption);omega)
    have hx6:∀h:0<a0.size,((a0[0]'h).toNat:Int)=bt a0 0:=o7 a0 0
    clear p6
    have qi6:(0<(a0.size:Int))=True:=eq_true (of_decide_eq_true (by first | (with_reducible assumption) | assumption))
    replace q6:=eq_true q6
    go_enter Tryz.func182,Tryz.ntmps182
    go_wp2
    go_ret
    exact⟨by first | rfl | (simp;done) | (simp [*];done),by repeat (first | exact ay.refl _ | apply ay.step)⟩
  ·rw [if_neg c3] at H
   exact absurd H (by simp)
end Go.Proofs.YtcnfgfomholheaaGreatDoor.P
