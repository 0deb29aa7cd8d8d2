import Derived.Test.YtcnfgfomholheaaGreatDoorPx0
import Derived.Test.YtcnfgfomholheaaGreatDoorPx2
import Derived.Test.YtcnfgfomholheaaGreatDoorPx3
import Derived.Test.YtcnfgfomholheaaGreatDoorX7
namespace Go.Proofs.YtcnfgfomholheaaGreatDoor.P
open Go.RowKit Go.Proofs.YtcnfgfomholheaaGreatDoor.X Go.Proofs.YtcnfgfomholheaaGreatDoorW.PrintWords Go.Proofs.YtcnfgfomholheaaGreatDoorW.PrintLast Go.Proofs.YtcnfgfomholheaaGreatDoorW.PrintMore
attribute [local go_sem] mJ mM oM oN kW kX mO mP
set_option linter.unusedVariables false
set_option linter.unusedSimpArgs false
def jq.f (k:Nat) (a0:ByteArray):Option (Bool):=(aJ.f k a0).bind fun Jd=>(some (decide (Jd≥0)))
set_option maxHeartbeats 8000000 in
set_option maxRecDepth 100000 in
theorem jq.calls (k:Nat) (a0:ByteArray) (r:Bool) (w:World) (h:jq.f k a0=some r):
  Calls Tryz.prog 177 #[.string a0] w fun e w'=>e= .returned (.bool r)∧Below w.heap.size w w':=by
 have HB:=Aside0.mk (Below.refl w.heap.size w)
 have H:((aJ.f k a0).bind fun Jd=>(some (decide (Jd≥0))))=some r:=h
 clear h
 replace H:=Option.bind_eq_some_iff.mp H
 obtain⟨Jd,vN,H⟩:=H
 replace H:(some (decide (Jd≥0)))=some r:=H
 have A2:=Aside0.mk vN
 clear vN
 obtain rfl:=Option.some.inj H
 go_enter Tryz.func177,Tryz.ntmps177
 go_wp2_with (first | ((with_reducible refine bT (f:=208) rfl ?_);refine fJ (some 4) rfl rfl Tryz.func208 (by kernel_rfl) rfl #[.string a0] rfl (by(try simp only [List.map_toArray,List.map_cons,List.map_nil]);first | done | rfl | (simp only [List.length_drop,List.length_take];rfl)) ?_;(with_reducible refine(aJ.calls k a0 Jd _ A2.out).mono ?_);rintro e w3 ⟨rfl,hb⟩;refine⟨_,rfl,?_⟩;have eX:=Aside0.mk (dF (by repeat (first | (with_reducible first | exact HB.out | apply ak | apply aj | apply au) | exact HB.out)) hb);clear HB;have HB:=eX;clear eX;(try clear hb);(try clear hb2);(try clear hk);(try clear hi)))
 go_ret
 exact⟨by first | rfl | (simp [bf,bg]<;>rfl) | (simp [*,bf,bg]<;>rfl),by repeat (first | (with_reducible first | exact HB.out | apply ak | apply aj | apply au) | exact HB.out)⟩
def aI.l0:Nat→ByteArray→List ByteArray→Int→Option (Bool)
 | 0,_,_,_=>none
 | k+1,x0,x3,x4=>if x4<(x3.length:Int) then (if 0≤x4 then ((aU.f k (bM ByteArray.empty x3 x4) 43).bind fun TP=>(if TP=true then (if (bM ByteArray.empty x3 x4).toList=([43]:List UInt8) then ((aU.f k (bM ByteArray.empty x3 x4) 35).bind fun t143=>(if t143=true then (if (bM ByteArray.empty x3 x4).toList=([35]:List UInt8) then (if x4<(wrap64 ((x3.length:Int) - 1)) then (some false) else (aI.l0 k x0 x3 (wrap64 (x4+1)))) else (some false)) else (aI.l0 k x0 x3 (wrap64 (x4+1))))) else (some false)) else ((aU.f k (bM ByteArray.empty x3 x4) 35).bind fun t146=>(if t146=true then (if (bM ByteArray.empty x3 x4).toList=([35]:List UInt8) then (if x4<(wrap64 ((x3.length:Int) - 1)) then (some false) else (aI.l0 k x0 x3 (wrap64 (x4+1)))) else (some false)) else (aI.l0 k x0 x3 (wrap64 (x4+1))))))) else (none)) else ((jq.f k x0).bind fun t138=>(if t138=true then (if x0.toList=([]:List UInt8) then (some false) else (some (decide ((x3.length:Int)≤6)))) else (some false)))
def aI.f (k:Nat) (a0:ByteArray):Option (Bool):=(bZ.f k a0).bind fun aH=>(aI.l0 k a0 aH 0)
set_option maxHeartbeats 8000000 in
set_option maxRecDepth 100000 in
theorem aI.calls (k:Nat) (a0:ByteArray) (r:Bool) (w:World) (h:aI.f k a0=some r):
  Calls Tryz.prog 106 #[.string a0] w fun e w'=>e= .returned (.bool r)∧Below w.heap.size w w':=by
 have HB:=Aside0.mk (Below.refl w.heap.size w)
 have H:((bZ.f k a0).bind fun aH=>(aI.l0 k a0 aH 0))=some r:=h
 clear h
 replace H:=Option.bind_eq_some_iff.mp H
 obtain⟨aH,vN,H⟩:=H
 replace H:(aI.l0 k a0 aH 0)=some r:=H
 have A2:=Aside0.mk vN
 clear vN
 have H':=Aside0.mk H
 clear H
 go_enter Tryz.func106,Tryz.ntmps106
 go_wp2_with (first | ((with_reducible refine bT (f:=108) rfl ?_);refine fJ (some 6) rfl rfl Tryz.func108 (by kernel_rfl) rfl #[.string a0] rfl (by(try simp only [List.map_toArray,List.map_cons,List.map_nil]);first | done | rfl | (simp only [List.length_drop,List.length_take];rfl)) ?_;(with_reducible refine(bZ.calls k a0 aH _ A2.out).mono ?_);rintro e w3 ⟨adf,rfl,ho0,hb⟩;refine⟨_,rfl,?_⟩;have eX:=Aside0.mk (Kd.wK ho0 (nJ (by repeat (first | (with_reducible first | exact HB.out | apply ak | apply aj | apply au) | exact HB.out))));have iK:=Aside0.mk (dF (by repeat (first | (with_reducible first | exact HB.out | apply ak | apply aj | apply au) | exact HB.out)) hb);clear HB;have acg:=eX;have HB:=iK;clear eX iK;(try clear hb);(try clear hb2);(try clear hk);(try clear hi);(try clear ho0)))
 go_loopg [4] k (fun kq v4 w'=>∃(x4_1:Int),v4= .int .i64 x4_1∧Aside0 (aI.l0 kq a0 aH x4_1=some r)∧Aside0 (kq≤k)∧Aside0 (Kd.R Kd.string 9 w' w.heap.size (fun _=>True) adf aH)∧Aside0 (Below w.heap.size w w'))
 case atStart=>exact⟨(0),(by first | rfl | (simp;done) | (simp [*];done)),H',⟨Nat.le_refl _⟩,⟨by(with_reducible repeat (first | apply Kd.dK | apply Kd.dL | apply Kd.dW));exact acg.out⟩,⟨by repeat (first | (with_reducible first | exact HB.out | apply ak | apply aj | apply au) | exact HB.out)⟩⟩
 case round=>
  clear H'
  try clear c1
  try clear p2
  obtain⟨x4_1,rfl,HA,nT,bQ,HB⟩:=hrel
  cases gk with
  | zero=>exact absurd HA.out (by simp [aI.l0])
  | succ k1=>
    have H:=HA.out
    clear HA
    simp only [aI.l0] at H
    by_cases c4:x4_1<(aH.length:Int)
    ·rw [if_pos c4] at H
     have ny:decide (x4_1<(aH.length:Int))=true:=decide_eq_true c4
     clear c4
     by_cases c5:0≤x4_1
     ·rw [if_pos c5] at H
      have I9:decide (0≤x4_1)=true:=decide_eq_true c5
      clear c5
      replace H:=Option.bind_eq_some_iff.mp H
      obtain⟨TP,A60,H⟩:=H
      replace H:(if TP=true then (if (bM ByteArray.empty aH x4_1).toList=([43]:List UInt8) then ((aU.f k1 (bM ByteArray.empty aH x4_1) 35).bind fun t143=>(if t143=true then (if (bM ByteArray.empty aH x4_1).toList=([35]:List UInt8) then (if x4_1<(wrap64 ((aH.length:Int) - 1)) then (some false) else (aI.l0 k1 a0 aH (wrap64 (x4_1+1)))) else (some false)) else (aI.l0 k1 a0 aH (wrap64 (x4_1+1))))) else (some false)) else ((aU.f k1 (bM ByteArray.empty aH x4_1) 35).bind fun t146=>(if t146=true then (if (bM ByteArray.empty aH x4_1).toList=([35]:List UInt8) then (if x4_1<(wrap64 ((aH.length:Int) - 1)) then (some false) else (aI.l0 k1 a0 aH (wrap64 (x4_1+1)))) else (some false)) else (aI.l0 k1 a0 aH (wrap64 (x4_1+1))))))=some r:=H
      have A6:=Aside0.mk A60
      clear A60
      by_cases c7:TP=true
      ·subst c7
       have H1:(if (bM ByteArray.empty aH x4_1).toList=([43]:List UInt8) then ((aU.f k1 (bM ByteArray.empty aH x4_1) 35).bind fun t143=>(if t143=true then (if (bM ByteArray.empty aH x4_1).toList=([35]:List UInt8) then (if x4_1<(wrap64 ((aH.length:Int) - 1)) then (some false) else (aI.l0 k1 a0 aH (wrap64 (x4_1+1)))) else (some false)) else (aI.l0 k1 a0 aH (wrap64 (x4_1+1))))) else (some false))=some r:=by rw [if_pos rfl] at H;exact H
       clear H
       have H:=H1
       clear H1
       by_cases c8:(bM ByteArray.empty aH x4_1).toList=([43]:List UInt8)
       ·rw [if_pos c8] at H
        have BF:((bM ByteArray.empty aH x4_1).toList==([43]:List UInt8))=true:=beq_iff_eq.mpr c8
        have adg:((bM ByteArray.empty aH x4_1).toList !=([43]:List UInt8))=false:=bne_eq_false_iff_eq.mpr c8
        clear c8
        replace H:=Option.bind_eq_some_iff.mp H
        obtain⟨t143,A90,H⟩:=H
        replace H:(if t143=true then (if (bM ByteArray.empty aH x4_1).toList=([35]:List UInt8) then (if x4_1<(wrap64 ((aH.length:Int) - 1)) then (some false) else (aI.l0 k1 a0 aH (wrap64 (x4_1+1)))) else (some false)) else (aI.l0 k1 a0 aH (wrap64 (x4_1+1))))=some r:=H
        have A9:=Aside0.mk A90
        clear A90
        by_cases c10:t143=true
        ·subst c10
         have H1:(if (bM ByteArray.empty aH x4_1).toList=([35]:List UInt8) then (if x4_1<(wrap64 ((aH.length:Int) - 1)) then (some false) else (aI.l0 k1 a0 aH (wrap64 (x4_1+1)))) else (some false))=some r:=by rw [if_pos rfl] at H;exact H
         clear H
         have H:=H1
         clear H1
         by_cases c11:(bM ByteArray.empty aH x4_1).toList=([35]:List UInt8)
         ·rw [if_pos c11] at H
          have nZ:((bM ByteArray.empty aH x4_1).toList==([35]:List UInt8))=true:=beq_iff_eq.mpr c11
          have ach:((bM ByteArray.empty aH x4_1).toList !=([35]:List UInt8))=false:=bne_eq_false_iff_eq.mpr c11
          clear c11
          by_cases c12:x4_1<(wrap64 ((aH.length:Int) - 1))
          ·rw [if_pos c12] at H
           have YF:decide (x4_1<(wrap64 ((aH.length:Int) - 1)))=true:=decide_eq_true c12
           clear c12
           obtain rfl:=Option.some.inj H
           obtain⟨adZ,ad1,adh⟩:=Kd.jJ bQ.out
           subst adh
           have gX:0≤(x4_1:Int):=of_decide_eq_true (by first | (with_reducible assumption) | assumption)
           have gY:x4_1<(aH.length:Int):=of_decide_eq_true (by first | (with_reducible assumption) | assumption)
           obtain⟨iq,nC,oW⟩:=Kd.bU (Kd.bP bQ.out).2.2 x4_1 gX gY
           cases nC
           replace gX:=eq_true gX
           replace gY:=eq_true gY
           go_wp2_with (first | ((with_reducible refine bT (f:=176) rfl ?_);refine fJ (some 17) rfl rfl Tryz.func176 (by kernel_rfl) rfl #[.string (bM ByteArray.empty aH x4_1), .int .u8 43] rfl (by(try simp only [List.map_toArray,List.map_cons,List.map_nil]);first | done | rfl | (simp only [List.length_drop,List.length_take];rfl)) ?_;(with_reducible refine(aU.calls k1 (bM ByteArray.empty aH x4_1) 43 true _ A6.out).mono ?_);rintro e w' ⟨rfl,⟨nd,rfl⟩⟩;refine⟨_,rfl,?_⟩;have lI:0≤(x4_1:Int):=of_decide_eq_true (by first | (with_reducible assumption) | assumption);have lJ:x4_1<(aH.length:Int):=of_decide_eq_true (by first | (with_reducible assumption) | assumption);obtain⟨rV,yO,Dq⟩:=Kd.bU (Kd.bP bQ.out).2.2 x4_1 lI lJ;obtain rfl:iq=rV:=(by injection yO);replace lI:=eq_true lI;replace lJ:=eq_true lJ;have oI:0≤(x4_1:Int):=of_decide_eq_true (by first | (with_reducible assumption) | assumption);have oJ:x4_1<(aH.length:Int):=of_decide_eq_true (by first | (with_reducible assumption) | assumption);obtain⟨yP,EX,Je⟩:=Kd.bU (Kd.bP bQ.out).2.2 x4_1 oI oJ;obtain rfl:iq=yP:=(by injection EX);replace oI:=eq_true oI;replace oJ:=eq_true oJ) | (go_at_call 176;(with_reducible refine(aU.calls k1 (bM ByteArray.empty aH x4_1) 35 true _ A9.out).mono ?_);rintro e w' ⟨rfl,⟨nd,rfl⟩⟩;have uy:0≤(x4_1:Int):=of_decide_eq_true (by first | (with_reducible assumption) | assumption);have uz:x4_1<(aH.length:Int):=of_decide_eq_true (by first | (with_reducible assumption) | assumption);obtain⟨Hr,Oo,QB⟩:=Kd.bU (Kd.bP bQ.out).2.2 x4_1 uy uz;obtain rfl:iq=Hr:=(by injection Oo);replace uy:=eq_true uy;replace uz:=eq_true uz))
           go_ret
           exact⟨by first | rfl | (simp [bf,bg]<;>rfl) | (simp [*,bf,bg]<;>rfl),by repeat (first | (with_reducible first | exact HB.out | apply ak | apply aj | apply au) | exact HB.out)⟩
          ·rw [if_neg c12] at H
           have YF:decide (x4_1<(wrap64 ((aH.length:Int) - 1)))=false:=decide_eq_false c12
           clear c12
           have H':=Aside0.mk H
           clear H
           obtain⟨ad2,ad3,adi⟩:=Kd.jJ bQ.out
           subst adi
           have gX:0≤(x4_1:Int):=of_decide_eq_true (by first | (with_reducible assumption) | assumption)
           have gY:x4_1<(aH.length:Int):=of_decide_eq_true (by first | (with_reducible assumption) | assumption)
           obtain⟨iq,nC,oW⟩:=Kd.bU (Kd.bP bQ.out).2.2 x4_1 gX gY
           cases nC
           replace gX:=eq_true gX
           replace gY:=eq_true gY
           go_wp2_with (first | ((with_reducible refine bT (f:=176) rfl ?_);refine fJ (some 17) rfl rfl Tryz.func176 (by kernel_rfl) rfl #[.string (bM ByteArray.empty aH x4_1), .int .u8 43] rfl (by(try simp only [List.map_toArray,List.map_cons,List.map_nil]);first | done | rfl | (simp only [List.length_drop,List.length_take];rfl)) ?_;(with_reducible refine(aU.calls k1 (bM ByteArray.empty aH x4_1) 43 true _ A6.out).mono ?_);rintro e w' ⟨rfl,⟨nd,rfl⟩⟩;refine⟨_,rfl,?_⟩;have lI:0≤(x4_1:Int):=of_decide_eq_true (by first | (with_reducible assumption) | assumption);have lJ:x4_1<(aH.length:Int):=of_decide_eq_true (by first | (with_reducible assumption) | assumption);obtain⟨rV,yO,Dq⟩:=Kd.bU (Kd.bP bQ.out).2.2 x4_1 lI lJ;obtain rfl:iq=rV:=(by injection yO);replace lI:=eq_true lI;replace lJ:=eq_true lJ;have oI:0≤(x4_1:Int):=of_decide_eq_true (by first | (with_reducible assumption) | assumption);have oJ:x4_1<(aH.length:Int):=of_decide_eq_true (by first | (with_reducible assumption) | assumption);obtain⟨yP,EX,Je⟩:=Kd.bU (Kd.bP bQ.out).2.2 x4_1 oI oJ;obtain rfl:iq=yP:=(by injection EX);replace oI:=eq_true oI;replace oJ:=eq_true oJ) | (go_at_call 176;(with_reducible refine(aU.calls k1 (bM ByteArray.empty aH x4_1) 35 true _ A9.out).mono ?_);rintro e w' ⟨rfl,⟨nd,rfl⟩⟩;have uy:0≤(x4_1:Int):=of_decide_eq_true (by first | (with_reducible assumption) | assumption);have uz:x4_1<(aH.length:Int):=of_decide_eq_true (by first | (with_reducible assumption) | assumption);obtain⟨Hr,Oo,QB⟩:=Kd.bU (Kd.bP bQ.out).2.2 x4_1 uy uz;obtain rfl:iq=Hr:=(by injection Oo);replace uy:=eq_true uy;replace uz:=eq_true uz))
           go_roundg k1
           case measure=>have:=nT.out;omega
           case rel=>exact⟨(wrap64 (x4_1+1)),(by first | rfl | (simp;done) | (simp [*];done)),H',⟨by have:=nT.out;omega⟩,⟨by(with_reducible repeat (first | apply Kd.dK | apply Kd.dL | apply Kd.dW));exact bQ.out⟩,⟨by repeat (first | (with_reducible first | exact HB.out | apply ak | apply aj | apply au) | exact HB.out)⟩⟩
         ·rw [if_neg c11] at H
          have nZ:((bM ByteArray.empty aH x4_1).toList==([35]:List UInt8))=false:=beq_eq_false_iff_ne.mpr c11
          have ach:((bM ByteArray.empty aH x4_1).toList !=([35]:List UInt8))=true:=bne_iff_ne.mpr c11
          obtain rfl:=Option.some.inj H
          obtain⟨ad4,ad5,adk⟩:=Kd.jJ bQ.out
          subst adk
          have gX:0≤(x4_1:Int):=of_decide_eq_true (by first | (with_reducible assumption) | assumption)
          have gY:x4_1<(aH.length:Int):=of_decide_eq_true (by first | (with_reducible assumption) | assumption)
          obtain⟨iq,nC,oW⟩:=Kd.bU (Kd.bP bQ.out).2.2 x4_1 gX gY
          cases nC
          replace gX:=eq_true gX
          replace gY:=eq_true gY
          go_wp2_with (first | ((with_reducible refine bT (f:=176) rfl ?_);refine fJ (some 17) rfl rfl Tryz.func176 (by kernel_rfl) rfl #[.string (bM ByteArray.empty aH x4_1), .int .u8 43] rfl (by(try simp only [List.map_toArray,List.map_cons,List.map_nil]);first | done | rfl | (simp only [List.length_drop,List.length_take];rfl)) ?_;(with_reducible refine(aU.calls k1 (bM ByteArray.empty aH x4_1) 43 true _ A6.out).mono ?_);rintro e w' ⟨rfl,⟨nd,rfl⟩⟩;refine⟨_,rfl,?_⟩;have lI:0≤(x4_1:Int):=of_decide_eq_true (by first | (with_reducible assumption) | assumption);have lJ:x4_1<(aH.length:Int):=of_decide_eq_true (by first | (with_reducible assumption) | assumption);obtain⟨rV,yO,Dq⟩:=Kd.bU (Kd.bP bQ.out).2.2 x4_1 lI lJ;obtain rfl:iq=rV:=(by injection yO);replace lI:=eq_true lI;replace lJ:=eq_true lJ;have oI:0≤(x4_1:Int):=of_decide_eq_true (by first | (with_reducible assumption) | assumption);have oJ:x4_1<(aH.length:Int):=of_decide_eq_true (by first | (with_reducible assumption) | assumption);obtain⟨yP,EX,Je⟩:=Kd.bU (Kd.bP bQ.out).2.2 x4_1 oI oJ;obtain rfl:iq=yP:=(by injection EX);replace oI:=eq_true oI;replace oJ:=eq_true oJ) | (go_at_call 176;(with_reducible refine(aU.calls k1 (bM ByteArray.empty aH x4_1) 35 true _ A9.out).mono ?_);rintro e w' ⟨rfl,⟨nd,rfl⟩⟩;have uy:0≤(x4_1:Int):=of_decide_eq_true (by first | (with_reducible assumption) | assumption);have uz:x4_1<(aH.length:Int):=of_decide_eq_true (by first | (with_reducible assumption) | assumption);obtain⟨Hr,Oo,QB⟩:=Kd.bU (Kd.bP bQ.out).2.2 x4_1 uy uz;obtain rfl:iq=Hr:=(by injection Oo);replace uy:=eq_true uy;replace uz:=eq_true uz))
          go_ret
          exact⟨by first | rfl | (simp [bf,bg]<;>rfl) | (simp [*,bf,bg]<;>rfl),by repeat (first | (with_reducible first | exact HB.out | apply ak | apply aj | apply au) | exact HB.out)⟩
        ·replace c10:=Bool.eq_false_iff.mpr c10
         subst c10
         have H1:(aI.l0 k1 a0 aH (wrap64 (x4_1+1)))=some r:=by rw [if_neg (show ¬(false=true) by decide)] at H;exact H
         clear H
         have H:=H1
         clear H1
         have H':=Aside0.mk H
         clear H
         obtain⟨ad6,ad7,adl⟩:=Kd.jJ bQ.out
         subst adl
         have gX:0≤(x4_1:Int):=of_decide_eq_true (by first | (with_reducible assumption) | assumption)
         have gY:x4_1<(aH.length:Int):=of_decide_eq_true (by first | (with_reducible assumption) | assumption)
         obtain⟨iq,nC,oW⟩:=Kd.bU (Kd.bP bQ.out).2.2 x4_1 gX gY
         cases nC
         replace gX:=eq_true gX
         replace gY:=eq_true gY
         go_wp2_with (first | ((with_reducible refine bT (f:=176) rfl ?_);refine fJ (some 17) rfl rfl Tryz.func176 (by kernel_rfl) rfl #[.string (bM ByteArray.empty aH x4_1), .int .u8 43] rfl (by(try simp only [List.map_toArray,List.map_cons,List.map_nil]);first | done | rfl | (simp only [List.length_drop,List.length_take];rfl)) ?_;(with_reducible refine(aU.calls k1 (bM ByteArray.empty aH x4_1) 43 true _ A6.out).mono ?_);rintro e w' ⟨rfl,⟨nd,rfl⟩⟩;refine⟨_,rfl,?_⟩;have lI:0≤(x4_1:Int):=of_decide_eq_true (by first | (with_reducible assumption) | assumption);have lJ:x4_1<(aH.length:Int):=of_decide_eq_true (by first | (with_reducible assumption) | assumption);obtain⟨rV,yO,Dq⟩:=Kd.bU (Kd.bP bQ.out).2.2 x4_1 lI lJ;obtain rfl:iq=rV:=(by injection yO);replace lI:=eq_true lI;replace lJ:=eq_true lJ;have oI:0≤(x4_1:Int):=of_decide_eq_true (by first | (with_reducible assumption) | assumption);have oJ:x4_1<(aH.length:Int):=of_decide_eq_true (by first | (with_reducible assumption) | assumption);obtain⟨yP,EX,Je⟩:=Kd.bU (Kd.bP bQ.out).2.2 x4_1 oI oJ;obtain rfl:iq=yP:=(by injection EX);replace oI:=eq_true oI;replace oJ:=eq_true oJ) | (go_at_call 176;(with_reducible refine(aU.calls k1 (bM ByteArray.empty aH x4_1) 35 false _ A9.out).mono ?_);rintro e w' ⟨rfl,⟨nd,rfl⟩⟩))
         go_roundg k1
         case measure=>have:=nT.out;omega
         case rel=>exact⟨(wrap64 (x4_1+1)),(by first | rfl | (simp;done) | (simp [*];done)),H',⟨by have:=nT.out;omega⟩,⟨by(with_reducible repeat (first | apply Kd.dK | apply Kd.dL | apply Kd.dW));exact bQ.out⟩,⟨by repeat (first | (with_reducible first | exact HB.out | apply ak | apply aj | apply au) | exact HB.out)⟩⟩
       ·rw [if_neg c8] at H
        have BF:((bM ByteArray.empty aH x4_1).toList==([43]:List UInt8))=false:=beq_eq_false_iff_ne.mpr c8
        have adg:((bM ByteArray.empty aH x4_1).toList !=([43]:List UInt8))=true:=bne_iff_ne.mpr c8
        obtain rfl:=Option.some.inj H
        obtain⟨ad8,ad9,adn⟩:=Kd.jJ bQ.out
        subst adn
        have gX:0≤(x4_1:Int):=of_decide_eq_true (by first | (with_reducible assumption) | assumption)
        have gY:x4_1<(aH.length:Int):=of_decide_eq_true (by first | (with_reducible assumption) | assumption)
        obtain⟨iq,nC,oW⟩:=Kd.bU (Kd.bP bQ.out).2.2 x4_1 gX gY
        cases nC
        replace gX:=eq_true gX
        replace gY:=eq_true gY
        go_wp2_with (first | ((with_reducible refine bT (f:=176) rfl ?_);refine fJ (some 17) rfl rfl Tryz.func176 (by kernel_rfl) rfl #[.string (bM ByteArray.empty aH x4_1), .int .u8 43] rfl (by(try simp only [List.map_toArray,List.map_cons,List.map_nil]);first | done | rfl | (simp only [List.length_drop,List.length_take];rfl)) ?_;(with_reducible refine(aU.calls k1 (bM ByteArray.empty aH x4_1) 43 true _ A6.out).mono ?_);rintro e w' ⟨rfl,⟨nd,rfl⟩⟩;refine⟨_,rfl,?_⟩;have lI:0≤(x4_1:Int):=of_decide_eq_true (by first | (with_reducible assumption) | assumption);have lJ:x4_1<(aH.length:Int):=of_decide_eq_true (by first | (with_reducible assumption) | assumption);obtain⟨rV,yO,Dq⟩:=Kd.bU (Kd.bP bQ.out).2.2 x4_1 lI lJ;obtain rfl:iq=rV:=(by injection yO);replace lI:=eq_true lI;replace lJ:=eq_true lJ))
        go_ret
        exact⟨by first | rfl | (simp [bf,bg]<;>rfl) | (simp [*,bf,bg]<;>rfl),by repeat (first | (with_reducible first | exact HB.out | apply ak | apply aj | apply au) | exact HB.out)⟩
      ·replace c7:=Bool.eq_false_iff.mpr c7
       subst c7
       have H1:((aU.f k1 (bM ByteArray.empty aH x4_1) 35).bind fun t146=>(if t146=true then (if (bM ByteArray.empty aH x4_1).toList=([35]:List UInt8) then (if x4_1<(wrap64 ((aH.length:Int) - 1)) then (some false) else (aI.l0 k1 a0 aH (wrap64 (x4_1+1)))) else (some false)) else (aI.l0 k1 a0 aH (wrap64 (x4_1+1)))))=some r:=by rw [if_neg (show ¬(false=true) by decide)] at H;exact H
       clear H
       have H:=H1
       clear H1
       replace H:=Option.bind_eq_some_iff.mp H
       obtain⟨t146,aa8,H⟩:=H
       replace H:(if t146=true then (if (bM ByteArray.empty aH x4_1).toList=([35]:List UInt8) then (if x4_1<(wrap64 ((aH.length:Int) - 1)) then (some false) else (aI.l0 k1 a0 aH (wrap64 (x4_1+1)))) else (some false)) else (aI.l0 k1 a0 aH (wrap64 (x4_1+1))))=some r:=H
       have YG:=Aside0.mk aa8
       clear aa8
       by_cases c19:t146=true
       ·subst c19
        have H1:(if (bM ByteArray.empty aH x4_1).toList=([35]:List UInt8) then (if x4_1<(wrap64 ((aH.length:Int) - 1)) then (some false) else (aI.l0 k1 a0 aH (wrap64 (x4_1+1)))) else (some false))=some r:=by rw [if_pos rfl] at H;exact H
        clear H
        have H:=H1
        clear H1
        by_cases c20:(bM ByteArray.empty aH x4_1).toList=([35]:List UInt8)
        ·rw [if_pos c20] at H
         have aci:((bM ByteArray.empty aH x4_1).toList==([35]:List UInt8))=true:=beq_iff_eq.mpr c20
         have acj:((bM ByteArray.empty aH x4_1).toList !=([35]:List UInt8))=false:=bne_eq_false_iff_eq.mpr c20
         clear c20
         by_cases c21:x4_1<(wrap64 ((aH.length:Int) - 1))
         ·rw [if_pos c21] at H
          have YH:decide (x4_1<(wrap64 ((aH.length:Int) - 1)))=true:=decide_eq_true c21
          clear c21
          obtain rfl:=Option.some.inj H
          obtain⟨aea,aeb,ado⟩:=Kd.jJ bQ.out
          subst ado
          have gX:0≤(x4_1:Int):=of_decide_eq_true (by first | (with_reducible assumption) | assumption)
          have gY:x4_1<(aH.length:Int):=of_decide_eq_true (by first | (with_reducible assumption) | assumption)
          obtain⟨iq,nC,oW⟩:=Kd.bU (Kd.bP bQ.out).2.2 x4_1 gX gY
          cases nC
          replace gX:=eq_true gX
          replace gY:=eq_true gY
          go_wp2_with (first | ((with_reducible refine bT (f:=176) rfl ?_);refine fJ (some 17) rfl rfl Tryz.func176 (by kernel_rfl) rfl #[.string (bM ByteArray.empty aH x4_1), .int .u8 43] rfl (by(try simp only [List.map_toArray,List.map_cons,List.map_nil]);first | done | rfl | (simp only [List.length_drop,List.length_take];rfl)) ?_;(with_reducible refine(aU.calls k1 (bM ByteArray.empty aH x4_1) 43 false _ A6.out).mono ?_);rintro e w' ⟨rfl,⟨nd,rfl⟩⟩;refine⟨_,rfl,?_⟩;have oK:0≤(x4_1:Int):=of_decide_eq_true (by first | (with_reducible assumption) | assumption);have oL:x4_1<(aH.length:Int):=of_decide_eq_true (by first | (with_reducible assumption) | assumption);obtain⟨yQ,EY,Jf⟩:=Kd.bU (Kd.bP bQ.out).2.2 x4_1 oK oL;obtain rfl:iq=yQ:=(by injection EY);replace oK:=eq_true oK;replace oL:=eq_true oL) | (go_at_call 176;(with_reducible refine(aU.calls k1 (bM ByteArray.empty aH x4_1) 35 true _ YG.out).mono ?_);rintro e w' ⟨rfl,⟨nd,rfl⟩⟩;have uD:0≤(x4_1:Int):=of_decide_eq_true (by first | (with_reducible assumption) | assumption);have uF:x4_1<(aH.length:Int):=of_decide_eq_true (by first | (with_reducible assumption) | assumption);obtain⟨Ht,Oq,QC⟩:=Kd.bU (Kd.bP bQ.out).2.2 x4_1 uD uF;obtain rfl:iq=Ht:=(by injection Oq);replace uD:=eq_true uD;replace uF:=eq_true uF))
          go_ret
          exact⟨by first | rfl | (simp [bf,bg]<;>rfl) | (simp [*,bf,bg]<;>rfl),by repeat (first | (with_reducible first | exact HB.out | apply ak | apply aj | apply au) | exact HB.out)⟩
         ·rw [if_neg c21] at H
          have YH:decide (x4_1<(wrap64 ((aH.length:Int) - 1)))=false:=decide_eq_false c21
          clear c21
          have H':=Aside0.mk H
          clear H
          obtain⟨aec,aed,adp⟩:=Kd.jJ bQ.out
          subst adp
          have gX:0≤(x4_1:Int):=of_decide_eq_true (by first | (with_reducible assumption) | assumption)
          have gY:x4_1<(aH.length:Int):=of_decide_eq_true (by first | (with_reducible assumption) | assumption)
          obtain⟨iq,nC,oW⟩:=Kd.bU (Kd.bP bQ.out).2.2 x4_1 gX gY
          cases nC
          replace gX:=eq_true gX
          replace gY:=eq_true gY
          go_wp2_with (first | ((with_reducible refine bT (f:=176) rfl ?_);refine fJ (some 17) rfl rfl Tryz.func176 (by kernel_rfl) rfl #[.string (bM ByteArray.empty aH x4_1), .int .u8 43] rfl (by(try simp only [List.map_toArray,List.map_cons,List.map_nil]);first | done | rfl | (simp only [List.length_drop,List.length_take];rfl)) ?_;(with_reducible refine(aU.calls k1 (bM ByteArray.empty aH x4_1) 43 false _ A6.out).mono ?_);rintro e w' ⟨rfl,⟨nd,rfl⟩⟩;refine⟨_,rfl,?_⟩;have oK:0≤(x4_1:Int):=of_decide_eq_true (by first | (with_reducible assumption) | assumption);have oL:x4_1<(aH.length:Int):=of_decide_eq_true (by first | (with_reducible assumption) | assumption);obtain⟨yQ,EY,Jf⟩:=Kd.bU (Kd.bP bQ.out).2.2 x4_1 oK oL;obtain rfl:iq=yQ:=(by injection EY);replace oK:=eq_true oK;replace oL:=eq_true oL) | (go_at_call 176;(with_reducible refine(aU.calls k1 (bM ByteArray.empty aH x4_1) 35 true _ YG.out).mono ?_);rintro e w' ⟨rfl,⟨nd,rfl⟩⟩;have uD:0≤(x4_1:Int):=of_decide_eq_true (by first | (with_reducible assumption) | assumption);have uF:x4_1<(aH.length:Int):=of_decide_eq_true (by first | (with_reducible assumption) | assumption);obtain⟨Ht,Oq,QC⟩:=Kd.bU (Kd.bP bQ.out).2.2 x4_1 uD uF;obtain rfl:iq=Ht:=(by injection Oq);replace uD:=eq_true uD;replace uF:=eq_true uF))
          go_roundg k1
          case measure=>have:=nT.out;omega
          case rel=>exact⟨(wrap64 (x4_1+1)),(by first | rfl | (simp;done) | (simp [*];done)),H',⟨by have:=nT.out;omega⟩,⟨by(with_reducible repeat (first | apply Kd.dK | apply Kd.dL | apply Kd.dW));exact bQ.out⟩,⟨by repeat (first | (with_reducible first | exact HB.out | apply ak | apply aj | apply au) | exact HB.out)⟩⟩
        ·rw [if_neg c20] at H
         have aci:((bM ByteArray.empty aH x4_1).toList==([35]:List UInt8))=false:=beq_eq_false_iff_ne.mpr c20
         have acj:((bM ByteArray.empty aH x4_1).toList !=([35]:List UInt8))=true:=bne_iff_ne.mpr c20
         obtain rfl:=Option.some.inj H
         obtain⟨aee,aef,adq⟩:=Kd.jJ bQ.out
         subst adq
         have gX:0≤(x4_1:Int):=of_decide_eq_true (by first | (with_reducible assumption) | assumption)
         have gY:x4_1<(aH.length:Int):=of_decide_eq_true (by first | (with_reducible assumption) | assumption)
         obtain⟨iq,nC,oW⟩:=Kd.bU (Kd.bP bQ.out).2.2 x4_1 gX gY
         cases nC
         replace gX:=eq_true gX
         replace gY:=eq_true gY
         go_wp2_with (first | ((with_reducible refine bT (f:=176) rfl ?_);refine fJ (some 17) rfl rfl Tryz.func176 (by kernel_rfl) rfl #[.string (bM ByteArray.empty aH x4_1), .int .u8 43] rfl (by(try simp only [List.map_toArray,List.map_cons,List.map_nil]);first | done | rfl | (simp only [List.length_drop,List.length_take];rfl)) ?_;(with_reducible refine(aU.calls k1 (bM ByteArray.empty aH x4_1) 43 false _ A6.out).mono ?_);rintro e w' ⟨rfl,⟨nd,rfl⟩⟩;refine⟨_,rfl,?_⟩;have oK:0≤(x4_1:Int):=of_decide_eq_true (by first | (with_reducible assumption) | assumption);have oL:x4_1<(aH.length:Int):=of_decide_eq_true (by first | (with_reducible assumption) | assumption);obtain⟨yQ,EY,Jf⟩:=Kd.bU (Kd.bP bQ.out).2.2 x4_1 oK oL;obtain rfl:iq=yQ:=(by injection EY);replace oK:=eq_true oK;replace oL:=eq_true oL) | (go_at_call 176;(with_reducible refine(aU.calls k1 (bM ByteArray.empty aH x4_1) 35 true _ YG.out).mono ?_);rintro e w' ⟨rfl,⟨nd,rfl⟩⟩;have uD:0≤(x4_1:Int):=of_decide_eq_true (by first | (with_reducible assumption) | assumption);have uF:x4_1<(aH.length:Int):=of_decide_eq_true (by first | (with_reducible assumption) | assumption);obtain⟨Ht,Oq,QC⟩:=Kd.bU (Kd.bP bQ.out).2.2 x4_1 uD uF;obtain rfl:iq=Ht:=(by injection Oq);replace uD:=eq_true uD;replace uF:=eq_true uF))
         go_ret
         exact⟨by first | rfl | (simp [bf,bg]<;>rfl) | (simp [*,bf,bg]<;>rfl),by repeat (first | (with_reducible first | exact HB.out | apply ak | apply aj | apply au) | exact HB.out)⟩
       ·replace c19:=Bool.eq_false_iff.mpr c19
        subst c19
        have H1:(aI.l0 k1 a0 aH (wrap64 (x4_1+1)))=some r:=by rw [if_neg (show ¬(false=true) by decide)] at H;exact H
        clear H
        have H:=H1
        clear H1
        have H':=Aside0.mk H
        clear H
        obtain⟨aeg,aeh,adr⟩:=Kd.jJ bQ.out
        subst adr
        have gX:0≤(x4_1:Int):=of_decide_eq_true (by first | (with_reducible assumption) | assumption)
        have gY:x4_1<(aH.length:Int):=of_decide_eq_true (by first | (with_reducible assumption) | assumption)
        obtain⟨iq,nC,oW⟩:=Kd.bU (Kd.bP bQ.out).2.2 x4_1 gX gY
        cases nC
        replace gX:=eq_true gX
        replace gY:=eq_true gY
        go_wp2_with (first | ((with_reducible refine bT (f:=176) rfl ?_);refine fJ (some 17) rfl rfl Tryz.func176 (by kernel_rfl) rfl #[.string (bM ByteArray.empty aH x4_1), .int .u8 43] rfl (by(try simp only [List.map_toArray,List.map_cons,List.map_nil]);first | done | rfl | (simp only [List.length_drop,List.length_take];rfl)) ?_;(with_reducible refine(aU.calls k1 (bM ByteArray.empty aH x4_1) 43 false _ A6.out).mono ?_);rintro e w' ⟨rfl,⟨nd,rfl⟩⟩;refine⟨_,rfl,?_⟩;have oK:0≤(x4_1:Int):=of_decide_eq_true (by first | (with_reducible assumption) | assumption);have oL:x4_1<(aH.length:Int):=of_decide_eq_true (by first | (with_reducible assumption) | assumption);obtain⟨yQ,EY,Jf⟩:=Kd.bU (Kd.bP bQ.out).2.2 x4_1 oK oL;obtain rfl:iq=yQ:=(by injection EY);replace oK:=eq_true oK;replace oL:=eq_true oL) | (go_at_call 176;(with_reducible refine(aU.calls k1 (bM ByteArray.empty aH x4_1) 35 false _ YG.out).mono ?_);rintro e w' ⟨rfl,⟨nd,rfl⟩⟩))
        go_roundg k1
        case measure=>have:=nT.out;omega
        case rel=>exact⟨(wrap64 (x4_1+1)),(by first | rfl | (simp;done) | (simp [*];done)),H',⟨by have:=nT.out;omega⟩,⟨by(with_reducible repeat (first | apply Kd.dK | apply Kd.dL | apply Kd.dW));exact bQ.out⟩,⟨by repeat (first | (with_reducible first | exact HB.out | apply ak | apply aj | apply au) | exact HB.out)⟩⟩
     ·rw [if_neg c5] at H
      exact absurd H (by simp)
    ·rw [if_neg c4] at H
     have ny:decide (x4_1<(aH.length:Int))=false:=decide_eq_false c4
     clear c4
     replace H:=Option.bind_eq_some_iff.mp H
     obtain⟨t138,aa9,H⟩:=H
     replace H:(if t138=true then (if a0.toList=([]:List UInt8) then (some false) else (some (decide ((aH.length:Int)≤6)))) else (some false))=some r:=H
     have A26:=Aside0.mk aa9
     clear aa9
     by_cases YI:t138=true
     ·subst YI
      have H1:(if a0.toList=([]:List UInt8) then (some false) else (some (decide ((aH.length:Int)≤6))))=some r:=by rw [if_pos rfl] at H;exact H
      clear H
      have H:=H1
      clear H1
      by_cases c28:a0.toList=([]:List UInt8)
      ·rw [if_pos c28] at H
       have acn:(a0.toList==([]:List UInt8))=true:=beq_iff_eq.mpr c28
       have aco:(a0.toList !=([]:List UInt8))=false:=bne_eq_false_iff_eq.mpr c28
       clear c28
       obtain rfl:=Option.some.inj H
       obtain⟨aei,aej,ads⟩:=Kd.jJ bQ.out
       subst ads
       go_wp2_with (first | ((with_reducible refine bT (f:=177) rfl ?_);refine fJ (some 47) rfl rfl Tryz.func177 (by kernel_rfl) rfl #[.string a0] rfl (by(try simp only [List.map_toArray,List.map_cons,List.map_nil]);first | done | rfl | (simp only [List.length_drop,List.length_take];rfl)) ?_;(with_reducible refine(jq.calls k1 a0 true _ A26.out).mono ?_);rintro e w30 ⟨rfl,hb⟩;refine⟨_,rfl,?_⟩;have eX:=Aside0.mk (Kd.iG (by(with_reducible repeat (first | apply Kd.dK | apply Kd.dL | apply Kd.dW));exact bQ.out) hb);have iK:=Aside0.mk (dF (by repeat (first | (with_reducible first | exact HB.out | apply ak | apply aj | apply au) | exact HB.out)) hb);clear bQ;clear HB;have bQ:=eX;have HB:=iK;clear eX iK;(try clear hb);(try clear hb2);(try clear hk);(try clear hi)))
       go_ret
       exact⟨by first | rfl | (simp [bf,bg]<;>rfl) | (simp [*,bf,bg]<;>rfl),by repeat (first | (with_reducible first | exact HB.out | apply ak | apply aj | apply au) | exact HB.out)⟩
      ·rw [if_neg c28] at H
       have acn:(a0.toList==([]:List UInt8))=false:=beq_eq_false_iff_ne.mpr c28
       have aco:(a0.toList !=([]:List UInt8))=true:=bne_iff_ne.mpr c28
       obtain rfl:=Option.some.inj H
       obtain⟨aek,ael,adt⟩:=Kd.jJ bQ.out
       subst adt
       go_wp2_with (first | ((with_reducible refine bT (f:=177) rfl ?_);refine fJ (some 47) rfl rfl Tryz.func177 (by kernel_rfl) rfl #[.string a0] rfl (by(try simp only [List.map_toArray,List.map_cons,List.map_nil]);first | done | rfl | (simp only [List.length_drop,List.length_take];rfl)) ?_;(with_reducible refine(jq.calls k1 a0 true _ A26.out).mono ?_);rintro e w32 ⟨rfl,hb⟩;refine⟨_,rfl,?_⟩;have eX:=Aside0.mk (Kd.iG (by(with_reducible repeat (first | apply Kd.dK | apply Kd.dL | apply Kd.dW));exact bQ.out) hb);have iK:=Aside0.mk (dF (by repeat (first | (with_reducible first | exact HB.out | apply ak | apply aj | apply au) | exact HB.out)) hb);clear bQ;clear HB;have bQ:=eX;have HB:=iK;clear eX iK;(try clear hb);(try clear hb2);(try clear hk);(try clear hi)))
       go_ret
       exact⟨by first | rfl | (simp [bf,bg]<;>rfl) | (simp [*,bf,bg]<;>rfl),by repeat (first | (with_reducible first | exact HB.out | apply ak | apply aj | apply au) | exact HB.out)⟩
     ·replace YI:=Bool.eq_false_iff.mpr YI
      subst YI
      have H1:(some false)=some r:=by rw [if_neg (show ¬(false=true) by decide)] at H;exact H
      clear H
      have H:=H1
      clear H1
      obtain rfl:=Option.some.inj H
      obtain⟨aem,aen,adu⟩:=Kd.jJ bQ.out
      subst adu
      go_wp2_with (first | ((with_reducible refine bT (f:=177) rfl ?_);refine fJ (some 47) rfl rfl Tryz.func177 (by kernel_rfl) rfl #[.string a0] rfl (by(try simp only [List.map_toArray,List.map_cons,List.map_nil]);first | done | rfl | (simp only [List.length_drop,List.length_take];rfl)) ?_;(with_reducible refine(jq.calls k1 a0 false _ A26.out).mono ?_);rintro e w34 ⟨rfl,hb⟩;refine⟨_,rfl,?_⟩;have eX:=Aside0.mk (Kd.iG (by(with_reducible repeat (first | apply Kd.dK | apply Kd.dL | apply Kd.dW));exact bQ.out) hb);have iK:=Aside0.mk (dF (by repeat (first | (with_reducible first | exact HB.out | apply ak | apply aj | apply au) | exact HB.out)) hb);clear bQ;clear HB;have bQ:=eX;have HB:=iK;clear eX iK;(try clear hb);(try clear hb2);(try clear hk);(try clear hi)))
      go_ret
      exact⟨by first | rfl | (simp [bf,bg]<;>rfl) | (simp [*,bf,bg]<;>rfl),by repeat (first | (with_reducible first | exact HB.out | apply ak | apply aj | apply au) | exact HB.out)⟩
end Go.Proofs.YtcnfgfomholheaaGreatDoor.P
