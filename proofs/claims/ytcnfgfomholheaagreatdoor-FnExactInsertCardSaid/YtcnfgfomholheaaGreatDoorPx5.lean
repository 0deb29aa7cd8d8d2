import Derived.Test.YtcnfgfomholheaaGreatDoorPx0
import Derived.Test.YtcnfgfomholheaaGreatDoorPx2
import Derived.Test.YtcnfgfomholheaaGreatDoorPx3
import Derived.Test.YtcnfgfomholheaaGreatDoorX7
namespace Go.Proofs.YtcnfgfomholheaaGreatDoor.P
open Go.RowKit Go.Proofs.YtcnfgfomholheaaGreatDoor.X Go.Proofs.YtcnfgfomholheaaGreatDoorW.PrintWords Go.Proofs.YtcnfgfomholheaaGreatDoorW.PrintLast Go.Proofs.YtcnfgfomholheaaGreatDoorW.PrintMore
attribute [local go_sem] mP mQ oZ o7 lq lu mV mW
set_option linter.unusedVariables false
set_option linter.unusedSimpArgs false
def jm.f (k:Nat) (a0:ByteArray):Option (Bool):=(aK.f k a0).bind fun Jl=>(some (decide (Jl≥0)))
set_option maxHeartbeats 8000000 in
set_option maxRecDepth 100000 in
theorem jm.calls (k:Nat) (a0:ByteArray) (r:Bool) (w:World) (h:jm.f k a0=some r):
  Calls Tryz.prog 177 #[.string a0] w fun e w'=>e= .returned (.bool r)∧Below w.heap.size w w':=by
 have HB:=Aside0.mk (Below.refl w.heap.size w)
 have H:((aK.f k a0).bind fun Jl=>(some (decide (Jl≥0))))=some r:=h
 clear h
 replace H:=Option.bind_eq_some_iff.mp H
 obtain⟨Jl,vU,H⟩:=H
 replace H:(some (decide (Jl≥0)))=some r:=H
 have A2:=Aside0.mk vU
 clear vU
 obtain rfl:=Option.some.inj H
 go_enter Tryz.func177,Tryz.ntmps177
 go_wp2_with (first | ((with_reducible refine bU (f:=208) rfl ?_);refine fK (some 4) rfl rfl Tryz.func208 (by kernel_rfl) rfl #[.string a0] rfl (by(try simp only [List.map_toArray,List.map_cons,List.map_nil]);first | done | rfl | (simp only [List.length_drop,List.length_take];rfl)) ?_;(with_reducible refine(aK.calls k a0 Jl _ A2.out).mono ?_);rintro e w3 ⟨rfl,hb⟩;refine⟨_,rfl,?_⟩;have eP:=Aside0.mk (dG (by repeat (first | (with_reducible first | exact HB.out | apply ak | apply aj | apply au) | exact HB.out)) hb);clear HB;have HB:=eP;clear eP;(try clear hb);(try clear hb2);(try clear hk);(try clear hi)))
 go_ret
 exact⟨by first | rfl | (simp [bC,bD]<;>rfl) | (simp [*,bC,bD]<;>rfl),by repeat (first | (with_reducible first | exact HB.out | apply ak | apply aj | apply au) | exact HB.out)⟩
def aJ.l0:Nat→ByteArray→List ByteArray→Int→Option (Bool)
 | 0,_,_,_=>none
 | k+1,x0,x3,x4=>if x4<(x3.length:Int) then (if 0≤x4 then ((aV.f k (bP ByteArray.empty x3 x4) 43).bind fun Ur=>(if Ur=true then (if (bP ByteArray.empty x3 x4).toList=([43]:List UInt8) then ((aV.f k (bP ByteArray.empty x3 x4) 35).bind fun t143=>(if t143=true then (if (bP ByteArray.empty x3 x4).toList=([35]:List UInt8) then (if x4<(wrap64 ((x3.length:Int) - 1)) then (some false) else (aJ.l0 k x0 x3 (wrap64 (x4+1)))) else (some false)) else (aJ.l0 k x0 x3 (wrap64 (x4+1))))) else (some false)) else ((aV.f k (bP ByteArray.empty x3 x4) 35).bind fun t146=>(if t146=true then (if (bP ByteArray.empty x3 x4).toList=([35]:List UInt8) then (if x4<(wrap64 ((x3.length:Int) - 1)) then (some false) else (aJ.l0 k x0 x3 (wrap64 (x4+1)))) else (some false)) else (aJ.l0 k x0 x3 (wrap64 (x4+1))))))) else (none)) else ((jm.f k x0).bind fun t138=>(if t138=true then (if x0.toList=([]:List UInt8) then (some false) else (some (decide ((x3.length:Int)≤6)))) else (some false)))
def aJ.f (k:Nat) (a0:ByteArray):Option (Bool):=(bZ.f k a0).bind fun aI=>(aJ.l0 k a0 aI 0)
set_option maxHeartbeats 8000000 in
set_option maxRecDepth 100000 in
theorem aJ.calls (k:Nat) (a0:ByteArray) (r:Bool) (w:World) (h:aJ.f k a0=some r):
  Calls Tryz.prog 106 #[.string a0] w fun e w'=>e= .returned (.bool r)∧Below w.heap.size w w':=by
 have HB:=Aside0.mk (Below.refl w.heap.size w)
 have H:((bZ.f k a0).bind fun aI=>(aJ.l0 k a0 aI 0))=some r:=h
 clear h
 replace H:=Option.bind_eq_some_iff.mp H
 obtain⟨aI,vU,H⟩:=H
 replace H:(aJ.l0 k a0 aI 0)=some r:=H
 have A2:=Aside0.mk vU
 clear vU
 have H':=Aside0.mk H
 clear H
 go_enter Tryz.func106,Tryz.ntmps106
 go_wp2_with (first | ((with_reducible refine bU (f:=108) rfl ?_);refine fK (some 6) rfl rfl Tryz.func108 (by kernel_rfl) rfl #[.string a0] rfl (by(try simp only [List.map_toArray,List.map_cons,List.map_nil]);first | done | rfl | (simp only [List.length_drop,List.length_take];rfl)) ?_;(with_reducible refine(bZ.calls k a0 aI _ A2.out).mono ?_);rintro e w3 ⟨adQ,rfl,ho0,hb⟩;refine⟨_,rfl,?_⟩;have eP:=Aside0.mk (Kd.wS ho0 (nN (by repeat (first | (with_reducible first | exact HB.out | apply ak | apply aj | apply au) | exact HB.out))));have iO:=Aside0.mk (dG (by repeat (first | (with_reducible first | exact HB.out | apply ak | apply aj | apply au) | exact HB.out)) hb);clear HB;have acV:=eP;have HB:=iO;clear eP iO;(try clear hb);(try clear hb2);(try clear hk);(try clear hi);(try clear ho0)))
 go_loopg [4] k (fun kq v4 w'=>∃(x4_1:Int),v4= .int .i64 x4_1∧Aside0 (aJ.l0 kq a0 aI x4_1=some r)∧Aside0 (kq≤k)∧Aside0 (Kd.R Kd.string 9 w' w.heap.size (fun _=>True) adQ aI)∧Aside0 (Below w.heap.size w w'))
 case atStart=>exact⟨(0),(by first | rfl | (simp;done) | (simp [*];done)),H',⟨Nat.le_refl _⟩,⟨by(with_reducible repeat (first | apply Kd.dK | apply Kd.dL | apply Kd.dX));exact acV.out⟩,⟨by repeat (first | (with_reducible first | exact HB.out | apply ak | apply aj | apply au) | exact HB.out)⟩⟩
 case round=>
  clear H'
  try clear c1
  try clear p2
  obtain⟨x4_1,rfl,HA,ou,bQ,HB⟩:=hrel
  cases gk with
  | zero=>exact absurd HA.out (by simp [aJ.l0])
  | succ k1=>
    have H:=HA.out
    clear HA
    simp only [aJ.l0] at H
    by_cases c4:x4_1<(aI.length:Int)
    ·rw [if_pos c4] at H
     have nG:decide (x4_1<(aI.length:Int))=true:=decide_eq_true c4
     clear c4
     by_cases c5:0≤x4_1
     ·rw [if_pos c5] at H
      have Jh:decide (0≤x4_1)=true:=decide_eq_true c5
      clear c5
      replace H:=Option.bind_eq_some_iff.mp H
      obtain⟨Ur,A60,H⟩:=H
      replace H:(if Ur=true then (if (bP ByteArray.empty aI x4_1).toList=([43]:List UInt8) then ((aV.f k1 (bP ByteArray.empty aI x4_1) 35).bind fun t143=>(if t143=true then (if (bP ByteArray.empty aI x4_1).toList=([35]:List UInt8) then (if x4_1<(wrap64 ((aI.length:Int) - 1)) then (some false) else (aJ.l0 k1 a0 aI (wrap64 (x4_1+1)))) else (some false)) else (aJ.l0 k1 a0 aI (wrap64 (x4_1+1))))) else (some false)) else ((aV.f k1 (bP ByteArray.empty aI x4_1) 35).bind fun t146=>(if t146=true then (if (bP ByteArray.empty aI x4_1).toList=([35]:List UInt8) then (if x4_1<(wrap64 ((aI.length:Int) - 1)) then (some false) else (aJ.l0 k1 a0 aI (wrap64 (x4_1+1)))) else (some false)) else (aJ.l0 k1 a0 aI (wrap64 (x4_1+1))))))=some r:=H
      have A6:=Aside0.mk A60
      clear A60
      by_cases c7:Ur=true
      ·subst c7
       have H1:(if (bP ByteArray.empty aI x4_1).toList=([43]:List UInt8) then ((aV.f k1 (bP ByteArray.empty aI x4_1) 35).bind fun t143=>(if t143=true then (if (bP ByteArray.empty aI x4_1).toList=([35]:List UInt8) then (if x4_1<(wrap64 ((aI.length:Int) - 1)) then (some false) else (aJ.l0 k1 a0 aI (wrap64 (x4_1+1)))) else (some false)) else (aJ.l0 k1 a0 aI (wrap64 (x4_1+1))))) else (some false))=some r:=by rw [if_pos rfl] at H;exact H
       clear H
       have H:=H1
       clear H1
       by_cases c8:(bP ByteArray.empty aI x4_1).toList=([43]:List UInt8)
       ·rw [if_pos c8] at H
        have BM:((bP ByteArray.empty aI x4_1).toList==([43]:List UInt8))=true:=beq_iff_eq.mpr c8
        have adR:((bP ByteArray.empty aI x4_1).toList !=([43]:List UInt8))=false:=bne_eq_false_iff_eq.mpr c8
        clear c8
        replace H:=Option.bind_eq_some_iff.mp H
        obtain⟨t143,A90,H⟩:=H
        replace H:(if t143=true then (if (bP ByteArray.empty aI x4_1).toList=([35]:List UInt8) then (if x4_1<(wrap64 ((aI.length:Int) - 1)) then (some false) else (aJ.l0 k1 a0 aI (wrap64 (x4_1+1)))) else (some false)) else (aJ.l0 k1 a0 aI (wrap64 (x4_1+1))))=some r:=H
        have A9:=Aside0.mk A90
        clear A90
        by_cases c10:t143=true
        ·subst c10
         have H1:(if (bP ByteArray.empty aI x4_1).toList=([35]:List UInt8) then (if x4_1<(wrap64 ((aI.length:Int) - 1)) then (some false) else (aJ.l0 k1 a0 aI (wrap64 (x4_1+1)))) else (some false))=some r:=by rw [if_pos rfl] at H;exact H
         clear H
         have H:=H1
         clear H1
         by_cases c11:(bP ByteArray.empty aI x4_1).toList=([35]:List UInt8)
         ·rw [if_pos c11] at H
          have oI:((bP ByteArray.empty aI x4_1).toList==([35]:List UInt8))=true:=beq_iff_eq.mpr c11
          have acW:((bP ByteArray.empty aI x4_1).toList !=([35]:List UInt8))=false:=bne_eq_false_iff_eq.mpr c11
          clear c11
          by_cases c12:x4_1<(wrap64 ((aI.length:Int) - 1))
          ·rw [if_pos c12] at H
           have Zh:decide (x4_1<(wrap64 ((aI.length:Int) - 1)))=true:=decide_eq_true c12
           clear c12
           obtain rfl:=Option.some.inj H
           obtain⟨aeB,aeC,adS⟩:=Kd.jJ bQ.out
           subst adS
           have gX:0≤(x4_1:Int):=of_decide_eq_true (by first | (with_reducible assumption) | assumption)
           have gY:x4_1<(aI.length:Int):=of_decide_eq_true (by first | (with_reducible assumption) | assumption)
           obtain⟨iw,nH,pG⟩:=Kd.bV (Kd.aY bQ.out).2.2 x4_1 gX gY
           cases nH
           replace gX:=eq_true gX
           replace gY:=eq_true gY
           go_wp2_with (first | ((with_reducible refine bU (f:=176) rfl ?_);refine fK (some 17) rfl rfl Tryz.func176 (by kernel_rfl) rfl #[.string (bP ByteArray.empty aI x4_1), .int .u8 43] rfl (by(try simp only [List.map_toArray,List.map_cons,List.map_nil]);first | done | rfl | (simp only [List.length_drop,List.length_take];rfl)) ?_;(with_reducible refine(aV.calls k1 (bP ByteArray.empty aI x4_1) 43 true _ A6.out).mono ?_);rintro e w' ⟨rfl,⟨nd,rfl⟩⟩;refine⟨_,rfl,?_⟩;have lQ:0≤(x4_1:Int):=of_decide_eq_true (by first | (with_reducible assumption) | assumption);have lS:x4_1<(aI.length:Int):=of_decide_eq_true (by first | (with_reducible assumption) | assumption);obtain⟨sH,yX,DF⟩:=Kd.bV (Kd.aY bQ.out).2.2 x4_1 lQ lS;obtain rfl:iw=sH:=(by injection yX);replace lQ:=eq_true lQ;replace lS:=eq_true lS;have oQ:0≤(x4_1:Int):=of_decide_eq_true (by first | (with_reducible assumption) | assumption);have oU:x4_1<(aI.length:Int):=of_decide_eq_true (by first | (with_reducible assumption) | assumption);obtain⟨yY,Fg,Jm⟩:=Kd.bV (Kd.aY bQ.out).2.2 x4_1 oQ oU;obtain rfl:iw=yY:=(by injection Fg);replace oQ:=eq_true oQ;replace oU:=eq_true oU) | (go_at_call 176;(with_reducible refine(aV.calls k1 (bP ByteArray.empty aI x4_1) 35 true _ A9.out).mono ?_);rintro e w' ⟨rfl,⟨nd,rfl⟩⟩;have uH:0≤(x4_1:Int):=of_decide_eq_true (by first | (with_reducible assumption) | assumption);have uI:x4_1<(aI.length:Int):=of_decide_eq_true (by first | (with_reducible assumption) | assumption);obtain⟨H6,OW,Ri⟩:=Kd.bV (Kd.aY bQ.out).2.2 x4_1 uH uI;obtain rfl:iw=H6:=(by injection OW);replace uH:=eq_true uH;replace uI:=eq_true uI))
           go_ret
           exact⟨by first | rfl | (simp [bC,bD]<;>rfl) | (simp [*,bC,bD]<;>rfl),by repeat (first | (with_reducible first | exact HB.out | apply ak | apply aj | apply au) | exact HB.out)⟩
          ·rw [if_neg c12] at H
           have Zh:decide (x4_1<(wrap64 ((aI.length:Int) - 1)))=false:=decide_eq_false c12
           clear c12
           have H':=Aside0.mk H
           clear H
           obtain⟨aeD,aeE,adT⟩:=Kd.jJ bQ.out
           subst adT
           have gX:0≤(x4_1:Int):=of_decide_eq_true (by first | (with_reducible assumption) | assumption)
           have gY:x4_1<(aI.length:Int):=of_decide_eq_true (by first | (with_reducible assumption) | assumption)
           obtain⟨iw,nH,pG⟩:=Kd.bV (Kd.aY bQ.out).2.2 x4_1 gX gY
           cases nH
           replace gX:=eq_true gX
           replace gY:=eq_true gY
           go_wp2_with (first | ((with_reducible refine bU (f:=176) rfl ?_);refine fK (some 17) rfl rfl Tryz.func176 (by kernel_rfl) rfl #[.string (bP ByteArray.empty aI x4_1), .int .u8 43] rfl (by(try simp only [List.map_toArray,List.map_cons,List.map_nil]);first | done | rfl | (simp only [List.length_drop,List.length_take];rfl)) ?_;(with_reducible refine(aV.calls k1 (bP ByteArray.empty aI x4_1) 43 true _ A6.out).mono ?_);rintro e w' ⟨rfl,⟨nd,rfl⟩⟩;refine⟨_,rfl,?_⟩;have lQ:0≤(x4_1:Int):=of_decide_eq_true (by first | (with_reducible assumption) | assumption);have lS:x4_1<(aI.length:Int):=of_decide_eq_true (by first | (with_reducible assumption) | assumption);obtain⟨sH,yX,DF⟩:=Kd.bV (Kd.aY bQ.out).2.2 x4_1 lQ lS;obtain rfl:iw=sH:=(by injection yX);replace lQ:=eq_true lQ;replace lS:=eq_true lS;have oQ:0≤(x4_1:Int):=of_decide_eq_true (by first | (with_reducible assumption) | assumption);have oU:x4_1<(aI.length:Int):=of_decide_eq_true (by first | (with_reducible assumption) | assumption);obtain⟨yY,Fg,Jm⟩:=Kd.bV (Kd.aY bQ.out).2.2 x4_1 oQ oU;obtain rfl:iw=yY:=(by injection Fg);replace oQ:=eq_true oQ;replace oU:=eq_true oU) | (go_at_call 176;(with_reducible refine(aV.calls k1 (bP ByteArray.empty aI x4_1) 35 true _ A9.out).mono ?_);rintro e w' ⟨rfl,⟨nd,rfl⟩⟩;have uH:0≤(x4_1:Int):=of_decide_eq_true (by first | (with_reducible assumption) | assumption);have uI:x4_1<(aI.length:Int):=of_decide_eq_true (by first | (with_reducible assumption) | assumption);obtain⟨H6,OW,Ri⟩:=Kd.bV (Kd.aY bQ.out).2.2 x4_1 uH uI;obtain rfl:iw=H6:=(by injection OW);replace uH:=eq_true uH;replace uI:=eq_true uI))
           go_roundg k1
           case measure=>have:=ou.out;omega
           case rel=>exact⟨(wrap64 (x4_1+1)),(by first | rfl | (simp;done) | (simp [*];done)),H',⟨by have:=ou.out;omega⟩,⟨by(with_reducible repeat (first | apply Kd.dK | apply Kd.dL | apply Kd.dX));exact bQ.out⟩,⟨by repeat (first | (with_reducible first | exact HB.out | apply ak | apply aj | apply au) | exact HB.out)⟩⟩
         ·rw [if_neg c11] at H
          have oI:((bP ByteArray.empty aI x4_1).toList==([35]:List UInt8))=false:=beq_eq_false_iff_ne.mpr c11
          have acW:((bP ByteArray.empty aI x4_1).toList !=([35]:List UInt8))=true:=bne_iff_ne.mpr c11
          obtain rfl:=Option.some.inj H
          obtain⟨aeF,aeG,adU⟩:=Kd.jJ bQ.out
          subst adU
          have gX:0≤(x4_1:Int):=of_decide_eq_true (by first | (with_reducible assumption) | assumption)
          have gY:x4_1<(aI.length:Int):=of_decide_eq_true (by first | (with_reducible assumption) | assumption)
          obtain⟨iw,nH,pG⟩:=Kd.bV (Kd.aY bQ.out).2.2 x4_1 gX gY
          cases nH
          replace gX:=eq_true gX
          replace gY:=eq_true gY
          go_wp2_with (first | ((with_reducible refine bU (f:=176) rfl ?_);refine fK (some 17) rfl rfl Tryz.func176 (by kernel_rfl) rfl #[.string (bP ByteArray.empty aI x4_1), .int .u8 43] rfl (by(try simp only [List.map_toArray,List.map_cons,List.map_nil]);first | done | rfl | (simp only [List.length_drop,List.length_take];rfl)) ?_;(with_reducible refine(aV.calls k1 (bP ByteArray.empty aI x4_1) 43 true _ A6.out).mono ?_);rintro e w' ⟨rfl,⟨nd,rfl⟩⟩;refine⟨_,rfl,?_⟩;have lQ:0≤(x4_1:Int):=of_decide_eq_true (by first | (with_reducible assumption) | assumption);have lS:x4_1<(aI.length:Int):=of_decide_eq_true (by first | (with_reducible assumption) | assumption);obtain⟨sH,yX,DF⟩:=Kd.bV (Kd.aY bQ.out).2.2 x4_1 lQ lS;obtain rfl:iw=sH:=(by injection yX);replace lQ:=eq_true lQ;replace lS:=eq_true lS;have oQ:0≤(x4_1:Int):=of_decide_eq_true (by first | (with_reducible assumption) | assumption);have oU:x4_1<(aI.length:Int):=of_decide_eq_true (by first | (with_reducible assumption) | assumption);obtain⟨yY,Fg,Jm⟩:=Kd.bV (Kd.aY bQ.out).2.2 x4_1 oQ oU;obtain rfl:iw=yY:=(by injection Fg);replace oQ:=eq_true oQ;replace oU:=eq_true oU) | (go_at_call 176;(with_reducible refine(aV.calls k1 (bP ByteArray.empty aI x4_1) 35 true _ A9.out).mono ?_);rintro e w' ⟨rfl,⟨nd,rfl⟩⟩;have uH:0≤(x4_1:Int):=of_decide_eq_true (by first | (with_reducible assumption) | assumption);have uI:x4_1<(aI.length:Int):=of_decide_eq_true (by first | (with_reducible assumption) | assumption);obtain⟨H6,OW,Ri⟩:=Kd.bV (Kd.aY bQ.out).2.2 x4_1 uH uI;obtain rfl:iw=H6:=(by injection OW);replace uH:=eq_true uH;replace uI:=eq_true uI))
          go_ret
          exact⟨by first | rfl | (simp [bC,bD]<;>rfl) | (simp [*,bC,bD]<;>rfl),by repeat (first | (with_reducible first | exact HB.out | apply ak | apply aj | apply au) | exact HB.out)⟩
        ·replace c10:=Bool.eq_false_iff.mpr c10
         subst c10
         have H1:(aJ.l0 k1 a0 aI (wrap64 (x4_1+1)))=some r:=by rw [if_neg (show ¬(false=true) by decide)] at H;exact H
         clear H
         have H:=H1
         clear H1
         have H':=Aside0.mk H
         clear H
         obtain⟨aeH,aeI,adV⟩:=Kd.jJ bQ.out
         subst adV
         have gX:0≤(x4_1:Int):=of_decide_eq_true (by first | (with_reducible assumption) | assumption)
         have gY:x4_1<(aI.length:Int):=of_decide_eq_true (by first | (with_reducible assumption) | assumption)
         obtain⟨iw,nH,pG⟩:=Kd.bV (Kd.aY bQ.out).2.2 x4_1 gX gY
         cases nH
         replace gX:=eq_true gX
         replace gY:=eq_true gY
         go_wp2_with (first | ((with_reducible refine bU (f:=176) rfl ?_);refine fK (some 17) rfl rfl Tryz.func176 (by kernel_rfl) rfl #[.string (bP ByteArray.empty aI x4_1), .int .u8 43] rfl (by(try simp only [List.map_toArray,List.map_cons,List.map_nil]);first | done | rfl | (simp only [List.length_drop,List.length_take];rfl)) ?_;(with_reducible refine(aV.calls k1 (bP ByteArray.empty aI x4_1) 43 true _ A6.out).mono ?_);rintro e w' ⟨rfl,⟨nd,rfl⟩⟩;refine⟨_,rfl,?_⟩;have lQ:0≤(x4_1:Int):=of_decide_eq_true (by first | (with_reducible assumption) | assumption);have lS:x4_1<(aI.length:Int):=of_decide_eq_true (by first | (with_reducible assumption) | assumption);obtain⟨sH,yX,DF⟩:=Kd.bV (Kd.aY bQ.out).2.2 x4_1 lQ lS;obtain rfl:iw=sH:=(by injection yX);replace lQ:=eq_true lQ;replace lS:=eq_true lS;have oQ:0≤(x4_1:Int):=of_decide_eq_true (by first | (with_reducible assumption) | assumption);have oU:x4_1<(aI.length:Int):=of_decide_eq_true (by first | (with_reducible assumption) | assumption);obtain⟨yY,Fg,Jm⟩:=Kd.bV (Kd.aY bQ.out).2.2 x4_1 oQ oU;obtain rfl:iw=yY:=(by injection Fg);replace oQ:=eq_true oQ;replace oU:=eq_true oU) | (go_at_call 176;(with_reducible refine(aV.calls k1 (bP ByteArray.empty aI x4_1) 35 false _ A9.out).mono ?_);rintro e w' ⟨rfl,⟨nd,rfl⟩⟩))
         go_roundg k1
         case measure=>have:=ou.out;omega
         case rel=>exact⟨(wrap64 (x4_1+1)),(by first | rfl | (simp;done) | (simp [*];done)),H',⟨by have:=ou.out;omega⟩,⟨by(with_reducible repeat (first | apply Kd.dK | apply Kd.dL | apply Kd.dX));exact bQ.out⟩,⟨by repeat (first | (with_reducible first | exact HB.out | apply ak | apply aj | apply au) | exact HB.out)⟩⟩
       ·rw [if_neg c8] at H
        have BM:((bP ByteArray.empty aI x4_1).toList==([43]:List UInt8))=false:=beq_eq_false_iff_ne.mpr c8
        have adR:((bP ByteArray.empty aI x4_1).toList !=([43]:List UInt8))=true:=bne_iff_ne.mpr c8
        obtain rfl:=Option.some.inj H
        obtain⟨aeJ,aeK,adW⟩:=Kd.jJ bQ.out
        subst adW
        have gX:0≤(x4_1:Int):=of_decide_eq_true (by first | (with_reducible assumption) | assumption)
        have gY:x4_1<(aI.length:Int):=of_decide_eq_true (by first | (with_reducible assumption) | assumption)
        obtain⟨iw,nH,pG⟩:=Kd.bV (Kd.aY bQ.out).2.2 x4_1 gX gY
        cases nH
        replace gX:=eq_true gX
        replace gY:=eq_true gY
        go_wp2_with (first | ((with_reducible refine bU (f:=176) rfl ?_);refine fK (some 17) rfl rfl Tryz.func176 (by kernel_rfl) rfl #[.string (bP ByteArray.empty aI x4_1), .int .u8 43] rfl (by(try simp only [List.map_toArray,List.map_cons,List.map_nil]);first | done | rfl | (simp only [List.length_drop,List.length_take];rfl)) ?_;(with_reducible refine(aV.calls k1 (bP ByteArray.empty aI x4_1) 43 true _ A6.out).mono ?_);rintro e w' ⟨rfl,⟨nd,rfl⟩⟩;refine⟨_,rfl,?_⟩;have lQ:0≤(x4_1:Int):=of_decide_eq_true (by first | (with_reducible assumption) | assumption);have lS:x4_1<(aI.length:Int):=of_decide_eq_true (by first | (with_reducible assumption) | assumption);obtain⟨sH,yX,DF⟩:=Kd.bV (Kd.aY bQ.out).2.2 x4_1 lQ lS;obtain rfl:iw=sH:=(by injection yX);replace lQ:=eq_true lQ;replace lS:=eq_true lS))
        go_ret
        exact⟨by first | rfl | (simp [bC,bD]<;>rfl) | (simp [*,bC,bD]<;>rfl),by repeat (first | (with_reducible first | exact HB.out | apply ak | apply aj | apply au) | exact HB.out)⟩
      ·replace c7:=Bool.eq_false_iff.mpr c7
       subst c7
       have H1:((aV.f k1 (bP ByteArray.empty aI x4_1) 35).bind fun t146=>(if t146=true then (if (bP ByteArray.empty aI x4_1).toList=([35]:List UInt8) then (if x4_1<(wrap64 ((aI.length:Int) - 1)) then (some false) else (aJ.l0 k1 a0 aI (wrap64 (x4_1+1)))) else (some false)) else (aJ.l0 k1 a0 aI (wrap64 (x4_1+1)))))=some r:=by rw [if_neg (show ¬(false=true) by decide)] at H;exact H
       clear H
       have H:=H1
       clear H1
       replace H:=Option.bind_eq_some_iff.mp H
       obtain⟨t146,abU,H⟩:=H
       replace H:(if t146=true then (if (bP ByteArray.empty aI x4_1).toList=([35]:List UInt8) then (if x4_1<(wrap64 ((aI.length:Int) - 1)) then (some false) else (aJ.l0 k1 a0 aI (wrap64 (x4_1+1)))) else (some false)) else (aJ.l0 k1 a0 aI (wrap64 (x4_1+1))))=some r:=H
       have Zi:=Aside0.mk abU
       clear abU
       by_cases c19:t146=true
       ·subst c19
        have H1:(if (bP ByteArray.empty aI x4_1).toList=([35]:List UInt8) then (if x4_1<(wrap64 ((aI.length:Int) - 1)) then (some false) else (aJ.l0 k1 a0 aI (wrap64 (x4_1+1)))) else (some false))=some r:=by rw [if_pos rfl] at H;exact H
        clear H
        have H:=H1
        clear H1
        by_cases c20:(bP ByteArray.empty aI x4_1).toList=([35]:List UInt8)
        ·rw [if_pos c20] at H
         have acX:((bP ByteArray.empty aI x4_1).toList==([35]:List UInt8))=true:=beq_iff_eq.mpr c20
         have acY:((bP ByteArray.empty aI x4_1).toList !=([35]:List UInt8))=false:=bne_eq_false_iff_eq.mpr c20
         clear c20
         by_cases c21:x4_1<(wrap64 ((aI.length:Int) - 1))
         ·rw [if_pos c21] at H
          have Zj:decide (x4_1<(wrap64 ((aI.length:Int) - 1)))=true:=decide_eq_true c21
          clear c21
          obtain rfl:=Option.some.inj H
          obtain⟨aeL,aeM,adX⟩:=Kd.jJ bQ.out
          subst adX
          have gX:0≤(x4_1:Int):=of_decide_eq_true (by first | (with_reducible assumption) | assumption)
          have gY:x4_1<(aI.length:Int):=of_decide_eq_true (by first | (with_reducible assumption) | assumption)
          obtain⟨iw,nH,pG⟩:=Kd.bV (Kd.aY bQ.out).2.2 x4_1 gX gY
          cases nH
          replace gX:=eq_true gX
          replace gY:=eq_true gY
          go_wp2_with (first | ((with_reducible refine bU (f:=176) rfl ?_);refine fK (some 17) rfl rfl Tryz.func176 (by kernel_rfl) rfl #[.string (bP ByteArray.empty aI x4_1), .int .u8 43] rfl (by(try simp only [List.map_toArray,List.map_cons,List.map_nil]);first | done | rfl | (simp only [List.length_drop,List.length_take];rfl)) ?_;(with_reducible refine(aV.calls k1 (bP ByteArray.empty aI x4_1) 43 false _ A6.out).mono ?_);rintro e w' ⟨rfl,⟨nd,rfl⟩⟩;refine⟨_,rfl,?_⟩;have oV:0≤(x4_1:Int):=of_decide_eq_true (by first | (with_reducible assumption) | assumption);have oW:x4_1<(aI.length:Int):=of_decide_eq_true (by first | (with_reducible assumption) | assumption);obtain⟨yZ,Fh,Jo⟩:=Kd.bV (Kd.aY bQ.out).2.2 x4_1 oV oW;obtain rfl:iw=yZ:=(by injection Fh);replace oV:=eq_true oV;replace oW:=eq_true oW) | (go_at_call 176;(with_reducible refine(aV.calls k1 (bP ByteArray.empty aI x4_1) 35 true _ Zi.out).mono ?_);rintro e w' ⟨rfl,⟨nd,rfl⟩⟩;have uJ:0≤(x4_1:Int):=of_decide_eq_true (by first | (with_reducible assumption) | assumption);have uK:x4_1<(aI.length:Int):=of_decide_eq_true (by first | (with_reducible assumption) | assumption);obtain⟨H7,OX,Rj⟩:=Kd.bV (Kd.aY bQ.out).2.2 x4_1 uJ uK;obtain rfl:iw=H7:=(by injection OX);replace uJ:=eq_true uJ;replace uK:=eq_true uK))
          go_ret
          exact⟨by first | rfl | (simp [bC,bD]<;>rfl) | (simp [*,bC,bD]<;>rfl),by repeat (first | (with_reducible first | exact HB.out | apply ak | apply aj | apply au) | exact HB.out)⟩
         ·rw [if_neg c21] at H
          have Zj:decide (x4_1<(wrap64 ((aI.length:Int) - 1)))=false:=decide_eq_false c21
          clear c21
          have H':=Aside0.mk H
          clear H
          obtain⟨aeN,aeO,adY⟩:=Kd.jJ bQ.out
          subst adY
          have gX:0≤(x4_1:Int):=of_decide_eq_true (by first | (with_reducible assumption) | assumption)
          have gY:x4_1<(aI.length:Int):=of_decide_eq_true (by first | (with_reducible assumption) | assumption)
          obtain⟨iw,nH,pG⟩:=Kd.bV (Kd.aY bQ.out).2.2 x4_1 gX gY
          cases nH
          replace gX:=eq_true gX
          replace gY:=eq_true gY
          go_wp2_with (first | ((with_reducible refine bU (f:=176) rfl ?_);refine fK (some 17) rfl rfl Tryz.func176 (by kernel_rfl) rfl #[.string (bP ByteArray.empty aI x4_1), .int .u8 43] rfl (by(try simp only [List.map_toArray,List.map_cons,List.map_nil]);first | done | rfl | (simp only [List.length_drop,List.length_take];rfl)) ?_;(with_reducible refine(aV.calls k1 (bP ByteArray.empty aI x4_1) 43 false _ A6.out).mono ?_);rintro e w' ⟨rfl,⟨nd,rfl⟩⟩;refine⟨_,rfl,?_⟩;have oV:0≤(x4_1:Int):=of_decide_eq_true (by first | (with_reducible assumption) | assumption);have oW:x4_1<(aI.length:Int):=of_decide_eq_true (by first | (with_reducible assumption) | assumption);obtain⟨yZ,Fh,Jo⟩:=Kd.bV (Kd.aY bQ.out).2.2 x4_1 oV oW;obtain rfl:iw=yZ:=(by injection Fh);replace oV:=eq_true oV;replace oW:=eq_true oW) | (go_at_call 176;(with_reducible refine(aV.calls k1 (bP ByteArray.empty aI x4_1) 35 true _ Zi.out).mono ?_);rintro e w' ⟨rfl,⟨nd,rfl⟩⟩;have uJ:0≤(x4_1:Int):=of_decide_eq_true (by first | (with_reducible assumption) | assumption);have uK:x4_1<(aI.length:Int):=of_decide_eq_true (by first | (with_reducible assumption) | assumption);obtain⟨H7,OX,Rj⟩:=Kd.bV (Kd.aY bQ.out).2.2 x4_1 uJ uK;obtain rfl:iw=H7:=(by injection OX);replace uJ:=eq_true uJ;replace uK:=eq_true uK))
          go_roundg k1
          case measure=>have:=ou.out;omega
          case rel=>exact⟨(wrap64 (x4_1+1)),(by first | rfl | (simp;done) | (simp [*];done)),H',⟨by have:=ou.out;omega⟩,⟨by(with_reducible repeat (first | apply Kd.dK | apply Kd.dL | apply Kd.dX));exact bQ.out⟩,⟨by repeat (first | (with_reducible first | exact HB.out | apply ak | apply aj | apply au) | exact HB.out)⟩⟩
        ·rw [if_neg c20] at H
         have acX:((bP ByteArray.empty aI x4_1).toList==([35]:List UInt8))=false:=beq_eq_false_iff_ne.mpr c20
         have acY:((bP ByteArray.empty aI x4_1).toList !=([35]:List UInt8))=true:=bne_iff_ne.mpr c20
         obtain rfl:=Option.some.inj H
         obtain⟨aeP,aeQ,adZ⟩:=Kd.jJ bQ.out
         subst adZ
         have gX:0≤(x4_1:Int):=of_decide_eq_true (by first | (with_reducible assumption) | assumption)
         have gY:x4_1<(aI.length:Int):=of_decide_eq_true (by first | (with_reducible assumption) | assumption)
         obtain⟨iw,nH,pG⟩:=Kd.bV (Kd.aY bQ.out).2.2 x4_1 gX gY
         cases nH
         replace gX:=eq_true gX
         replace gY:=eq_true gY
         go_wp2_with (first | ((with_reducible refine bU (f:=176) rfl ?_);refine fK (some 17) rfl rfl Tryz.func176 (by kernel_rfl) rfl #[.string (bP ByteArray.empty aI x4_1), .int .u8 43] rfl (by(try simp only [List.map_toArray,List.map_cons,List.map_nil]);first | done | rfl | (simp only [List.length_drop,List.length_take];rfl)) ?_;(with_reducible refine(aV.calls k1 (bP ByteArray.empty aI x4_1) 43 false _ A6.out).mono ?_);rintro e w' ⟨rfl,⟨nd,rfl⟩⟩;refine⟨_,rfl,?_⟩;have oV:0≤(x4_1:Int):=of_decide_eq_true (by first | (with_reducible assumption) | assumption);have oW:x4_1<(aI.length:Int):=of_decide_eq_true (by first | (with_reducible assumption) | assumption);obtain⟨yZ,Fh,Jo⟩:=Kd.bV (Kd.aY bQ.out).2.2 x4_1 oV oW;obtain rfl:iw=yZ:=(by injection Fh);replace oV:=eq_true oV;replace oW:=eq_true oW) | (go_at_call 176;(with_reducible refine(aV.calls k1 (bP ByteArray.empty aI x4_1) 35 true _ Zi.out).mono ?_);rintro e w' ⟨rfl,⟨nd,rfl⟩⟩;have uJ:0≤(x4_1:Int):=of_decide_eq_true (by first | (with_reducible assumption) | assumption);have uK:x4_1<(aI.length:Int):=of_decide_eq_true (by first | (with_reducible assumption) | assumption);obtain⟨H7,OX,Rj⟩:=Kd.bV (Kd.aY bQ.out).2.2 x4_1 uJ uK;obtain rfl:iw=H7:=(by injection OX);replace uJ:=eq_true uJ;replace uK:=eq_true uK))
         go_ret
         exact⟨by first | rfl | (simp [bC,bD]<;>rfl) | (simp [*,bC,bD]<;>rfl),by repeat (first | (with_reducible first | exact HB.out | apply ak | apply aj | apply au) | exact HB.out)⟩
       ·replace c19:=Bool.eq_false_iff.mpr c19
        subst c19
        have H1:(aJ.l0 k1 a0 aI (wrap64 (x4_1+1)))=some r:=by rw [if_neg (show ¬(false=true) by decide)] at H;exact H
        clear H
        have H:=H1
        clear H1
        have H':=Aside0.mk H
        clear H
        obtain⟨aeR,aeS,ad1⟩:=Kd.jJ bQ.out
        subst ad1
        have gX:0≤(x4_1:Int):=of_decide_eq_true (by first | (with_reducible assumption) | assumption)
        have gY:x4_1<(aI.length:Int):=of_decide_eq_true (by first | (with_reducible assumption) | assumption)
        obtain⟨iw,nH,pG⟩:=Kd.bV (Kd.aY bQ.out).2.2 x4_1 gX gY
        cases nH
        replace gX:=eq_true gX
        replace gY:=eq_true gY
        go_wp2_with (first | ((with_reducible refine bU (f:=176) rfl ?_);refine fK (some 17) rfl rfl Tryz.func176 (by kernel_rfl) rfl #[.string (bP ByteArray.empty aI x4_1), .int .u8 43] rfl (by(try simp only [List.map_toArray,List.map_cons,List.map_nil]);first | done | rfl | (simp only [List.length_drop,List.length_take];rfl)) ?_;(with_reducible refine(aV.calls k1 (bP ByteArray.empty aI x4_1) 43 false _ A6.out).mono ?_);rintro e w' ⟨rfl,⟨nd,rfl⟩⟩;refine⟨_,rfl,?_⟩;have oV:0≤(x4_1:Int):=of_decide_eq_true (by first | (with_reducible assumption) | assumption);have oW:x4_1<(aI.length:Int):=of_decide_eq_true (by first | (with_reducible assumption) | assumption);obtain⟨yZ,Fh,Jo⟩:=Kd.bV (Kd.aY bQ.out).2.2 x4_1 oV oW;obtain rfl:iw=yZ:=(by injection Fh);replace oV:=eq_true oV;replace oW:=eq_true oW) | (go_at_call 176;(with_reducible refine(aV.calls k1 (bP ByteArray.empty aI x4_1) 35 false _ Zi.out).mono ?_);rintro e w' ⟨rfl,⟨nd,rfl⟩⟩))
        go_roundg k1
        case measure=>have:=ou.out;omega
        case rel=>exact⟨(wrap64 (x4_1+1)),(by first | rfl | (simp;done) | (simp [*];done)),H',⟨by have:=ou.out;omega⟩,⟨by(with_reducible repeat (first | apply Kd.dK | apply Kd.dL | apply Kd.dX));exact bQ.out⟩,⟨by repeat (first | (with_reducible first | exact HB.out | apply ak | apply aj | apply au) | exact HB.out)⟩⟩
     ·rw [if_neg c5] at H
      exact absurd H (by simp)
    ·rw [if_neg c4] at H
     have nG:decide (x4_1<(aI.length:Int))=false:=decide_eq_false c4
     clear c4
     replace H:=Option.bind_eq_some_iff.mp H
     obtain⟨t138,abV,H⟩:=H
     replace H:(if t138=true then (if a0.toList=([]:List UInt8) then (some false) else (some (decide ((aI.length:Int)≤6)))) else (some false))=some r:=H
     have A26:=Aside0.mk abV
     clear abV
     by_cases Zk:t138=true
     ·subst Zk
      have H1:(if a0.toList=([]:List UInt8) then (some false) else (some (decide ((aI.length:Int)≤6))))=some r:=by rw [if_pos rfl] at H;exact H
      clear H
      have H:=H1
      clear H1
      by_cases c28:a0.toList=([]:List UInt8)
      ·rw [if_pos c28] at H
       have acZ:(a0.toList==([]:List UInt8))=true:=beq_iff_eq.mpr c28
       have ac0:(a0.toList !=([]:List UInt8))=false:=bne_eq_false_iff_eq.mpr c28
       clear c28
       obtain rfl:=Option.some.inj H
       obtain⟨aeT,aeU,ad2⟩:=Kd.jJ bQ.out
       subst ad2
       go_wp2_with (first | ((with_reducible refine bU (f:=177) rfl ?_);refine fK (some 47) rfl rfl Tryz.func177 (by kernel_rfl) rfl #[.string a0] rfl (by(try simp only [List.map_toArray,List.map_cons,List.map_nil]);first | done | rfl | (simp only [List.length_drop,List.length_take];rfl)) ?_;(with_reducible refine(jm.calls k1 a0 true _ A26.out).mono ?_);rintro e w30 ⟨rfl,hb⟩;refine⟨_,rfl,?_⟩;have eP:=Aside0.mk (Kd.iJ (by(with_reducible repeat (first | apply Kd.dK | apply Kd.dL | apply Kd.dX));exact bQ.out) hb);have iO:=Aside0.mk (dG (by repeat (first | (with_reducible first | exact HB.out | apply ak | apply aj | apply au) | exact HB.out)) hb);clear bQ;clear HB;have bQ:=eP;have HB:=iO;clear eP iO;(try clear hb);(try clear hb2);(try clear hk);(try clear hi)))
       go_ret
       exact⟨by first | rfl | (simp [bC,bD]<;>rfl) | (simp [*,bC,bD]<;>rfl),by repeat (first | (with_reducible first | exact HB.out | apply ak | apply aj | apply au) | exact HB.out)⟩
      ·rw [if_neg c28] at H
       have acZ:(a0.toList==([]:List UInt8))=false:=beq_eq_false_iff_ne.mpr c28
       have ac0:(a0.toList !=([]:List UInt8))=true:=bne_iff_ne.mpr c28
       obtain rfl:=Option.some.inj H
       obtain⟨aeV,aeW,ad3⟩:=Kd.jJ bQ.out
       subst ad3
       go_wp2_with (first | ((with_reducible refine bU (f:=177) rfl ?_);refine fK (some 47) rfl rfl Tryz.func177 (by kernel_rfl) rfl #[.string a0] rfl (by(try simp only [List.map_toArray,List.map_cons,List.map_nil]);first | done | rfl | (simp only [List.length_drop,List.length_take];rfl)) ?_;(with_reducible refine(jm.calls k1 a0 true _ A26.out).mono ?_);rintro e w32 ⟨rfl,hb⟩;refine⟨_,rfl,?_⟩;have eP:=Aside0.mk (Kd.iJ (by(with_reducible repeat (first | apply Kd.dK | apply Kd.dL | apply Kd.dX));exact bQ.out) hb);have iO:=Aside0.mk (dG (by repeat (first | (with_reducible first | exact HB.out | apply ak | apply aj | apply au) | exact HB.out)) hb);clear bQ;clear HB;have bQ:=eP;have HB:=iO;clear eP iO;(try clear hb);(try clear hb2);(try clear hk);(try clear hi)))
       go_ret
       exact⟨by first | rfl | (simp [bC,bD]<;>rfl) | (simp [*,bC,bD]<;>rfl),by repeat (first | (with_reducible first | exact HB.out | apply ak | apply aj | apply au) | exact HB.out)⟩
     ·replace Zk:=Bool.eq_false_iff.mpr Zk
      subst Zk
      have H1:(some false)=some r:=by rw [if_neg (show ¬(false=true) by decide)] at H;exact H
      clear H
      have H:=H1
      clear H1
      obtain rfl:=Option.some.inj H
      obtain⟨aeX,aeY,ad4⟩:=Kd.jJ bQ.out
      subst ad4
      go_wp2_with (first | ((with_reducible refine bU (f:=177) rfl ?_);refine fK (some 47) rfl rfl Tryz.func177 (by kernel_rfl) rfl #[.string a0] rfl (by(try simp only [List.map_toArray,List.map_cons,List.map_nil]);first | done | rfl | (simp only [List.length_drop,List.length_take];rfl)) ?_;(with_reducible refine(jm.calls k1 a0 false _ A26.out).mono ?_);rintro e w34 ⟨rfl,hb⟩;refine⟨_,rfl,?_⟩;have eP:=Aside0.mk (Kd.iJ (by(with_reducible repeat (first | apply Kd.dK | apply Kd.dL | apply Kd.dX));exact bQ.out) hb);have iO:=Aside0.mk (dG (by repeat (first | (with_reducible first | exact HB.out | apply ak | apply aj | apply au) | exact HB.out)) hb);clear bQ;clear HB;have bQ:=eP;have HB:=iO;clear eP iO;(try clear hb);(try clear hb2);(try clear hk);(try clear hi)))
      go_ret
      exact⟨by first | rfl | (simp [bC,bD]<;>rfl) | (simp [*,bC,bD]<;>rfl),by repeat (first | (with_reducible first | exact HB.out | apply ak | apply aj | apply au) | exact HB.out)⟩
end Go.Proofs.YtcnfgfomholheaaGreatDoor.P
