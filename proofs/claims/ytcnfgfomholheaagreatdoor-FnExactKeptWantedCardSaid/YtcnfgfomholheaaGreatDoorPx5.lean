import Derived.Test.YtcnfgfomholheaaGreatDoorPx0
import Derived.Test.YtcnfgfomholheaaGreatDoorPx2
import Derived.Test.YtcnfgfomholheaaGreatDoorPx3
import Derived.Test.YtcnfgfomholheaaGreatDoorX7
namespace Go.Proofs.YtcnfgfomholheaaGreatDoor.P
open Go.RowKit Go.Proofs.YtcnfgfomholheaaGreatDoor.X Go.Proofs.YtcnfgfomholheaaGreatDoorW.PrintWords Go.Proofs.YtcnfgfomholheaaGreatDoorW.PrintLast Go.Proofs.YtcnfgfomholheaaGreatDoorW.PrintMore
attribute [local go_sem] mG mJ oQ oU kZ lg mM mO
set_option linter.unusedVariables false
set_option linter.unusedSimpArgs false
def fH.f (k:Nat) (a0:ByteArray):Option (Bool):=(aZ.f k a0).bind fun Ld=>(some (decide (Ld≥0)))
set_option maxHeartbeats 8000000 in
set_option maxRecDepth 100000 in
theorem fH.calls (k:Nat) (a0:ByteArray) (r:Bool) (w:World) (h:fH.f k a0=some r):
  Calls Tryz.prog 177 #[.string a0] w fun e w'=>e= .returned (.bool r)∧Below w.heap.size w w':=by
 have HB:=Aside0.mk (Below.refl w.heap.size w)
 have H:((aZ.f k a0).bind fun Ld=>(some (decide (Ld≥0))))=some r:=h
 clear h
 replace H:=Option.bind_eq_some_iff.mp H
 obtain⟨Ld,mD,H⟩:=H
 replace H:(some (decide (Ld≥0)))=some r:=H
 have A2:=Aside0.mk mD
 clear mD
 obtain rfl:=Option.some.inj H
 go_enter Tryz.func177,Tryz.ntmps177
 go_wp2_with (first | ((with_reducible refine aQ (f:=208) rfl ?_);refine cZ (some 4) rfl rfl Tryz.func208 (by kernel_rfl) rfl #[.string a0] rfl (by(try simp only [List.map_toArray,List.map_cons,List.map_nil]);first | done | rfl | (simp only [List.length_drop,List.length_take];rfl)) ?_;(with_reducible refine(aZ.calls k a0 Ld _ A2.out).mono ?_);rintro e w3 ⟨rfl,hb⟩;refine⟨_,rfl,?_⟩;have bf:=Aside0.mk (aW (by repeat (first | (with_reducible first | exact HB.out | apply aj | apply ah | apply ak) | exact HB.out)) hb);clear HB;have HB:=bf;clear bf;(try clear hb);(try clear hb2);(try clear hk);(try clear hi)))
 go_ret
 exact⟨by first | rfl | (simp [aJ,aK]<;>rfl) | (simp [*,aJ,aK]<;>rfl),by repeat (first | (with_reducible first | exact HB.out | apply aj | apply ah | apply ak) | exact HB.out)⟩
def iC.f (k:Nat) (a0:ByteArray):Option (Bool):=(fH.f k a0).bind fun Le=>(if Le=true then (if a0.toList=([]:List UInt8) then (some false) else ((aN.f k a0 43).bind fun t130=>(if t130=true then (some false) else ((aN.f k a0 35).bind fun t131=>(if t131=true then (some false) else ((bC.f k a0).bind fun nT=>(some (decide ((nT.length:Int)≤6))))))))) else (some false))
set_option maxHeartbeats 8000000 in
set_option maxRecDepth 100000 in
theorem iC.calls (k:Nat) (a0:ByteArray) (r:Bool) (w:World) (h:iC.f k a0=some r):
  Calls Tryz.prog 181 #[.string a0] w fun e w'=>e= .returned (.bool r)∧Below w.heap.size w w':=by
 have HB:=Aside0.mk (Below.refl w.heap.size w)
 have H:((fH.f k a0).bind fun Le=>(if Le=true then (if a0.toList=([]:List UInt8) then (some false) else ((aN.f k a0 43).bind fun t130=>(if t130=true then (some false) else ((aN.f k a0 35).bind fun t131=>(if t131=true then (some false) else ((bC.f k a0).bind fun nT=>(some (decide ((nT.length:Int)≤6))))))))) else (some false)))=some r:=h
 clear h
 replace H:=Option.bind_eq_some_iff.mp H
 obtain⟨Le,mD,H⟩:=H
 replace H:(if Le=true then (if a0.toList=([]:List UInt8) then (some false) else ((aN.f k a0 43).bind fun t130=>(if t130=true then (some false) else ((aN.f k a0 35).bind fun t131=>(if t131=true then (some false) else ((bC.f k a0).bind fun nT=>(some (decide ((nT.length:Int)≤6))))))))) else (some false))=some r:=H
 have A2:=Aside0.mk mD
 clear mD
 by_cases c3:Le=true
 ·subst c3
  have H1:(if a0.toList=([]:List UInt8) then (some false) else ((aN.f k a0 43).bind fun t130=>(if t130=true then (some false) else ((aN.f k a0 35).bind fun t131=>(if t131=true then (some false) else ((bC.f k a0).bind fun nT=>(some (decide ((nT.length:Int)≤6)))))))))=some r:=by rw [if_pos rfl] at H;exact H
  clear H
  have H:=H1
  clear H1
  by_cases c4:a0.toList=([]:List UInt8)
  ·rw [if_pos c4] at H
   have jM:(a0.toList==([]:List UInt8))=true:=beq_iff_eq.mpr c4
   have KU:(a0.toList !=([]:List UInt8))=false:=bne_eq_false_iff_eq.mpr c4
   clear c4
   obtain rfl:=Option.some.inj H
   go_enter Tryz.func181,Tryz.ntmps181
   go_wp2_with (first | ((with_reducible refine aQ (f:=177) rfl ?_);refine cZ (some 4) rfl rfl Tryz.func177 (by kernel_rfl) rfl #[.string a0] rfl (by(try simp only [List.map_toArray,List.map_cons,List.map_nil]);first | done | rfl | (simp only [List.length_drop,List.length_take];rfl)) ?_;(with_reducible refine(fH.calls k a0 true _ A2.out).mono ?_);rintro e w5 ⟨rfl,hb⟩;refine⟨_,rfl,?_⟩;have bf:=Aside0.mk (aW (by repeat (first | (with_reducible first | exact HB.out | apply aj | apply ah | apply ak) | exact HB.out)) hb);clear HB;have HB:=bf;clear bf;(try clear hb);(try clear hb2);(try clear hk);(try clear hi)))
   go_ret
   exact⟨by first | rfl | (simp [aJ,aK]<;>rfl) | (simp [*,aJ,aK]<;>rfl),by repeat (first | (with_reducible first | exact HB.out | apply aj | apply ah | apply ak) | exact HB.out)⟩
  ·rw [if_neg c4] at H
   have jM:(a0.toList==([]:List UInt8))=false:=beq_eq_false_iff_ne.mpr c4
   have KU:(a0.toList !=([]:List UInt8))=true:=bne_iff_ne.mpr c4
   replace H:=Option.bind_eq_some_iff.mp H
   obtain⟨t130,yu,H⟩:=H
   replace H:(if t130=true then (some false) else ((aN.f k a0 35).bind fun t131=>(if t131=true then (some false) else ((bC.f k a0).bind fun nT=>(some (decide ((nT.length:Int)≤6)))))))=some r:=H
   have A6:=Aside0.mk yu
   clear yu
   by_cases c7:t130=true
   ·subst c7
    have H1:(some false)=some r:=by rw [if_pos rfl] at H;exact H
    clear H
    have H:=H1
    clear H1
    obtain rfl:=Option.some.inj H
    go_enter Tryz.func181,Tryz.ntmps181
    go_wp2_with (first | ((with_reducible refine aQ (f:=177) rfl ?_);refine cZ (some 4) rfl rfl Tryz.func177 (by kernel_rfl) rfl #[.string a0] rfl (by(try simp only [List.map_toArray,List.map_cons,List.map_nil]);first | done | rfl | (simp only [List.length_drop,List.length_take];rfl)) ?_;(with_reducible refine(fH.calls k a0 true _ A2.out).mono ?_);rintro e w8 ⟨rfl,hb⟩;refine⟨_,rfl,?_⟩;have bf:=Aside0.mk (aW (by repeat (first | (with_reducible first | exact HB.out | apply aj | apply ah | apply ak) | exact HB.out)) hb);clear HB;have HB:=bf;clear bf;(try clear hb);(try clear hb2);(try clear hk);(try clear hi)) | (go_at_call 176;(with_reducible refine(aN.calls k a0 43 true _ A6.out).mono ?_);rintro e w' ⟨rfl,⟨nd,rfl⟩⟩))
    go_ret
    exact⟨by first | rfl | (simp [aJ,aK]<;>rfl) | (simp [*,aJ,aK]<;>rfl),by repeat (first | (with_reducible first | exact HB.out | apply aj | apply ah | apply ak) | exact HB.out)⟩
   ·replace c7:=Bool.eq_false_iff.mpr c7
    subst c7
    have H1:((aN.f k a0 35).bind fun t131=>(if t131=true then (some false) else ((bC.f k a0).bind fun nT=>(some (decide ((nT.length:Int)≤6))))))=some r:=by rw [if_neg (show ¬(false=true) by decide)] at H;exact H
    clear H
    have H:=H1
    clear H1
    replace H:=Option.bind_eq_some_iff.mp H
    obtain⟨t131,Yg,H⟩:=H
    replace H:(if t131=true then (some false) else ((bC.f k a0).bind fun nT=>(some (decide ((nT.length:Int)≤6)))))=some r:=H
    have A9:=Aside0.mk Yg
    clear Yg
    by_cases c10:t131=true
    ·subst c10
     have H1:(some false)=some r:=by rw [if_pos rfl] at H;exact H
     clear H
     have H:=H1
     clear H1
     obtain rfl:=Option.some.inj H
     go_enter Tryz.func181,Tryz.ntmps181
     go_wp2_with (first | ((with_reducible refine aQ (f:=177) rfl ?_);refine cZ (some 4) rfl rfl Tryz.func177 (by kernel_rfl) rfl #[.string a0] rfl (by(try simp only [List.map_toArray,List.map_cons,List.map_nil]);first | done | rfl | (simp only [List.length_drop,List.length_take];rfl)) ?_;(with_reducible refine(fH.calls k a0 true _ A2.out).mono ?_);rintro e w11 ⟨rfl,hb⟩;refine⟨_,rfl,?_⟩;have bf:=Aside0.mk (aW (by repeat (first | (with_reducible first | exact HB.out | apply aj | apply ah | apply ak) | exact HB.out)) hb);clear HB;have HB:=bf;clear bf;(try clear hb);(try clear hb2);(try clear hk);(try clear hi)) | (go_at_call 176;(with_reducible refine(aN.calls k a0 43 false _ A6.out).mono ?_);rintro e w' ⟨rfl,⟨nd,rfl⟩⟩) | (go_at_call 176;(with_reducible refine(aN.calls k a0 35 true _ A9.out).mono ?_);rintro e w' ⟨rfl,⟨nd,rfl⟩⟩))
     go_ret
     exact⟨by first | rfl | (simp [aJ,aK]<;>rfl) | (simp [*,aJ,aK]<;>rfl),by repeat (first | (with_reducible first | exact HB.out | apply aj | apply ah | apply ak) | exact HB.out)⟩
    ·replace c10:=Bool.eq_false_iff.mpr c10
     subst c10
     have H1:((bC.f k a0).bind fun nT=>(some (decide ((nT.length:Int)≤6))))=some r:=by rw [if_neg (show ¬(false=true) by decide)] at H;exact H
     clear H
     have H:=H1
     clear H1
     replace H:=Option.bind_eq_some_iff.mp H
     obtain⟨nT,Qk,H⟩:=H
     replace H:(some (decide ((nT.length:Int)≤6)))=some r:=H
     have Yd:=Aside0.mk Qk
     clear Qk
     obtain rfl:=Option.some.inj H
     go_enter Tryz.func181,Tryz.ntmps181
     go_wp2_with (first | ((with_reducible refine aQ (f:=177) rfl ?_);refine cZ (some 4) rfl rfl Tryz.func177 (by kernel_rfl) rfl #[.string a0] rfl (by(try simp only [List.map_toArray,List.map_cons,List.map_nil]);first | done | rfl | (simp only [List.length_drop,List.length_take];rfl)) ?_;(with_reducible refine(fH.calls k a0 true _ A2.out).mono ?_);rintro e w13 ⟨rfl,hb⟩;refine⟨_,rfl,?_⟩;have bf:=Aside0.mk (aW (by repeat (first | (with_reducible first | exact HB.out | apply aj | apply ah | apply ak) | exact HB.out)) hb);clear HB;have HB:=bf;clear bf;(try clear hb);(try clear hb2);(try clear hk);(try clear hi)) | (go_at_call 176;(with_reducible refine(aN.calls k a0 43 false _ A6.out).mono ?_);rintro e w' ⟨rfl,⟨nd,rfl⟩⟩) | (go_at_call 176;(with_reducible refine(aN.calls k a0 35 false _ A9.out).mono ?_);rintro e w' ⟨rfl,⟨nd,rfl⟩⟩) | (go_at_call 108;(with_reducible refine(bC.calls k a0 nT _ Yd.out).mono ?_);rintro e w14 ⟨afE,rfl,ho0,hb⟩;have bf:=Aside0.mk (Kd.lV ho0 (jg (by repeat (first | (with_reducible first | exact HB.out | apply aj | apply ah | apply ak) | exact HB.out))));have gy:=Aside0.mk (aW (by repeat (first | (with_reducible first | exact HB.out | apply aj | apply ah | apply ak) | exact HB.out)) hb);clear HB;have adP:=bf;have HB:=gy;clear bf gy;(try clear hb);(try clear hb2);(try clear hk);(try clear hi);(try clear ho0);obtain⟨aeX,aeY,ZC⟩:=Kd.iW adP.out;subst ZC))
     go_ret
     exact⟨by first | rfl | (simp [aJ,aK]<;>rfl) | (simp [*,aJ,aK]<;>rfl),by repeat (first | (with_reducible first | exact HB.out | apply aj | apply ah | apply ak) | exact HB.out)⟩
 ·replace c3:=Bool.eq_false_iff.mpr c3
  subst c3
  have H1:(some false)=some r:=by rw [if_neg (show ¬(false=true) by decide)] at H;exact H
  clear H
  have H:=H1
  clear H1
  obtain rfl:=Option.some.inj H
  go_enter Tryz.func181,Tryz.ntmps181
  go_wp2_with (first | ((with_reducible refine aQ (f:=177) rfl ?_);refine cZ (some 4) rfl rfl Tryz.func177 (by kernel_rfl) rfl #[.string a0] rfl (by(try simp only [List.map_toArray,List.map_cons,List.map_nil]);first | done | rfl | (simp only [List.length_drop,List.length_take];rfl)) ?_;(with_reducible refine(fH.calls k a0 false _ A2.out).mono ?_);rintro e w16 ⟨rfl,hb⟩;refine⟨_,rfl,?_⟩;have bf:=Aside0.mk (aW (by repeat (first | (with_reducible first | exact HB.out | apply aj | apply ah | apply ak) | exact HB.out)) hb);clear HB;have HB:=bf;clear bf;(try clear hb);(try clear hb2);(try clear hk);(try clear hi)))
  go_ret
  exact⟨by first | rfl | (simp [aJ,aK]<;>rfl) | (simp [*,aJ,aK]<;>rfl),by repeat (first | (with_reducible first | exact HB.out | apply aj | apply ah | apply ak) | exact HB.out)⟩
def aU.l0:Nat→ByteArray→List ByteArray→Int→Option (Bool)
 | 0,_,_,_=>none
 | k+1,x0,x3,x4=>if x4<(x3.length:Int) then (if 0≤x4 then ((aN.f k (aT ByteArray.empty x3 x4) 43).bind fun Vw=>(if Vw=true then (if (aT ByteArray.empty x3 x4).toList=([43]:List UInt8) then ((aN.f k (aT ByteArray.empty x3 x4) 35).bind fun t143=>(if t143=true then (if (aT ByteArray.empty x3 x4).toList=([35]:List UInt8) then (if x4<(wrap64 ((x3.length:Int) - 1)) then (some false) else (aU.l0 k x0 x3 (wrap64 (x4+1)))) else (some false)) else (aU.l0 k x0 x3 (wrap64 (x4+1))))) else (some false)) else ((aN.f k (aT ByteArray.empty x3 x4) 35).bind fun t146=>(if t146=true then (if (aT ByteArray.empty x3 x4).toList=([35]:List UInt8) then (if x4<(wrap64 ((x3.length:Int) - 1)) then (some false) else (aU.l0 k x0 x3 (wrap64 (x4+1)))) else (some false)) else (aU.l0 k x0 x3 (wrap64 (x4+1))))))) else (none)) else ((fH.f k x0).bind fun t138=>(if t138=true then (if x0.toList=([]:List UInt8) then (some false) else (some (decide ((x3.length:Int)≤6)))) else (some false)))
def aU.f (k:Nat) (a0:ByteArray):Option (Bool):=(bC.f k a0).bind fun aX=>(aU.l0 k a0 aX 0)
set_option maxHeartbeats 8000000 in
set_option maxRecDepth 100000 in
theorem aU.calls (k:Nat) (a0:ByteArray) (r:Bool) (w:World) (h:aU.f k a0=some r):
  Calls Tryz.prog 106 #[.string a0] w fun e w'=>e= .returned (.bool r)∧Below w.heap.size w w':=by
 have HB:=Aside0.mk (Below.refl w.heap.size w)
 have H:((bC.f k a0).bind fun aX=>(aU.l0 k a0 aX 0))=some r:=h
 clear h
 replace H:=Option.bind_eq_some_iff.mp H
 obtain⟨aX,mD,H⟩:=H
 replace H:(aU.l0 k a0 aX 0)=some r:=H
 have A2:=Aside0.mk mD
 clear mD
 have H':=Aside0.mk H
 clear H
 go_enter Tryz.func106,Tryz.ntmps106
 go_wp2_with (first | ((with_reducible refine aQ (f:=108) rfl ?_);refine cZ (some 6) rfl rfl Tryz.func108 (by kernel_rfl) rfl #[.string a0] rfl (by(try simp only [List.map_toArray,List.map_cons,List.map_nil]);first | done | rfl | (simp only [List.length_drop,List.length_take];rfl)) ?_;(with_reducible refine(bC.calls k a0 aX _ A2.out).mono ?_);rintro e w3 ⟨aeZ,rfl,ho0,hb⟩;refine⟨_,rfl,?_⟩;have bf:=Aside0.mk (Kd.lV ho0 (jg (by repeat (first | (with_reducible first | exact HB.out | apply aj | apply ah | apply ak) | exact HB.out))));have gy:=Aside0.mk (aW (by repeat (first | (with_reducible first | exact HB.out | apply aj | apply ah | apply ak) | exact HB.out)) hb);clear HB;have adQ:=bf;have HB:=gy;clear bf gy;(try clear hb);(try clear hb2);(try clear hk);(try clear hi);(try clear ho0)))
 go_loopg [4] k (fun kq v4 w'=>∃(x4_1:Int),v4= .int .i64 x4_1∧Aside0 (aU.l0 kq a0 aX x4_1=some r)∧Aside0 (kq≤k)∧Aside0 (Kd.R Kd.string 9 w' w.heap.size (fun _=>True) aeZ aX)∧Aside0 (Below w.heap.size w w'))
 case atStart=>exact⟨(0),(by first | rfl | (simp;done) | (simp [*];done)),H',⟨Nat.le_refl _⟩,⟨by(with_reducible repeat (first | apply Kd.dK | apply Kd.dL | apply Kd.dZ));exact adQ.out⟩,⟨by repeat (first | (with_reducible first | exact HB.out | apply aj | apply ah | apply ak) | exact HB.out)⟩⟩
 case round=>
  clear H'
  try clear c1
  try clear p2
  obtain⟨x4_1,rfl,HA,jZ,dh,HB⟩:=hrel
  cases gk with
  | zero=>exact absurd HA.out (by simp [aU.l0])
  | succ k1=>
    have H:=HA.out
    clear HA
    simp only [aU.l0] at H
    by_cases c4:x4_1<(aX.length:Int)
    ·rw [if_pos c4] at H
     have jM:decide (x4_1<(aX.length:Int))=true:=decide_eq_true c4
     clear c4
     by_cases c5:0≤x4_1
     ·rw [if_pos c5] at H
      have sU:decide (0≤x4_1)=true:=decide_eq_true c5
      clear c5
      replace H:=Option.bind_eq_some_iff.mp H
      obtain⟨Vw,yu,H⟩:=H
      replace H:(if Vw=true then (if (aT ByteArray.empty aX x4_1).toList=([43]:List UInt8) then ((aN.f k1 (aT ByteArray.empty aX x4_1) 35).bind fun t143=>(if t143=true then (if (aT ByteArray.empty aX x4_1).toList=([35]:List UInt8) then (if x4_1<(wrap64 ((aX.length:Int) - 1)) then (some false) else (aU.l0 k1 a0 aX (wrap64 (x4_1+1)))) else (some false)) else (aU.l0 k1 a0 aX (wrap64 (x4_1+1))))) else (some false)) else ((aN.f k1 (aT ByteArray.empty aX x4_1) 35).bind fun t146=>(if t146=true then (if (aT ByteArray.empty aX x4_1).toList=([35]:List UInt8) then (if x4_1<(wrap64 ((aX.length:Int) - 1)) then (some false) else (aU.l0 k1 a0 aX (wrap64 (x4_1+1)))) else (some false)) else (aU.l0 k1 a0 aX (wrap64 (x4_1+1))))))=some r:=H
      have A6:=Aside0.mk yu
      clear yu
      by_cases c7:Vw=true
      ·subst c7
       have H1:(if (aT ByteArray.empty aX x4_1).toList=([43]:List UInt8) then ((aN.f k1 (aT ByteArray.empty aX x4_1) 35).bind fun t143=>(if t143=true then (if (aT ByteArray.empty aX x4_1).toList=([35]:List UInt8) then (if x4_1<(wrap64 ((aX.length:Int) - 1)) then (some false) else (aU.l0 k1 a0 aX (wrap64 (x4_1+1)))) else (some false)) else (aU.l0 k1 a0 aX (wrap64 (x4_1+1))))) else (some false))=some r:=by rw [if_pos rfl] at H;exact H
       clear H
       have H:=H1
       clear H1
       by_cases c8:(aT ByteArray.empty aX x4_1).toList=([43]:List UInt8)
       ·rw [if_pos c8] at H
        have Ba:((aT ByteArray.empty aX x4_1).toList==([43]:List UInt8))=true:=beq_iff_eq.mpr c8
        have ae0:((aT ByteArray.empty aX x4_1).toList !=([43]:List UInt8))=false:=bne_eq_false_iff_eq.mpr c8
        clear c8
        replace H:=Option.bind_eq_some_iff.mp H
        obtain⟨t143,Yg,H⟩:=H
        replace H:(if t143=true then (if (aT ByteArray.empty aX x4_1).toList=([35]:List UInt8) then (if x4_1<(wrap64 ((aX.length:Int) - 1)) then (some false) else (aU.l0 k1 a0 aX (wrap64 (x4_1+1)))) else (some false)) else (aU.l0 k1 a0 aX (wrap64 (x4_1+1))))=some r:=H
        have A9:=Aside0.mk Yg
        clear Yg
        by_cases c10:t143=true
        ·subst c10
         have H1:(if (aT ByteArray.empty aX x4_1).toList=([35]:List UInt8) then (if x4_1<(wrap64 ((aX.length:Int) - 1)) then (some false) else (aU.l0 k1 a0 aX (wrap64 (x4_1+1)))) else (some false))=some r:=by rw [if_pos rfl] at H;exact H
         clear H
         have H:=H1
         clear H1
         by_cases c11:(aT ByteArray.empty aX x4_1).toList=([35]:List UInt8)
         ·rw [if_pos c11] at H
          have nZ:((aT ByteArray.empty aX x4_1).toList==([35]:List UInt8))=true:=beq_iff_eq.mpr c11
          have Vx:((aT ByteArray.empty aX x4_1).toList !=([35]:List UInt8))=false:=bne_eq_false_iff_eq.mpr c11
          clear c11
          by_cases c12:x4_1<(wrap64 ((aX.length:Int) - 1))
          ·rw [if_pos c12] at H
           have NP:decide (x4_1<(wrap64 ((aX.length:Int) - 1)))=true:=decide_eq_true c12
           clear c12
           obtain rfl:=Option.some.inj H
           obtain⟨afF,afG,ae1⟩:=Kd.iW dh.out
           subst ae1
           have iR:0≤(x4_1:Int):=of_decide_eq_true (by first | (with_reducible assumption) | assumption)
           have iT:x4_1<(aX.length:Int):=of_decide_eq_true (by first | (with_reducible assumption) | assumption)
           obtain⟨iY,oN,qR⟩:=Kd.aV (Kd.cO dh.out).2.2 x4_1 iR iT
           cases oN
           replace iR:=eq_true iR
           replace iT:=eq_true iT
           go_wp2_with (first | ((with_reducible refine aQ (f:=176) rfl ?_);refine cZ (some 17) rfl rfl Tryz.func176 (by kernel_rfl) rfl #[.string (aT ByteArray.empty aX x4_1), .int .u8 43] rfl (by(try simp only [List.map_toArray,List.map_cons,List.map_nil]);first | done | rfl | (simp only [List.length_drop,List.length_take];rfl)) ?_;(with_reducible refine(aN.calls k1 (aT ByteArray.empty aX x4_1) 43 true _ A6.out).mono ?_);rintro e w' ⟨rfl,⟨nd,rfl⟩⟩;refine⟨_,rfl,?_⟩;have mZ:0≤(x4_1:Int):=of_decide_eq_true (by first | (with_reducible assumption) | assumption);have ng:x4_1<(aX.length:Int):=of_decide_eq_true (by first | (with_reducible assumption) | assumption);obtain⟨vM,Bf,EX⟩:=Kd.aV (Kd.cO dh.out).2.2 x4_1 mZ ng;obtain rfl:iY=vM:=(by injection Bf);replace mZ:=eq_true mZ;replace ng:=eq_true ng;have qC:0≤(x4_1:Int):=of_decide_eq_true (by first | (with_reducible assumption) | assumption);have qE:x4_1<(aX.length:Int):=of_decide_eq_true (by first | (with_reducible assumption) | assumption);obtain⟨Bg,He,Lh⟩:=Kd.aV (Kd.cO dh.out).2.2 x4_1 qC qE;obtain rfl:iY=Bg:=(by injection He);replace qC:=eq_true qC;replace qE:=eq_true qE) | (go_at_call 176;(with_reducible refine(aN.calls k1 (aT ByteArray.empty aX x4_1) 35 true _ A9.out).mono ?_);rintro e w' ⟨rfl,⟨nd,rfl⟩⟩;have xk:0≤(x4_1:Int):=of_decide_eq_true (by first | (with_reducible assumption) | assumption);have xq:x4_1<(aX.length:Int):=of_decide_eq_true (by first | (with_reducible assumption) | assumption);obtain⟨JF,Qs,Tj⟩:=Kd.aV (Kd.cO dh.out).2.2 x4_1 xk xq;obtain rfl:iY=JF:=(by injection Qs);replace xk:=eq_true xk;replace xq:=eq_true xq))
           go_ret
           exact⟨by first | rfl | (simp [aJ,aK]<;>rfl) | (simp [*,aJ,aK]<;>rfl),by repeat (first | (with_reducible first | exact HB.out | apply aj | apply ah | apply ak) | exact HB.out)⟩
          ·rw [if_neg c12] at H
           have NP:decide (x4_1<(wrap64 ((aX.length:Int) - 1)))=false:=decide_eq_false c12
           clear c12
           have H':=Aside0.mk H
           clear H
           obtain⟨aeS,aeT,Zx⟩:=Kd.iW dh.out
           subst Zx
           have iR:0≤(x4_1:Int):=of_decide_eq_true (by first | (with_reducible assumption) | assumption)
           have iT:x4_1<(aX.length:Int):=of_decide_eq_true (by first | (with_reducible assumption) | assumption)
           obtain⟨iY,oN,qR⟩:=Kd.aV (Kd.cO dh.out).2.2 x4_1 iR iT
           cases oN
           replace iR:=eq_true iR
           replace iT:=eq_true iT
           go_wp2_with (first | ((with_reducible refine aQ (f:=176) rfl ?_);refine cZ (some 17) rfl rfl Tryz.func176 (by kernel_rfl) rfl #[.string (aT ByteArray.empty aX x4_1), .int .u8 43] rfl (by(try simp only [List.map_toArray,List.map_cons,List.map_nil]);first | done | rfl | (simp only [List.length_drop,List.length_take];rfl)) ?_;(with_reducible refine(aN.calls k1 (aT ByteArray.empty aX x4_1) 43 true _ A6.out).mono ?_);rintro e w' ⟨rfl,⟨nd,rfl⟩⟩;refine⟨_,rfl,?_⟩;have mZ:0≤(x4_1:Int):=of_decide_eq_true (by first | (with_reducible assumption) | assumption);have ng:x4_1<(aX.length:Int):=of_decide_eq_true (by first | (with_reducible assumption) | assumption);obtain⟨vM,Bf,EX⟩:=Kd.aV (Kd.cO dh.out).2.2 x4_1 mZ ng;obtain rfl:iY=vM:=(by injection Bf);replace mZ:=eq_true mZ;replace ng:=eq_true ng;have qC:0≤(x4_1:Int):=of_decide_eq_true (by first | (with_reducible assumption) | assumption);have qE:x4_1<(aX.length:Int):=of_decide_eq_true (by first | (with_reducible assumption) | assumption);obtain⟨Bg,He,Lh⟩:=Kd.aV (Kd.cO dh.out).2.2 x4_1 qC qE;obtain rfl:iY=Bg:=(by injection He);replace qC:=eq_true qC;replace qE:=eq_true qE) | (go_at_call 176;(with_reducible refine(aN.calls k1 (aT ByteArray.empty aX x4_1) 35 true _ A9.out).mono ?_);rintro e w' ⟨rfl,⟨nd,rfl⟩⟩;have xk:0≤(x4_1:Int):=of_decide_eq_true (by first | (with_reducible assumption) | assumption);have xq:x4_1<(aX.length:Int):=of_decide_eq_true (by first | (with_reducible assumption) | assumption);obtain⟨JF,Qs,Tj⟩:=Kd.aV (Kd.cO dh.out).2.2 x4_1 xk xq;obtain rfl:iY=JF:=(by injection Qs);replace xk:=eq_true xk;replace xq:=eq_true xq))
           go_roundg k1
           case measure=>have:=jZ.out;omega
           case rel=>exact⟨(wrap64 (x4_1+1)),(by first | rfl | (simp;done) | (simp [*];done)),H',⟨by have:=jZ.out;omega⟩,⟨by(with_reducible repeat (first | apply Kd.dK | apply Kd.dL | apply Kd.dZ));exact dh.out⟩,⟨by repeat (first | (with_reducible first | exact HB.out | apply aj | apply ah | apply ak) | exact HB.out)⟩⟩
         ·rw [if_neg c11] at H
          have nZ:((aT ByteArray.empty aX x4_1).toList==([35]:List UInt8))=false:=beq_eq_false_iff_ne.mpr c11
          have Vx:((aT ByteArray.empty aX x4_1).toList !=([35]:List UInt8))=true:=bne_iff_ne.mpr c11
          obtain rfl:=Option.some.inj H
          obtain⟨aeX,aeY,ZC⟩:=Kd.iW dh.out
          subst ZC
          have iR:0≤(x4_1:Int):=of_decide_eq_true (by first | (with_reducible assumption) | assumption)
          have iT:x4_1<(aX.length:Int):=of_decide_eq_true (by first | (with_reducible assumption) | assumption)
          obtain⟨iY,oN,qR⟩:=Kd.aV (Kd.cO dh.out).2.2 x4_1 iR iT
          cases oN
          replace iR:=eq_true iR
          replace iT:=eq_true iT
          go_wp2_with (first | ((with_reducible refine aQ (f:=176) rfl ?_);refine cZ (some 17) rfl rfl Tryz.func176 (by kernel_rfl) rfl #[.string (aT ByteArray.empty aX x4_1), .int .u8 43] rfl (by(try simp only [List.map_toArray,List.map_cons,List.map_nil]);first | done | rfl | (simp only [List.length_drop,List.length_take];rfl)) ?_;(with_reducible refine(aN.calls k1 (aT ByteArray.empty aX x4_1) 43 true _ A6.out).mono ?_);rintro e w' ⟨rfl,⟨nd,rfl⟩⟩;refine⟨_,rfl,?_⟩;have mZ:0≤(x4_1:Int):=of_decide_eq_true (by first | (with_reducible assumption) | assumption);have ng:x4_1<(aX.length:Int):=of_decide_eq_true (by first | (with_reducible assumption) | assumption);obtain⟨vM,Bf,EX⟩:=Kd.aV (Kd.cO dh.out).2.2 x4_1 mZ ng;obtain rfl:iY=vM:=(by injection Bf);replace mZ:=eq_true mZ;replace ng:=eq_true ng;have qC:0≤(x4_1:Int):=of_decide_eq_true (by first | (with_reducible assumption) | assumption);have qE:x4_1<(aX.length:Int):=of_decide_eq_true (by first | (with_reducible assumption) | assumption);obtain⟨Bg,He,Lh⟩:=Kd.aV (Kd.cO dh.out).2.2 x4_1 qC qE;obtain rfl:iY=Bg:=(by injection He);replace qC:=eq_true qC;replace qE:=eq_true qE) | (go_at_call 176;(with_reducible refine(aN.calls k1 (aT ByteArray.empty aX x4_1) 35 true _ A9.out).mono ?_);rintro e w' ⟨rfl,⟨nd,rfl⟩⟩;have xk:0≤(x4_1:Int):=of_decide_eq_true (by first | (with_reducible assumption) | assumption);have xq:x4_1<(aX.length:Int):=of_decide_eq_true (by first | (with_reducible assumption) | assumption);obtain⟨JF,Qs,Tj⟩:=Kd.aV (Kd.cO dh.out).2.2 x4_1 xk xq;obtain rfl:iY=JF:=(by injection Qs);replace xk:=eq_true xk;replace xq:=eq_true xq))
          go_ret
          exact⟨by first | rfl | (simp [aJ,aK]<;>rfl) | (simp [*,aJ,aK]<;>rfl),by repeat (first | (with_reducible first | exact HB.out | apply aj | apply ah | apply ak) | exact HB.out)⟩
        ·replace c10:=Bool.eq_false_iff.mpr c10
         subst c10
         have H1:(aU.l0 k1 a0 aX (wrap64 (x4_1+1)))=some r:=by rw [if_neg (show ¬(false=true) by decide)] at H;exact H
         clear H
         have H:=H1
         clear H1
         have H':=Aside0.mk H
         clear H
         obtain⟨afH,afI,ae2⟩:=Kd.iW dh.out
         subst ae2
         have iR:0≤(x4_1:Int):=of_decide_eq_true (by first | (with_reducible assumption) | assumption)
         have iT:x4_1<(aX.length:Int):=of_decide_eq_true (by first | (with_reducible assumption) | assumption)
         obtain⟨iY,oN,qR⟩:=Kd.aV (Kd.cO dh.out).2.2 x4_1 iR iT
         cases oN
         replace iR:=eq_true iR
         replace iT:=eq_true iT
         go_wp2_with (first | ((with_reducible refine aQ (f:=176) rfl ?_);refine cZ (some 17) rfl rfl Tryz.func176 (by kernel_rfl) rfl #[.string (aT ByteArray.empty aX x4_1), .int .u8 43] rfl (by(try simp only [List.map_toArray,List.map_cons,List.map_nil]);first | done | rfl | (simp only [List.length_drop,List.length_take];rfl)) ?_;(with_reducible refine(aN.calls k1 (aT ByteArray.empty aX x4_1) 43 true _ A6.out).mono ?_);rintro e w' ⟨rfl,⟨nd,rfl⟩⟩;refine⟨_,rfl,?_⟩;have mZ:0≤(x4_1:Int):=of_decide_eq_true (by first | (with_reducible assumption) | assumption);have ng:x4_1<(aX.length:Int):=of_decide_eq_true (by first | (with_reducible assumption) | assumption);obtain⟨vM,Bf,EX⟩:=Kd.aV (Kd.cO dh.out).2.2 x4_1 mZ ng;obtain rfl:iY=vM:=(by injection Bf);replace mZ:=eq_true mZ;replace ng:=eq_true ng;have qC:0≤(x4_1:Int):=of_decide_eq_true (by first | (with_reducible assumption) | assumption);have qE:x4_1<(aX.length:Int):=of_decide_eq_true (by first | (with_reducible assumption) | assumption);obtain⟨Bg,He,Lh⟩:=Kd.aV (Kd.cO dh.out).2.2 x4_1 qC qE;obtain rfl:iY=Bg:=(by injection He);replace qC:=eq_true qC;replace qE:=eq_true qE) | (go_at_call 176;(with_reducible refine(aN.calls k1 (aT ByteArray.empty aX x4_1) 35 false _ A9.out).mono ?_);rintro e w' ⟨rfl,⟨nd,rfl⟩⟩))
         go_roundg k1
         case measure=>have:=jZ.out;omega
         case rel=>exact⟨(wrap64 (x4_1+1)),(by first | rfl | (simp;done) | (simp [*];done)),H',⟨by have:=jZ.out;omega⟩,⟨by(with_reducible repeat (first | apply Kd.dK | apply Kd.dL | apply Kd.dZ));exact dh.out⟩,⟨by repeat (first | (with_reducible first | exact HB.out | apply aj | apply ah | apply ak) | exact HB.out)⟩⟩
       ·rw [if_neg c8] at H
        have Ba:((aT ByteArray.empty aX x4_1).toList==([43]:List UInt8))=false:=beq_eq_false_iff_ne.mpr c8
        have ae0:((aT ByteArray.empty aX x4_1).toList !=([43]:List UInt8))=true:=bne_iff_ne.mpr c8
        obtain rfl:=Option.some.inj H
        obtain⟨afJ,afK,ae3⟩:=Kd.iW dh.out
        subst ae3
        have iR:0≤(x4_1:Int):=of_decide_eq_true (by first | (with_reducible assumption) | assumption)
        have iT:x4_1<(aX.length:Int):=of_decide_eq_true (by first | (with_reducible assumption) | assumption)
        obtain⟨iY,oN,qR⟩:=Kd.aV (Kd.cO dh.out).2.2 x4_1 iR iT
        cases oN
        replace iR:=eq_true iR
        replace iT:=eq_true iT
        go_wp2_with (first | ((with_reducible refine aQ (f:=176) rfl ?_);refine cZ (some 17) rfl rfl Tryz.func176 (by kernel_rfl) rfl #[.string (aT ByteArray.empty aX x4_1), .int .u8 43] rfl (by(try simp only [List.map_toArray,List.map_cons,List.map_nil]);first | done | rfl | (simp only [List.length_drop,List.length_take];rfl)) ?_;(with_reducible refine(aN.calls k1 (aT ByteArray.empty aX x4_1) 43 true _ A6.out).mono ?_);rintro e w' ⟨rfl,⟨nd,rfl⟩⟩;refine⟨_,rfl,?_⟩;have mZ:0≤(x4_1:Int):=of_decide_eq_true (by first | (with_reducible assumption) | assumption);have ng:x4_1<(aX.length:Int):=of_decide_eq_true (by first | (with_reducible assumption) | assumption);obtain⟨vM,Bf,EX⟩:=Kd.aV (Kd.cO dh.out).2.2 x4_1 mZ ng;obtain rfl:iY=vM:=(by injection Bf);replace mZ:=eq_true mZ;replace ng:=eq_true ng))
        go_ret
        exact⟨by first | rfl | (simp [aJ,aK]<;>rfl) | (simp [*,aJ,aK]<;>rfl),by repeat (first | (with_reducible first | exact HB.out | apply aj | apply ah | apply ak) | exact HB.out)⟩
      ·replace c7:=Bool.eq_false_iff.mpr c7
       subst c7
       have H1:((aN.f k1 (aT ByteArray.empty aX x4_1) 35).bind fun t146=>(if t146=true then (if (aT ByteArray.empty aX x4_1).toList=([35]:List UInt8) then (if x4_1<(wrap64 ((aX.length:Int) - 1)) then (some false) else (aU.l0 k1 a0 aX (wrap64 (x4_1+1)))) else (some false)) else (aU.l0 k1 a0 aX (wrap64 (x4_1+1)))))=some r:=by rw [if_neg (show ¬(false=true) by decide)] at H;exact H
       clear H
       have H:=H1
       clear H1
       replace H:=Option.bind_eq_some_iff.mp H
       obtain⟨t146,acV,H⟩:=H
       replace H:(if t146=true then (if (aT ByteArray.empty aX x4_1).toList=([35]:List UInt8) then (if x4_1<(wrap64 ((aX.length:Int) - 1)) then (some false) else (aU.l0 k1 a0 aX (wrap64 (x4_1+1)))) else (some false)) else (aU.l0 k1 a0 aX (wrap64 (x4_1+1))))=some r:=H
       have A18:=Aside0.mk acV
       clear acV
       by_cases c19:t146=true
       ·subst c19
        have H1:(if (aT ByteArray.empty aX x4_1).toList=([35]:List UInt8) then (if x4_1<(wrap64 ((aX.length:Int) - 1)) then (some false) else (aU.l0 k1 a0 aX (wrap64 (x4_1+1)))) else (some false))=some r:=by rw [if_pos rfl] at H;exact H
        clear H
        have H:=H1
        clear H1
        by_cases c20:(aT ByteArray.empty aX x4_1).toList=([35]:List UInt8)
        ·rw [if_pos c20] at H
         have adR:((aT ByteArray.empty aX x4_1).toList==([35]:List UInt8))=true:=beq_iff_eq.mpr c20
         have adS:((aT ByteArray.empty aX x4_1).toList !=([35]:List UInt8))=false:=bne_eq_false_iff_eq.mpr c20
         clear c20
         by_cases c21:x4_1<(wrap64 ((aX.length:Int) - 1))
         ·rw [if_pos c21] at H
          have aam:decide (x4_1<(wrap64 ((aX.length:Int) - 1)))=true:=decide_eq_true c21
          clear c21
          obtain rfl:=Option.some.inj H
          obtain⟨afL,afM,ae4⟩:=Kd.iW dh.out
          subst ae4
          have iR:0≤(x4_1:Int):=of_decide_eq_true (by first | (with_reducible assumption) | assumption)
          have iT:x4_1<(aX.length:Int):=of_decide_eq_true (by first | (with_reducible assumption) | assumption)
          obtain⟨iY,oN,qR⟩:=Kd.aV (Kd.cO dh.out).2.2 x4_1 iR iT
          cases oN
          replace iR:=eq_true iR
          replace iT:=eq_true iT
          go_wp2_with (first | ((with_reducible refine aQ (f:=176) rfl ?_);refine cZ (some 17) rfl rfl Tryz.func176 (by kernel_rfl) rfl #[.string (aT ByteArray.empty aX x4_1), .int .u8 43] rfl (by(try simp only [List.map_toArray,List.map_cons,List.map_nil]);first | done | rfl | (simp only [List.length_drop,List.length_take];rfl)) ?_;(with_reducible refine(aN.calls k1 (aT ByteArray.empty aX x4_1) 43 false _ A6.out).mono ?_);rintro e w' ⟨rfl,⟨nd,rfl⟩⟩;refine⟨_,rfl,?_⟩;have qF:0≤(x4_1:Int):=of_decide_eq_true (by first | (with_reducible assumption) | assumption);have qG:x4_1<(aX.length:Int):=of_decide_eq_true (by first | (with_reducible assumption) | assumption);obtain⟨Bh,Hf,Lj⟩:=Kd.aV (Kd.cO dh.out).2.2 x4_1 qF qG;obtain rfl:iY=Bh:=(by injection Hf);replace qF:=eq_true qF;replace qG:=eq_true qG) | (go_at_call 176;(with_reducible refine(aN.calls k1 (aT ByteArray.empty aX x4_1) 35 true _ A18.out).mono ?_);rintro e w' ⟨rfl,⟨nd,rfl⟩⟩;have xu:0≤(x4_1:Int):=of_decide_eq_true (by first | (with_reducible assumption) | assumption);have xw:x4_1<(aX.length:Int):=of_decide_eq_true (by first | (with_reducible assumption) | assumption);obtain⟨JG,Qu,Tm⟩:=Kd.aV (Kd.cO dh.out).2.2 x4_1 xu xw;obtain rfl:iY=JG:=(by injection Qu);replace xu:=eq_true xu;replace xw:=eq_true xw))
          go_ret
          exact⟨by first | rfl | (simp [aJ,aK]<;>rfl) | (simp [*,aJ,aK]<;>rfl),by repeat (first | (with_reducible first | exact HB.out | apply aj | apply ah | apply ak) | exact HB.out)⟩
         ·rw [if_neg c21] at H
          have aam:decide (x4_1<(wrap64 ((aX.length:Int) - 1)))=false:=decide_eq_false c21
          clear c21
          have H':=Aside0.mk H
          clear H
          obtain⟨afN,afO,ae5⟩:=Kd.iW dh.out
          subst ae5
          have iR:0≤(x4_1:Int):=of_decide_eq_true (by first | (with_reducible assumption) | assumption)
          have iT:x4_1<(aX.length:Int):=of_decide_eq_true (by first | (with_reducible assumption) | assumption)
          obtain⟨iY,oN,qR⟩:=Kd.aV (Kd.cO dh.out).2.2 x4_1 iR iT
          cases oN
          replace iR:=eq_true iR
          replace iT:=eq_true iT
          go_wp2_with (first | ((with_reducible refine aQ (f:=176) rfl ?_);refine cZ (some 17) rfl rfl Tryz.func176 (by kernel_rfl) rfl #[.string (aT ByteArray.empty aX x4_1), .int .u8 43] rfl (by(try simp only [List.map_toArray,List.map_cons,List.map_nil]);first | done | rfl | (simp only [List.length_drop,List.length_take];rfl)) ?_;(with_reducible refine(aN.calls k1 (aT ByteArray.empty aX x4_1) 43 false _ A6.out).mono ?_);rintro e w' ⟨rfl,⟨nd,rfl⟩⟩;refine⟨_,rfl,?_⟩;have qF:0≤(x4_1:Int):=of_decide_eq_true (by first | (with_reducible assumption) | assumption);have qG:x4_1<(aX.length:Int):=of_decide_eq_true (by first | (with_reducible assumption) | assumption);obtain⟨Bh,Hf,Lj⟩:=Kd.aV (Kd.cO dh.out).2.2 x4_1 qF qG;obtain rfl:iY=Bh:=(by injection Hf);replace qF:=eq_true qF;replace qG:=eq_true qG) | (go_at_call 176;(with_reducible refine(aN.calls k1 (aT ByteArray.empty aX x4_1) 35 true _ A18.out).mono ?_);rintro e w' ⟨rfl,⟨nd,rfl⟩⟩;have xu:0≤(x4_1:Int):=of_decide_eq_true (by first | (with_reducible assumption) | assumption);have xw:x4_1<(aX.length:Int):=of_decide_eq_true (by first | (with_reducible assumption) | assumption);obtain⟨JG,Qu,Tm⟩:=Kd.aV (Kd.cO dh.out).2.2 x4_1 xu xw;obtain rfl:iY=JG:=(by injection Qu);replace xu:=eq_true xu;replace xw:=eq_true xw))
          go_roundg k1
          case measure=>have:=jZ.out;omega
          case rel=>exact⟨(wrap64 (x4_1+1)),(by first | rfl | (simp;done) | (simp [*];done)),H',⟨by have:=jZ.out;omega⟩,⟨by(with_reducible repeat (first | apply Kd.dK | apply Kd.dL | apply Kd.dZ));exact dh.out⟩,⟨by repeat (first | (with_reducible first | exact HB.out | apply aj | apply ah | apply ak) | exact HB.out)⟩⟩
        ·rw [if_neg c20] at H
         have adR:((aT ByteArray.empty aX x4_1).toList==([35]:List UInt8))=false:=beq_eq_false_iff_ne.mpr c20
         have adS:((aT ByteArray.empty aX x4_1).toList !=([35]:List UInt8))=true:=bne_iff_ne.mpr c20
         obtain rfl:=Option.some.inj H
         obtain⟨Vm,Vo,Qq⟩:=Kd.iW dh.out
         subst Qq
         have iR:0≤(x4_1:Int):=of_decide_eq_true (by first | (with_reducible assumption) | assumption)
         have iT:x4_1<(aX.length:Int):=of_decide_eq_true (by first | (with_reducible assumption) | assumption)
         obtain⟨iY,oN,qR⟩:=Kd.aV (Kd.cO dh.out).2.2 x4_1 iR iT
         cases oN
         replace iR:=eq_true iR
         replace iT:=eq_true iT
         go_wp2_with (first | ((with_reducible refine aQ (f:=176) rfl ?_);refine cZ (some 17) rfl rfl Tryz.func176 (by kernel_rfl) rfl #[.string (aT ByteArray.empty aX x4_1), .int .u8 43] rfl (by(try simp only [List.map_toArray,List.map_cons,List.map_nil]);first | done | rfl | (simp only [List.length_drop,List.length_take];rfl)) ?_;(with_reducible refine(aN.calls k1 (aT ByteArray.empty aX x4_1) 43 false _ A6.out).mono ?_);rintro e w' ⟨rfl,⟨nd,rfl⟩⟩;refine⟨_,rfl,?_⟩;have qF:0≤(x4_1:Int):=of_decide_eq_true (by first | (with_reducible assumption) | assumption);have qG:x4_1<(aX.length:Int):=of_decide_eq_true (by first | (with_reducible assumption) | assumption);obtain⟨Bh,Hf,Lj⟩:=Kd.aV (Kd.cO dh.out).2.2 x4_1 qF qG;obtain rfl:iY=Bh:=(by injection Hf);replace qF:=eq_true qF;replace qG:=eq_true qG) | (go_at_call 176;(with_reducible refine(aN.calls k1 (aT ByteArray.empty aX x4_1) 35 true _ A18.out).mono ?_);rintro e w' ⟨rfl,⟨nd,rfl⟩⟩;have xu:0≤(x4_1:Int):=of_decide_eq_true (by first | (with_reducible assumption) | assumption);have xw:x4_1<(aX.length:Int):=of_decide_eq_true (by first | (with_reducible assumption) | assumption);obtain⟨JG,Qu,Tm⟩:=Kd.aV (Kd.cO dh.out).2.2 x4_1 xu xw;obtain rfl:iY=JG:=(by injection Qu);replace xu:=eq_true xu;replace xw:=eq_true xw))
         go_ret
         exact⟨by first | rfl | (simp [aJ,aK]<;>rfl) | (simp [*,aJ,aK]<;>rfl),by repeat (first | (with_reducible first | exact HB.out | apply aj | apply ah | apply ak) | exact HB.out)⟩
       ·replace c19:=Bool.eq_false_iff.mpr c19
        subst c19
        have H1:(aU.l0 k1 a0 aX (wrap64 (x4_1+1)))=some r:=by rw [if_neg (show ¬(false=true) by decide)] at H;exact H
        clear H
        have H:=H1
        clear H1
        have H':=Aside0.mk H
        clear H
        obtain⟨Vp,Vq,Qr⟩:=Kd.iW dh.out
        subst Qr
        have iR:0≤(x4_1:Int):=of_decide_eq_true (by first | (with_reducible assumption) | assumption)
        have iT:x4_1<(aX.length:Int):=of_decide_eq_true (by first | (with_reducible assumption) | assumption)
        obtain⟨iY,oN,qR⟩:=Kd.aV (Kd.cO dh.out).2.2 x4_1 iR iT
        cases oN
        replace iR:=eq_true iR
        replace iT:=eq_true iT
        go_wp2_with (first | ((with_reducible refine aQ (f:=176) rfl ?_);refine cZ (some 17) rfl rfl Tryz.func176 (by kernel_rfl) rfl #[.string (aT ByteArray.empty aX x4_1), .int .u8 43] rfl (by(try simp only [List.map_toArray,List.map_cons,List.map_nil]);first | done | rfl | (simp only [List.length_drop,List.length_take];rfl)) ?_;(with_reducible refine(aN.calls k1 (aT ByteArray.empty aX x4_1) 43 false _ A6.out).mono ?_);rintro e w' ⟨rfl,⟨nd,rfl⟩⟩;refine⟨_,rfl,?_⟩;have qF:0≤(x4_1:Int):=of_decide_eq_true (by first | (with_reducible assumption) | assumption);have qG:x4_1<(aX.length:Int):=of_decide_eq_true (by first | (with_reducible assumption) | assumption);obtain⟨Bh,Hf,Lj⟩:=Kd.aV (Kd.cO dh.out).2.2 x4_1 qF qG;obtain rfl:iY=Bh:=(by injection Hf);replace qF:=eq_true qF;replace qG:=eq_true qG) | (go_at_call 176;(with_reducible refine(aN.calls k1 (aT ByteArray.empty aX x4_1) 35 false _ A18.out).mono ?_);rintro e w' ⟨rfl,⟨nd,rfl⟩⟩))
        go_roundg k1
        case measure=>have:=jZ.out;omega
        case rel=>exact⟨(wrap64 (x4_1+1)),(by first | rfl | (simp;done) | (simp [*];done)),H',⟨by have:=jZ.out;omega⟩,⟨by(with_reducible repeat (first | apply Kd.dK | apply Kd.dL | apply Kd.dZ));exact dh.out⟩,⟨by repeat (first | (with_reducible first | exact HB.out | apply aj | apply ah | apply ak) | exact HB.out)⟩⟩
     ·rw [if_neg c5] at H
      exact absurd H (by simp)
    ·rw [if_neg c4] at H
     have jM:decide (x4_1<(aX.length:Int))=false:=decide_eq_false c4
     clear c4
     replace H:=Option.bind_eq_some_iff.mp H
     obtain⟨t138,acW,H⟩:=H
     replace H:(if t138=true then (if a0.toList=([]:List UInt8) then (some false) else (some (decide ((aX.length:Int)≤6)))) else (some false))=some r:=H
     have A26:=Aside0.mk acW
     clear acW
     by_cases c27:t138=true
     ·subst c27
      have H1:(if a0.toList=([]:List UInt8) then (some false) else (some (decide ((aX.length:Int)≤6))))=some r:=by rw [if_pos rfl] at H;exact H
      clear H
      have H:=H1
      clear H1
      by_cases c28:a0.toList=([]:List UInt8)
      ·rw [if_pos c28] at H
       have adT:(a0.toList==([]:List UInt8))=true:=beq_iff_eq.mpr c28
       have adU:(a0.toList !=([]:List UInt8))=false:=bne_eq_false_iff_eq.mpr c28
       clear c28
       obtain rfl:=Option.some.inj H
       obtain⟨afP,afQ,ae6⟩:=Kd.iW dh.out
       subst ae6
       go_wp2_with (first | ((with_reducible refine aQ (f:=177) rfl ?_);refine cZ (some 47) rfl rfl Tryz.func177 (by kernel_rfl) rfl #[.string a0] rfl (by(try simp only [List.map_toArray,List.map_cons,List.map_nil]);first | done | rfl | (simp only [List.length_drop,List.length_take];rfl)) ?_;(with_reducible refine(fH.calls k1 a0 true _ A26.out).mono ?_);rintro e w30 ⟨rfl,hb⟩;refine⟨_,rfl,?_⟩;have bf:=Aside0.mk (Kd.jE (by(with_reducible repeat (first | apply Kd.dK | apply Kd.dL | apply Kd.dZ));exact dh.out) hb);have gy:=Aside0.mk (aW (by repeat (first | (with_reducible first | exact HB.out | apply aj | apply ah | apply ak) | exact HB.out)) hb);clear dh;clear HB;have dh:=bf;have HB:=gy;clear bf gy;(try clear hb);(try clear hb2);(try clear hk);(try clear hi)))
       go_ret
       exact⟨by first | rfl | (simp [aJ,aK]<;>rfl) | (simp [*,aJ,aK]<;>rfl),by repeat (first | (with_reducible first | exact HB.out | apply aj | apply ah | apply ak) | exact HB.out)⟩
      ·rw [if_neg c28] at H
       have adT:(a0.toList==([]:List UInt8))=false:=beq_eq_false_iff_ne.mpr c28
       have adU:(a0.toList !=([]:List UInt8))=true:=bne_iff_ne.mpr c28
       obtain rfl:=Option.some.inj H
       obtain⟨afR,afS,ae7⟩:=Kd.iW dh.out
       subst ae7
       go_wp2_with (first | ((with_reducible refine aQ (f:=177) rfl ?_);refine cZ (some 47) rfl rfl Tryz.func177 (by kernel_rfl) rfl #[.string a0] rfl (by(try simp only [List.map_toArray,List.map_cons,List.map_nil]);first | done | rfl | (simp only [List.length_drop,List.length_take];rfl)) ?_;(with_reducible refine(fH.calls k1 a0 true _ A26.out).mono ?_);rintro e w32 ⟨rfl,hb⟩;refine⟨_,rfl,?_⟩;have bf:=Aside0.mk (Kd.jE (by(with_reducible repeat (first | apply Kd.dK | apply Kd.dL | apply Kd.dZ));exact dh.out) hb);have gy:=Aside0.mk (aW (by repeat (first | (with_reducible first | exact HB.out | apply aj | apply ah | apply ak) | exact HB.out)) hb);clear dh;clear HB;have dh:=bf;have HB:=gy;clear bf gy;(try clear hb);(try clear hb2);(try clear hk);(try clear hi)))
       go_ret
       exact⟨by first | rfl | (simp [aJ,aK]<;>rfl) | (simp [*,aJ,aK]<;>rfl),by repeat (first | (with_reducible first | exact HB.out | apply aj | apply ah | apply ak) | exact HB.out)⟩
     ·replace c27:=Bool.eq_false_iff.mpr c27
      subst c27
      have H1:(some false)=some r:=by rw [if_neg (show ¬(false=true) by decide)] at H;exact H
      clear H
      have H:=H1
      clear H1
      obtain rfl:=Option.some.inj H
      obtain⟨afT,afU,ae8⟩:=Kd.iW dh.out
      subst ae8
      go_wp2_with (first | ((with_reducible refine aQ (f:=177) rfl ?_);refine cZ (some 47) rfl rfl Tryz.func177 (by kernel_rfl) rfl #[.string a0] rfl (by(try simp only [List.map_toArray,List.map_cons,List.map_nil]);first | done | rfl | (simp only [List.length_drop,List.length_take];rfl)) ?_;(with_reducible refine(fH.calls k1 a0 false _ A26.out).mono ?_);rintro e w34 ⟨rfl,hb⟩;refine⟨_,rfl,?_⟩;have bf:=Aside0.mk (Kd.jE (by(with_reducible repeat (first | apply Kd.dK | apply Kd.dL | apply Kd.dZ));exact dh.out) hb);have gy:=Aside0.mk (aW (by repeat (first | (with_reducible first | exact HB.out | apply aj | apply ah | apply ak) | exact HB.out)) hb);clear dh;clear HB;have dh:=bf;have HB:=gy;clear bf gy;(try clear hb);(try clear hb2);(try clear hk);(try clear hi)))
      go_ret
      exact⟨by first | rfl | (simp [aJ,aK]<;>rfl) | (simp [*,aJ,aK]<;>rfl),by repeat (first | (with_reducible first | exact HB.out | apply aj | apply ah | apply ak) | exact HB.out)⟩
def eY.f (a0:ByteArray):Option (Bool):=if 0<(a0.size:Int) then (if (bt a0 0)=43 then (some true) else (some ((bt a0 0)==35))) else (none)
set_option maxHeartbeats 8000000 in
set_option maxRecDepth 100000 in
theorem eY.calls (a0:ByteArray) (r:Bool) (w:World) (h:eY.f a0=some r):
  Calls Tryz.prog 150 #[.string a0] w fun e w'=>e= .returned (.bool r)∧aA w w':=by
 have H:(if 0<(a0.size:Int) then (if (bt a0 0)=43 then (some true) else (some ((bt a0 0)==35))) else (none))=some r:=h
 clear h
 by_cases c2:0<(a0.size:Int)
 ·rw [if_pos c2] at H
  have Vt:decide (0<(a0.size:Int))=true:=decide_eq_true c2
  have Vu:decide (0<a0.size)=true:=decide_eq_true (by omega)
  clear c2
  by_cases c4:(bt a0 0)=43
  ·rw [if_pos c4] at H
   have jM:((bt a0 0)==43)=true:=beq_iff_eq.mpr c4
   have KU:((bt a0 0) !=43)=false:=bne_eq_false_iff_eq.mpr c4
   clear c4
   obtain rfl:=Option.some.inj H
   have p3:0≤(0:Int):=(by omega)
   have q3:0<a0.size:=(by have:(0:Int)<(a0.size:Int):=of_decide_eq_true (by first | (with_reducible assumption) | assumption);omega)
   have hx3:∀h:0<a0.size,((a0[0]'h).toNat:Int)=bt a0 0:=pV a0 0
   clear p3
   have qi3:(0<(a0.size:Int))=True:=eq_true (of_decide_eq_true (by first | (with_reducible assumption) | assumption))
   replace q3:=eq_true q3
   go_enter Tryz.func150,Tryz.ntmps150
   go_wp2
   go_ret
   exact⟨by first | rfl | (simp;done) | (simp [*];done),by repeat (first | exact aA.refl _ | apply aA.step)⟩
  ·rw [if_neg c4] at H
   have jM:((bt a0 0)==43)=false:=beq_eq_false_iff_ne.mpr c4
   have KU:((bt a0 0) !=43)=true:=bne_iff_ne.mpr c4
   obtain rfl:=Option.some.inj H
   have p3:0≤(0:Int):=(by omega)
   have q3:0<a0.size:=(by have:(0:Int)<(a0.size:Int):=of_decide_eq_true (by first | (with_reducible assumption) | assumption);omega)
   have hx3:∀h:0<a0.size,((a0[0]'h).toNat:Int)=bt a0 0:=pV a0 0
   clear p3
   have qi3:(0<(a0.size:Int))=True:=eq_true (of_decide_eq_true (by first | (with_reducible assumption) | assumption))
   replace q3:=eq_true q3
   have p5:0≤(0:Int):=(by omega)
   have q5:0<a0.size:=(by have:(0:Int)<(a0.size:Int):=of_decide_eq_true (by first | (with_reducible assumption) | assumption);omega)
   have hx5:∀h:0<a0.size,((a0[0]'h).toNat:Int)=bt a0 0:=pV a0 0
   clear p5
   have qi5:(0<(a0.size:Int))=True:=eq_true (of_decide_eq_true (by first | (with_reducible assumption) | assumption))
   replace q5:=eq_true q5
   go_enter Tryz.func150,Tryz.ntmps150
   go_wp2
   go_ret
   exact⟨by first | rfl | (simp;done) | (simp [*];done),by repeat (first | exact aA.refl _ | apply aA.step)⟩
 ·rw [if_neg c2] at H
  exact absurd H (by simp)
def stringslite_HasPrefix.f (a0:ByteArray) (a1:ByteArray):Option (Bool):=if (a0.size:Int)≥(a1.size:Int) then (if 0≤(a1.size:Int) then (if (a1.size:Int)≤(a0.size:Int) then (some ((a0.extract 0 ((a1.size:Int):Int).toNat).toList==a1.toList)) else (none)) else (none)) else (some false)
set_option maxHeartbeats 8000000 in
set_option maxRecDepth 100000 in
theorem stringslite_HasPrefix.calls (a0:ByteArray) (a1:ByteArray) (r:Bool) (w:World) (h:stringslite_HasPrefix.f a0 a1=some r):
  Calls Tryz.prog 219 #[.string a0, .string a1] w fun e w'=>e= .returned (.bool r)∧aA w w':=by
 have H:(if (a0.size:Int)≥(a1.size:Int) then (if 0≤(a1.size:Int) then (if (a1.size:Int)≤(a0.size:Int) then (some ((a0.extract 0 ((a1.size:Int):Int).toNat).toList==a1.toList)) else (none)) else (none)) else (some false))=some r:=h
 clear h
 by_cases c3:(a0.size:Int)≥(a1.size:Int)
 ·rw [if_pos c3] at H
  have yM:decide ((a1.size:Int)≤(a0.size:Int))=true:=decide_eq_true c3
  have ZB:decide (a1.size≤a0.size)=true:=decide_eq_true (Int.ofNat_le.mp c3)
  clear c3
  by_cases c4:0≤(a1.size:Int)
  ·rw [if_pos c4] at H
   have jM:=eq_true c4
   have KU:decide (0≤(a1.size:Int))=true:=decide_eq_true c4
   clear c4
   by_cases c5:(a1.size:Int)≤(a0.size:Int)
   ·rw [if_pos c5] at H
    have sU:=eq_true c5
    have D8:decide ((a1.size:Int)≤(a0.size:Int))=true:=decide_eq_true c5
    clear c5
    obtain rfl:=Option.some.inj H
    go_enter Tryz.func219,Tryz.ntmps219
    go_wp2
    go_ret
    exact⟨by first | rfl | (simp;done) | (simp [*];done),by repeat (first | exact aA.refl _ | apply aA.step)⟩
   ·rw [if_neg c5] at H
    exact absurd H (by simp)
  ·rw [if_neg c4] at H
   exact absurd H (by simp)
 ·rw [if_neg c3] at H
  have yM:decide ((a1.size:Int)≤(a0.size:Int))=false:=decide_eq_false c3
  have ZB:decide (a1.size≤a0.size)=false:=decide_eq_false (fun h=>c3 (Int.ofNat_le.mpr h))
  clear c3
  obtain rfl:=Option.some.inj H
  go_enter Tryz.func219,Tryz.ntmps219
  go_wp2
  go_ret
  exact⟨by first | rfl | (simp;done) | (simp [*];done),by repeat (first | exact aA.refl _ | apply aA.step)⟩
end Go.Proofs.YtcnfgfomholheaaGreatDoor.P
