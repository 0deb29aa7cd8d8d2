import Derived.Test.YtcnfgfomholheaaGreatDoorPx0
import Derived.Test.YtcnfgfomholheaaGreatDoorPx2
import Derived.Test.YtcnfgfomholheaaGreatDoorPx3
import Derived.Test.YtcnfgfomholheaaGreatDoorX7
namespace Go.Proofs.YtcnfgfomholheaaGreatDoor.P
open Go.RowKit Go.Proofs.YtcnfgfomholheaaGreatDoor.X Go.Proofs.YtcnfgfomholheaaGreatDoorW.PrintWords Go.Proofs.YtcnfgfomholheaaGreatDoorW.PrintLast Go.Proofs.YtcnfgfomholheaaGreatDoorW.PrintMore
attribute [local go_sem] nG nH pU pV lM lN nI nJ
set_option linter.unusedVariables false
set_option linter.unusedSimpArgs false
def eU.f (k:Nat) (a0:ByteArray):Option (Bool):=(aT.f k a0).bind fun Le=>(some (decide (Le≥0)))
set_option maxHeartbeats 8000000 in
set_option maxRecDepth 100000 in
theorem eU.calls (k:Nat) (a0:ByteArray) (r:Bool) (w:World) (h:eU.f k a0=some r):
  Calls Tryz.prog 177 #[.string a0] w fun e w'=>e= .returned (.bool r)∧Below w.heap.size w w':=by
 have HB:=Aside0.mk (Below.refl w.heap.size w)
 have H:((aT.f k a0).bind fun Le=>(some (decide (Le≥0))))=some r:=h
 clear h
 replace H:=Option.bind_eq_some_iff.mp H
 obtain⟨Le,qm,H⟩:=H
 replace H:(some (decide (Le≥0)))=some r:=H
 have A2:=Aside0.mk qm
 clear qm
 obtain rfl:=Option.some.inj H
 go_enter Tryz.func177,Tryz.ntmps177
 go_wp2_with (first | ((with_reducible refine bn (f:=208) rfl ?_);refine dP (some 4) rfl rfl Tryz.func208 (by kernel_rfl) rfl #[.string a0] rfl (by(try simp only [List.map_toArray,List.map_cons,List.map_nil]);first | done | rfl | (simp only [List.length_drop,List.length_take];rfl)) ?_;(with_reducible refine(aT.calls k a0 Le _ A2.out).mono ?_);rintro e w3 ⟨rfl,hb⟩;refine⟨_,rfl,?_⟩;have bZ:=Aside0.mk (bG (by repeat (first | (with_reducible first | exact HB.out | apply aj | apply ah | apply ak) | exact HB.out)) hb);clear HB;have HB:=bZ;clear bZ;(try clear hb);(try clear hb2);(try clear hk);(try clear hi)))
 go_ret
 exact⟨by first | rfl | (simp [aJ,aK]<;>rfl) | (simp [*,aJ,aK]<;>rfl),by repeat (first | (with_reducible first | exact HB.out | apply aj | apply ah | apply ak) | exact HB.out)⟩
def oh.f (k:Nat) (a0:ByteArray):Option (Bool):=(eU.f k a0).bind fun Lh=>(if Lh=true then (if a0.toList=([]:List UInt8) then (some false) else ((aI.f k a0 43).bind fun t130=>(if t130=true then (some false) else ((aI.f k a0 35).bind fun t131=>(if t131=true then (some false) else ((bF.f k a0).bind fun mX=>(some (decide ((mX.length:Int)≤6))))))))) else (some false))
set_option maxHeartbeats 8000000 in
set_option maxRecDepth 100000 in
theorem oh.calls (k:Nat) (a0:ByteArray) (r:Bool) (w:World) (h:oh.f k a0=some r):
  Calls Tryz.prog 181 #[.string a0] w fun e w'=>e= .returned (.bool r)∧Below w.heap.size w w':=by
 have HB:=Aside0.mk (Below.refl w.heap.size w)
 have H:((eU.f k a0).bind fun Lh=>(if Lh=true then (if a0.toList=([]:List UInt8) then (some false) else ((aI.f k a0 43).bind fun t130=>(if t130=true then (some false) else ((aI.f k a0 35).bind fun t131=>(if t131=true then (some false) else ((bF.f k a0).bind fun mX=>(some (decide ((mX.length:Int)≤6))))))))) else (some false)))=some r:=h
 clear h
 replace H:=Option.bind_eq_some_iff.mp H
 obtain⟨Lh,qm,H⟩:=H
 replace H:(if Lh=true then (if a0.toList=([]:List UInt8) then (some false) else ((aI.f k a0 43).bind fun t130=>(if t130=true then (some false) else ((aI.f k a0 35).bind fun t131=>(if t131=true then (some false) else ((bF.f k a0).bind fun mX=>(some (decide ((mX.length:Int)≤6))))))))) else (some false))=some r:=H
 have A2:=Aside0.mk qm
 clear qm
 by_cases c3:Lh=true
 ·subst c3
  have H1:(if a0.toList=([]:List UInt8) then (some false) else ((aI.f k a0 43).bind fun t130=>(if t130=true then (some false) else ((aI.f k a0 35).bind fun t131=>(if t131=true then (some false) else ((bF.f k a0).bind fun mX=>(some (decide ((mX.length:Int)≤6)))))))))=some r:=by rw [if_pos rfl] at H;exact H
  clear H
  have H:=H1
  clear H1
  by_cases c4:a0.toList=([]:List UInt8)
  ·rw [if_pos c4] at H
   have kV:(a0.toList==([]:List UInt8))=true:=beq_iff_eq.mpr c4
   have ZR:(a0.toList !=([]:List UInt8))=false:=bne_eq_false_iff_eq.mpr c4
   clear c4
   obtain rfl:=Option.some.inj H
   go_enter Tryz.func181,Tryz.ntmps181
   go_wp2_with (first | ((with_reducible refine bn (f:=177) rfl ?_);refine dP (some 4) rfl rfl Tryz.func177 (by kernel_rfl) rfl #[.string a0] rfl (by(try simp only [List.map_toArray,List.map_cons,List.map_nil]);first | done | rfl | (simp only [List.length_drop,List.length_take];rfl)) ?_;(with_reducible refine(eU.calls k a0 true _ A2.out).mono ?_);rintro e w5 ⟨rfl,hb⟩;refine⟨_,rfl,?_⟩;have bZ:=Aside0.mk (bG (by repeat (first | (with_reducible first | exact HB.out | apply aj | apply ah | apply ak) | exact HB.out)) hb);clear HB;have HB:=bZ;clear bZ;(try clear hb);(try clear hb2);(try clear hk);(try clear hi)))
   go_ret
   exact⟨by first | rfl | (simp [aJ,aK]<;>rfl) | (simp [*,aJ,aK]<;>rfl),by repeat (first | (with_reducible first | exact HB.out | apply aj | apply ah | apply ak) | exact HB.out)⟩
  ·rw [if_neg c4] at H
   have kV:(a0.toList==([]:List UInt8))=false:=beq_eq_false_iff_ne.mpr c4
   have ZR:(a0.toList !=([]:List UInt8))=true:=bne_iff_ne.mpr c4
   replace H:=Option.bind_eq_some_iff.mp H
   obtain⟨t130,Nl,H⟩:=H
   replace H:(if t130=true then (some false) else ((aI.f k a0 35).bind fun t131=>(if t131=true then (some false) else ((bF.f k a0).bind fun mX=>(some (decide ((mX.length:Int)≤6)))))))=some r:=H
   have A6:=Aside0.mk Nl
   clear Nl
   by_cases c7:t130=true
   ·subst c7
    have H1:(some false)=some r:=by rw [if_pos rfl] at H;exact H
    clear H
    have H:=H1
    clear H1
    obtain rfl:=Option.some.inj H
    go_enter Tryz.func181,Tryz.ntmps181
    go_wp2_with (first | ((with_reducible refine bn (f:=177) rfl ?_);refine dP (some 4) rfl rfl Tryz.func177 (by kernel_rfl) rfl #[.string a0] rfl (by(try simp only [List.map_toArray,List.map_cons,List.map_nil]);first | done | rfl | (simp only [List.length_drop,List.length_take];rfl)) ?_;(with_reducible refine(eU.calls k a0 true _ A2.out).mono ?_);rintro e w8 ⟨rfl,hb⟩;refine⟨_,rfl,?_⟩;have bZ:=Aside0.mk (bG (by repeat (first | (with_reducible first | exact HB.out | apply aj | apply ah | apply ak) | exact HB.out)) hb);clear HB;have HB:=bZ;clear bZ;(try clear hb);(try clear hb2);(try clear hk);(try clear hi)) | (go_at_call 176;(with_reducible refine(aI.calls k a0 43 true _ A6.out).mono ?_);rintro e w' ⟨rfl,⟨nd,rfl⟩⟩))
    go_ret
    exact⟨by first | rfl | (simp [aJ,aK]<;>rfl) | (simp [*,aJ,aK]<;>rfl),by repeat (first | (with_reducible first | exact HB.out | apply aj | apply ah | apply ak) | exact HB.out)⟩
   ·replace c7:=Bool.eq_false_iff.mpr c7
    subst c7
    have H1:((aI.f k a0 35).bind fun t131=>(if t131=true then (some false) else ((bF.f k a0).bind fun mX=>(some (decide ((mX.length:Int)≤6))))))=some r:=by rw [if_neg (show ¬(false=true) by decide)] at H;exact H
    clear H
    have H:=H1
    clear H1
    replace H:=Option.bind_eq_some_iff.mp H
    obtain⟨t131,YD,H⟩:=H
    replace H:(if t131=true then (some false) else ((bF.f k a0).bind fun mX=>(some (decide ((mX.length:Int)≤6)))))=some r:=H
    have A9:=Aside0.mk YD
    clear YD
    by_cases c10:t131=true
    ·subst c10
     have H1:(some false)=some r:=by rw [if_pos rfl] at H;exact H
     clear H
     have H:=H1
     clear H1
     obtain rfl:=Option.some.inj H
     go_enter Tryz.func181,Tryz.ntmps181
     go_wp2_with (first | ((with_reducible refine bn (f:=177) rfl ?_);refine dP (some 4) rfl rfl Tryz.func177 (by kernel_rfl) rfl #[.string a0] rfl (by(try simp only [List.map_toArray,List.map_cons,List.map_nil]);first | done | rfl | (simp only [List.length_drop,List.length_take];rfl)) ?_;(with_reducible refine(eU.calls k a0 true _ A2.out).mono ?_);rintro e w11 ⟨rfl,hb⟩;refine⟨_,rfl,?_⟩;have bZ:=Aside0.mk (bG (by repeat (first | (with_reducible first | exact HB.out | apply aj | apply ah | apply ak) | exact HB.out)) hb);clear HB;have HB:=bZ;clear bZ;(try clear hb);(try clear hb2);(try clear hk);(try clear hi)) | (go_at_call 176;(with_reducible refine(aI.calls k a0 43 false _ A6.out).mono ?_);rintro e w' ⟨rfl,⟨nd,rfl⟩⟩) | (go_at_call 176;(with_reducible refine(aI.calls k a0 35 true _ A9.out).mono ?_);rintro e w' ⟨rfl,⟨nd,rfl⟩⟩))
     go_ret
     exact⟨by first | rfl | (simp [aJ,aK]<;>rfl) | (simp [*,aJ,aK]<;>rfl),by repeat (first | (with_reducible first | exact HB.out | apply aj | apply ah | apply ak) | exact HB.out)⟩
    ·replace c10:=Bool.eq_false_iff.mpr c10
     subst c10
     have H1:((bF.f k a0).bind fun mX=>(some (decide ((mX.length:Int)≤6))))=some r:=by rw [if_neg (show ¬(false=true) by decide)] at H;exact H
     clear H
     have H:=H1
     clear H1
     replace H:=Option.bind_eq_some_iff.mp H
     obtain⟨mX,QT,H⟩:=H
     replace H:(some (decide ((mX.length:Int)≤6)))=some r:=H
     have YB:=Aside0.mk QT
     clear QT
     obtain rfl:=Option.some.inj H
     go_enter Tryz.func181,Tryz.ntmps181
     go_wp2_with (first | ((with_reducible refine bn (f:=177) rfl ?_);refine dP (some 4) rfl rfl Tryz.func177 (by kernel_rfl) rfl #[.string a0] rfl (by(try simp only [List.map_toArray,List.map_cons,List.map_nil]);first | done | rfl | (simp only [List.length_drop,List.length_take];rfl)) ?_;(with_reducible refine(eU.calls k a0 true _ A2.out).mono ?_);rintro e w13 ⟨rfl,hb⟩;refine⟨_,rfl,?_⟩;have bZ:=Aside0.mk (bG (by repeat (first | (with_reducible first | exact HB.out | apply aj | apply ah | apply ak) | exact HB.out)) hb);clear HB;have HB:=bZ;clear bZ;(try clear hb);(try clear hb2);(try clear hk);(try clear hi)) | (go_at_call 176;(with_reducible refine(aI.calls k a0 43 false _ A6.out).mono ?_);rintro e w' ⟨rfl,⟨nd,rfl⟩⟩) | (go_at_call 176;(with_reducible refine(aI.calls k a0 35 false _ A9.out).mono ?_);rintro e w' ⟨rfl,⟨nd,rfl⟩⟩) | (go_at_call 108;(with_reducible refine(bF.calls k a0 mX _ YB.out).mono ?_);rintro e w14 ⟨afN,rfl,ho0,hb⟩;have bZ:=Aside0.mk (Kd.qU ho0 (kM (by repeat (first | (with_reducible first | exact HB.out | apply aj | apply ah | apply ak) | exact HB.out))));have iK:=Aside0.mk (bG (by repeat (first | (with_reducible first | exact HB.out | apply aj | apply ah | apply ak) | exact HB.out)) hb);clear HB;have ad7:=bZ;have HB:=iK;clear bZ iK;(try clear hb);(try clear hb2);(try clear hk);(try clear hi);(try clear ho0);obtain⟨afa,afb,ZY⟩:=Kd.jF ad7.out;subst ZY))
     go_ret
     exact⟨by first | rfl | (simp [aJ,aK]<;>rfl) | (simp [*,aJ,aK]<;>rfl),by repeat (first | (with_reducible first | exact HB.out | apply aj | apply ah | apply ak) | exact HB.out)⟩
 ·replace c3:=Bool.eq_false_iff.mpr c3
  subst c3
  have H1:(some false)=some r:=by rw [if_neg (show ¬(false=true) by decide)] at H;exact H
  clear H
  have H:=H1
  clear H1
  obtain rfl:=Option.some.inj H
  go_enter Tryz.func181,Tryz.ntmps181
  go_wp2_with (first | ((with_reducible refine bn (f:=177) rfl ?_);refine dP (some 4) rfl rfl Tryz.func177 (by kernel_rfl) rfl #[.string a0] rfl (by(try simp only [List.map_toArray,List.map_cons,List.map_nil]);first | done | rfl | (simp only [List.length_drop,List.length_take];rfl)) ?_;(with_reducible refine(eU.calls k a0 false _ A2.out).mono ?_);rintro e w16 ⟨rfl,hb⟩;refine⟨_,rfl,?_⟩;have bZ:=Aside0.mk (bG (by repeat (first | (with_reducible first | exact HB.out | apply aj | apply ah | apply ak) | exact HB.out)) hb);clear HB;have HB:=bZ;clear bZ;(try clear hb);(try clear hb2);(try clear hk);(try clear hi)))
  go_ret
  exact⟨by first | rfl | (simp [aJ,aK]<;>rfl) | (simp [*,aJ,aK]<;>rfl),by repeat (first | (with_reducible first | exact HB.out | apply aj | apply ah | apply ak) | exact HB.out)⟩
def aQ.l0:Nat→ByteArray→List ByteArray→Int→Option (Bool)
 | 0,_,_,_=>none
 | k+1,x0,x3,x4=>if x4<(x3.length:Int) then (if 0≤x4 then ((aI.f k (bT ByteArray.empty x3 x4) 43).bind fun V3=>(if V3=true then (if (bT ByteArray.empty x3 x4).toList=([43]:List UInt8) then ((aI.f k (bT ByteArray.empty x3 x4) 35).bind fun t143=>(if t143=true then (if (bT ByteArray.empty x3 x4).toList=([35]:List UInt8) then (if x4<(wrap64 ((x3.length:Int) - 1)) then (some false) else (aQ.l0 k x0 x3 (wrap64 (x4+1)))) else (some false)) else (aQ.l0 k x0 x3 (wrap64 (x4+1))))) else (some false)) else ((aI.f k (bT ByteArray.empty x3 x4) 35).bind fun t146=>(if t146=true then (if (bT ByteArray.empty x3 x4).toList=([35]:List UInt8) then (if x4<(wrap64 ((x3.length:Int) - 1)) then (some false) else (aQ.l0 k x0 x3 (wrap64 (x4+1)))) else (some false)) else (aQ.l0 k x0 x3 (wrap64 (x4+1))))))) else (none)) else ((eU.f k x0).bind fun t138=>(if t138=true then (if x0.toList=([]:List UInt8) then (some false) else (some (decide ((x3.length:Int)≤6)))) else (some false)))
def aQ.f (k:Nat) (a0:ByteArray):Option (Bool):=(bF.f k a0).bind fun aN=>(aQ.l0 k a0 aN 0)
set_option maxHeartbeats 8000000 in
set_option maxRecDepth 100000 in
theorem aQ.calls (k:Nat) (a0:ByteArray) (r:Bool) (w:World) (h:aQ.f k a0=some r):
  Calls Tryz.prog 106 #[.string a0] w fun e w'=>e= .returned (.bool r)∧Below w.heap.size w w':=by
 have HB:=Aside0.mk (Below.refl w.heap.size w)
 have H:((bF.f k a0).bind fun aN=>(aQ.l0 k a0 aN 0))=some r:=h
 clear h
 replace H:=Option.bind_eq_some_iff.mp H
 obtain⟨aN,qm,H⟩:=H
 replace H:(aQ.l0 k a0 aN 0)=some r:=H
 have A2:=Aside0.mk qm
 clear qm
 have H':=Aside0.mk H
 clear H
 go_enter Tryz.func106,Tryz.ntmps106
 go_wp2_with (first | ((with_reducible refine bn (f:=108) rfl ?_);refine dP (some 6) rfl rfl Tryz.func108 (by kernel_rfl) rfl #[.string a0] rfl (by(try simp only [List.map_toArray,List.map_cons,List.map_nil]);first | done | rfl | (simp only [List.length_drop,List.length_take];rfl)) ?_;(with_reducible refine(bF.calls k a0 aN _ A2.out).mono ?_);rintro e w3 ⟨afc,rfl,ho0,hb⟩;refine⟨_,rfl,?_⟩;have bZ:=Aside0.mk (Kd.qU ho0 (kM (by repeat (first | (with_reducible first | exact HB.out | apply aj | apply ah | apply ak) | exact HB.out))));have iK:=Aside0.mk (bG (by repeat (first | (with_reducible first | exact HB.out | apply aj | apply ah | apply ak) | exact HB.out)) hb);clear HB;have ad8:=bZ;have HB:=iK;clear bZ iK;(try clear hb);(try clear hb2);(try clear hk);(try clear hi);(try clear ho0)))
 go_loopg [4] k (fun kq v4 w'=>∃(x4_1:Int),v4= .int .i64 x4_1∧Aside0 (aQ.l0 kq a0 aN x4_1=some r)∧Aside0 (kq≤k)∧Aside0 (Kd.R Kd.string 9 w' w.heap.size (fun _=>True) afc aN)∧Aside0 (Below w.heap.size w w'))
 case atStart=>exact⟨(0),(by first | rfl | (simp;done) | (simp [*];done)),H',⟨Nat.le_refl _⟩,⟨by(with_reducible repeat (first | apply Kd.dN | apply Kd.dO | apply Kd.eX));exact ad8.out⟩,⟨by repeat (first | (with_reducible first | exact HB.out | apply aj | apply ah | apply ak) | exact HB.out)⟩⟩
 case round=>
  clear H'
  try clear c1
  try clear p2
  obtain⟨x4_1,rfl,HA,oN,bV,HB⟩:=hrel
  cases gk with
  | zero=>exact absurd HA.out (by simp [aQ.l0])
  | succ k1=>
    have H:=HA.out
    clear HA
    simp only [aQ.l0] at H
    by_cases c4:x4_1<(aN.length:Int)
    ·rw [if_pos c4] at H
     have kV:decide (x4_1<(aN.length:Int))=true:=decide_eq_true c4
     clear c4
     by_cases c5:0≤x4_1
     ·rw [if_pos c5] at H
      have KZ:decide (0≤x4_1)=true:=decide_eq_true c5
      clear c5
      replace H:=Option.bind_eq_some_iff.mp H
      obtain⟨V3,Nl,H⟩:=H
      replace H:(if V3=true then (if (bT ByteArray.empty aN x4_1).toList=([43]:List UInt8) then ((aI.f k1 (bT ByteArray.empty aN x4_1) 35).bind fun t143=>(if t143=true then (if (bT ByteArray.empty aN x4_1).toList=([35]:List UInt8) then (if x4_1<(wrap64 ((aN.length:Int) - 1)) then (some false) else (aQ.l0 k1 a0 aN (wrap64 (x4_1+1)))) else (some false)) else (aQ.l0 k1 a0 aN (wrap64 (x4_1+1))))) else (some false)) else ((aI.f k1 (bT ByteArray.empty aN x4_1) 35).bind fun t146=>(if t146=true then (if (bT ByteArray.empty aN x4_1).toList=([35]:List UInt8) then (if x4_1<(wrap64 ((aN.length:Int) - 1)) then (some false) else (aQ.l0 k1 a0 aN (wrap64 (x4_1+1)))) else (some false)) else (aQ.l0 k1 a0 aN (wrap64 (x4_1+1))))))=some r:=H
      have A6:=Aside0.mk Nl
      clear Nl
      by_cases c7:V3=true
      ·subst c7
       have H1:(if (bT ByteArray.empty aN x4_1).toList=([43]:List UInt8) then ((aI.f k1 (bT ByteArray.empty aN x4_1) 35).bind fun t143=>(if t143=true then (if (bT ByteArray.empty aN x4_1).toList=([35]:List UInt8) then (if x4_1<(wrap64 ((aN.length:Int) - 1)) then (some false) else (aQ.l0 k1 a0 aN (wrap64 (x4_1+1)))) else (some false)) else (aQ.l0 k1 a0 aN (wrap64 (x4_1+1))))) else (some false))=some r:=by rw [if_pos rfl] at H;exact H
       clear H
       have H:=H1
       clear H1
       by_cases c8:(bT ByteArray.empty aN x4_1).toList=([43]:List UInt8)
       ·rw [if_pos c8] at H
        have D5:((bT ByteArray.empty aN x4_1).toList==([43]:List UInt8))=true:=beq_iff_eq.mpr c8
        have afd:((bT ByteArray.empty aN x4_1).toList !=([43]:List UInt8))=false:=bne_eq_false_iff_eq.mpr c8
        clear c8
        replace H:=Option.bind_eq_some_iff.mp H
        obtain⟨t143,YD,H⟩:=H
        replace H:(if t143=true then (if (bT ByteArray.empty aN x4_1).toList=([35]:List UInt8) then (if x4_1<(wrap64 ((aN.length:Int) - 1)) then (some false) else (aQ.l0 k1 a0 aN (wrap64 (x4_1+1)))) else (some false)) else (aQ.l0 k1 a0 aN (wrap64 (x4_1+1))))=some r:=H
        have A9:=Aside0.mk YD
        clear YD
        by_cases c10:t143=true
        ·subst c10
         have H1:(if (bT ByteArray.empty aN x4_1).toList=([35]:List UInt8) then (if x4_1<(wrap64 ((aN.length:Int) - 1)) then (some false) else (aQ.l0 k1 a0 aN (wrap64 (x4_1+1)))) else (some false))=some r:=by rw [if_pos rfl] at H;exact H
         clear H
         have H:=H1
         clear H1
         by_cases c11:(bT ByteArray.empty aN x4_1).toList=([35]:List UInt8)
         ·rw [if_pos c11] at H
          have oZ:((bT ByteArray.empty aN x4_1).toList==([35]:List UInt8))=true:=beq_iff_eq.mpr c11
          have ad9:((bT ByteArray.empty aN x4_1).toList !=([35]:List UInt8))=false:=bne_eq_false_iff_eq.mpr c11
          clear c11
          by_cases c12:x4_1<(wrap64 ((aN.length:Int) - 1))
          ·rw [if_pos c12] at H
           have aaq:decide (x4_1<(wrap64 ((aN.length:Int) - 1)))=true:=decide_eq_true c12
           clear c12
           obtain rfl:=Option.some.inj H
           obtain⟨afO,afP,afe⟩:=Kd.jF bV.out
           subst afe
           have iL:0≤(x4_1:Int):=of_decide_eq_true (by first | (with_reducible assumption) | assumption)
           have iM:x4_1<(aN.length:Int):=of_decide_eq_true (by first | (with_reducible assumption) | assumption)
           obtain⟨iR,ou,qo⟩:=Kd.bY (Kd.bU bV.out).2.2 x4_1 iL iM
           cases ou
           replace iL:=eq_true iL
           replace iM:=eq_true iM
           go_wp2_with (first | ((with_reducible refine bn (f:=176) rfl ?_);refine dP (some 17) rfl rfl Tryz.func176 (by kernel_rfl) rfl #[.string (bT ByteArray.empty aN x4_1), .int .u8 43] rfl (by(try simp only [List.map_toArray,List.map_cons,List.map_nil]);first | done | rfl | (simp only [List.length_drop,List.length_take];rfl)) ?_;(with_reducible refine(aI.calls k1 (bT ByteArray.empty aN x4_1) 43 true _ A6.out).mono ?_);rintro e w' ⟨rfl,⟨nd,rfl⟩⟩;refine⟨_,rfl,?_⟩;have l9:0≤(x4_1:Int):=of_decide_eq_true (by first | (with_reducible assumption) | assumption);have mg:x4_1<(aN.length:Int):=of_decide_eq_true (by first | (with_reducible assumption) | assumption);obtain⟨uQ,AP,EY⟩:=Kd.bY (Kd.bU bV.out).2.2 x4_1 l9 mg;obtain rfl:iR=uQ:=(by injection AP);replace l9:=eq_true l9;replace mg:=eq_true mg;have pJ:0≤(x4_1:Int):=of_decide_eq_true (by first | (with_reducible assumption) | assumption);have pK:x4_1<(aN.length:Int):=of_decide_eq_true (by first | (with_reducible assumption) | assumption);obtain⟨AQ,Hl,Lj⟩:=Kd.bY (Kd.bU bV.out).2.2 x4_1 pJ pK;obtain rfl:iR=AQ:=(by injection Hl);replace pJ:=eq_true pJ;replace pK:=eq_true pK) | (go_at_call 176;(with_reducible refine(aI.calls k1 (bT ByteArray.empty aN x4_1) 35 true _ A9.out).mono ?_);rintro e w' ⟨rfl,⟨nd,rfl⟩⟩;have wP:0≤(x4_1:Int):=of_decide_eq_true (by first | (with_reducible assumption) | assumption);have wQ:x4_1<(aN.length:Int):=of_decide_eq_true (by first | (with_reducible assumption) | assumption);obtain⟨JG,QU,Ui⟩:=Kd.bY (Kd.bU bV.out).2.2 x4_1 wP wQ;obtain rfl:iR=JG:=(by injection QU);replace wP:=eq_true wP;replace wQ:=eq_true wQ))
           go_ret
           exact⟨by first | rfl | (simp [aJ,aK]<;>rfl) | (simp [*,aJ,aK]<;>rfl),by repeat (first | (with_reducible first | exact HB.out | apply aj | apply ah | apply ak) | exact HB.out)⟩
          ·rw [if_neg c12] at H
           have aaq:decide (x4_1<(wrap64 ((aN.length:Int) - 1)))=false:=decide_eq_false c12
           clear c12
           have H':=Aside0.mk H
           clear H
           obtain⟨ae6,ae7,ZT⟩:=Kd.jF bV.out
           subst ZT
           have iL:0≤(x4_1:Int):=of_decide_eq_true (by first | (with_reducible assumption) | assumption)
           have iM:x4_1<(aN.length:Int):=of_decide_eq_true (by first | (with_reducible assumption) | assumption)
           obtain⟨iR,ou,qo⟩:=Kd.bY (Kd.bU bV.out).2.2 x4_1 iL iM
           cases ou
           replace iL:=eq_true iL
           replace iM:=eq_true iM
           go_wp2_with (first | ((with_reducible refine bn (f:=176) rfl ?_);refine dP (some 17) rfl rfl Tryz.func176 (by kernel_rfl) rfl #[.string (bT ByteArray.empty aN x4_1), .int .u8 43] rfl (by(try simp only [List.map_toArray,List.map_cons,List.map_nil]);first | done | rfl | (simp only [List.length_drop,List.length_take];rfl)) ?_;(with_reducible refine(aI.calls k1 (bT ByteArray.empty aN x4_1) 43 true _ A6.out).mono ?_);rintro e w' ⟨rfl,⟨nd,rfl⟩⟩;refine⟨_,rfl,?_⟩;have l9:0≤(x4_1:Int):=of_decide_eq_true (by first | (with_reducible assumption) | assumption);have mg:x4_1<(aN.length:Int):=of_decide_eq_true (by first | (with_reducible assumption) | assumption);obtain⟨uQ,AP,EY⟩:=Kd.bY (Kd.bU bV.out).2.2 x4_1 l9 mg;obtain rfl:iR=uQ:=(by injection AP);replace l9:=eq_true l9;replace mg:=eq_true mg;have pJ:0≤(x4_1:Int):=of_decide_eq_true (by first | (with_reducible assumption) | assumption);have pK:x4_1<(aN.length:Int):=of_decide_eq_true (by first | (with_reducible assumption) | assumption);obtain⟨AQ,Hl,Lj⟩:=Kd.bY (Kd.bU bV.out).2.2 x4_1 pJ pK;obtain rfl:iR=AQ:=(by injection Hl);replace pJ:=eq_true pJ;replace pK:=eq_true pK) | (go_at_call 176;(with_reducible refine(aI.calls k1 (bT ByteArray.empty aN x4_1) 35 true _ A9.out).mono ?_);rintro e w' ⟨rfl,⟨nd,rfl⟩⟩;have wP:0≤(x4_1:Int):=of_decide_eq_true (by first | (with_reducible assumption) | assumption);have wQ:x4_1<(aN.length:Int):=of_decide_eq_true (by first | (with_reducible assumption) | assumption);obtain⟨JG,QU,Ui⟩:=Kd.bY (Kd.bU bV.out).2.2 x4_1 wP wQ;obtain rfl:iR=JG:=(by injection QU);replace wP:=eq_true wP;replace wQ:=eq_true wQ))
           go_roundg k1
           case measure=>have:=oN.out;omega
           case rel=>exact⟨(wrap64 (x4_1+1)),(by first | rfl | (simp;done) | (simp [*];done)),H',⟨by have:=oN.out;omega⟩,⟨by(with_reducible repeat (first | apply Kd.dN | apply Kd.dO | apply Kd.eX));exact bV.out⟩,⟨by repeat (first | (with_reducible first | exact HB.out | apply aj | apply ah | apply ak) | exact HB.out)⟩⟩
         ·rw [if_neg c11] at H
          have oZ:((bT ByteArray.empty aN x4_1).toList==([35]:List UInt8))=false:=beq_eq_false_iff_ne.mpr c11
          have ad9:((bT ByteArray.empty aN x4_1).toList !=([35]:List UInt8))=true:=bne_iff_ne.mpr c11
          obtain rfl:=Option.some.inj H
          obtain⟨afa,afb,ZY⟩:=Kd.jF bV.out
          subst ZY
          have iL:0≤(x4_1:Int):=of_decide_eq_true (by first | (with_reducible assumption) | assumption)
          have iM:x4_1<(aN.length:Int):=of_decide_eq_true (by first | (with_reducible assumption) | assumption)
          obtain⟨iR,ou,qo⟩:=Kd.bY (Kd.bU bV.out).2.2 x4_1 iL iM
          cases ou
          replace iL:=eq_true iL
          replace iM:=eq_true iM
          go_wp2_with (first | ((with_reducible refine bn (f:=176) rfl ?_);refine dP (some 17) rfl rfl Tryz.func176 (by kernel_rfl) rfl #[.string (bT ByteArray.empty aN x4_1), .int .u8 43] rfl (by(try simp only [List.map_toArray,List.map_cons,List.map_nil]);first | done | rfl | (simp only [List.length_drop,List.length_take];rfl)) ?_;(with_reducible refine(aI.calls k1 (bT ByteArray.empty aN x4_1) 43 true _ A6.out).mono ?_);rintro e w' ⟨rfl,⟨nd,rfl⟩⟩;refine⟨_,rfl,?_⟩;have l9:0≤(x4_1:Int):=of_decide_eq_true (by first | (with_reducible assumption) | assumption);have mg:x4_1<(aN.length:Int):=of_decide_eq_true (by first | (with_reducible assumption) | assumption);obtain⟨uQ,AP,EY⟩:=Kd.bY (Kd.bU bV.out).2.2 x4_1 l9 mg;obtain rfl:iR=uQ:=(by injection AP);replace l9:=eq_true l9;replace mg:=eq_true mg;have pJ:0≤(x4_1:Int):=of_decide_eq_true (by first | (with_reducible assumption) | assumption);have pK:x4_1<(aN.length:Int):=of_decide_eq_true (by first | (with_reducible assumption) | assumption);obtain⟨AQ,Hl,Lj⟩:=Kd.bY (Kd.bU bV.out).2.2 x4_1 pJ pK;obtain rfl:iR=AQ:=(by injection Hl);replace pJ:=eq_true pJ;replace pK:=eq_true pK) | (go_at_call 176;(with_reducible refine(aI.calls k1 (bT ByteArray.empty aN x4_1) 35 true _ A9.out).mono ?_);rintro e w' ⟨rfl,⟨nd,rfl⟩⟩;have wP:0≤(x4_1:Int):=of_decide_eq_true (by first | (with_reducible assumption) | assumption);have wQ:x4_1<(aN.length:Int):=of_decide_eq_true (by first | (with_reducible assumption) | assumption);obtain⟨JG,QU,Ui⟩:=Kd.bY (Kd.bU bV.out).2.2 x4_1 wP wQ;obtain rfl:iR=JG:=(by injection QU);replace wP:=eq_true wP;replace wQ:=eq_true wQ))
          go_ret
          exact⟨by first | rfl | (simp [aJ,aK]<;>rfl) | (simp [*,aJ,aK]<;>rfl),by repeat (first | (with_reducible first | exact HB.out | apply aj | apply ah | apply ak) | exact HB.out)⟩
        ·replace c10:=Bool.eq_false_iff.mpr c10
         subst c10
         have H1:(aQ.l0 k1 a0 aN (wrap64 (x4_1+1)))=some r:=by rw [if_neg (show ¬(false=true) by decide)] at H;exact H
         clear H
         have H:=H1
         clear H1
         have H':=Aside0.mk H
         clear H
         obtain⟨afQ,afR,aff⟩:=Kd.jF bV.out
         subst aff
         have iL:0≤(x4_1:Int):=of_decide_eq_true (by first | (with_reducible assumption) | assumption)
         have iM:x4_1<(aN.length:Int):=of_decide_eq_true (by first | (with_reducible assumption) | assumption)
         obtain⟨iR,ou,qo⟩:=Kd.bY (Kd.bU bV.out).2.2 x4_1 iL iM
         cases ou
         replace iL:=eq_true iL
         replace iM:=eq_true iM
         go_wp2_with (first | ((with_reducible refine bn (f:=176) rfl ?_);refine dP (some 17) rfl rfl Tryz.func176 (by kernel_rfl) rfl #[.string (bT ByteArray.empty aN x4_1), .int .u8 43] rfl (by(try simp only [List.map_toArray,List.map_cons,List.map_nil]);first | done | rfl | (simp only [List.length_drop,List.length_take];rfl)) ?_;(with_reducible refine(aI.calls k1 (bT ByteArray.empty aN x4_1) 43 true _ A6.out).mono ?_);rintro e w' ⟨rfl,⟨nd,rfl⟩⟩;refine⟨_,rfl,?_⟩;have l9:0≤(x4_1:Int):=of_decide_eq_true (by first | (with_reducible assumption) | assumption);have mg:x4_1<(aN.length:Int):=of_decide_eq_true (by first | (with_reducible assumption) | assumption);obtain⟨uQ,AP,EY⟩:=Kd.bY (Kd.bU bV.out).2.2 x4_1 l9 mg;obtain rfl:iR=uQ:=(by injection AP);replace l9:=eq_true l9;replace mg:=eq_true mg;have pJ:0≤(x4_1:Int):=of_decide_eq_true (by first | (with_reducible assumption) | assumption);have pK:x4_1<(aN.length:Int):=of_decide_eq_true (by first | (with_reducible assumption) | assumption);obtain⟨AQ,Hl,Lj⟩:=Kd.bY (Kd.bU bV.out).2.2 x4_1 pJ pK;obtain rfl:iR=AQ:=(by injection Hl);replace pJ:=eq_true pJ;replace pK:=eq_true pK) | (go_at_call 176;(with_reducible refine(aI.calls k1 (bT ByteArray.empty aN x4_1) 35 false _ A9.out).mono ?_);rintro e w' ⟨rfl,⟨nd,rfl⟩⟩))
         go_roundg k1
         case measure=>have:=oN.out;omega
         case rel=>exact⟨(wrap64 (x4_1+1)),(by first | rfl | (simp;done) | (simp [*];done)),H',⟨by have:=oN.out;omega⟩,⟨by(with_reducible repeat (first | apply Kd.dN | apply Kd.dO | apply Kd.eX));exact bV.out⟩,⟨by repeat (first | (with_reducible first | exact HB.out | apply aj | apply ah | apply ak) | exact HB.out)⟩⟩
       ·rw [if_neg c8] at H
        have D5:((bT ByteArray.empty aN x4_1).toList==([43]:List UInt8))=false:=beq_eq_false_iff_ne.mpr c8
        have afd:((bT ByteArray.empty aN x4_1).toList !=([43]:List UInt8))=true:=bne_iff_ne.mpr c8
        obtain rfl:=Option.some.inj H
        obtain⟨afS,afT,afg⟩:=Kd.jF bV.out
        subst afg
        have iL:0≤(x4_1:Int):=of_decide_eq_true (by first | (with_reducible assumption) | assumption)
        have iM:x4_1<(aN.length:Int):=of_decide_eq_true (by first | (with_reducible assumption) | assumption)
        obtain⟨iR,ou,qo⟩:=Kd.bY (Kd.bU bV.out).2.2 x4_1 iL iM
        cases ou
        replace iL:=eq_true iL
        replace iM:=eq_true iM
        go_wp2_with (first | ((with_reducible refine bn (f:=176) rfl ?_);refine dP (some 17) rfl rfl Tryz.func176 (by kernel_rfl) rfl #[.string (bT ByteArray.empty aN x4_1), .int .u8 43] rfl (by(try simp only [List.map_toArray,List.map_cons,List.map_nil]);first | done | rfl | (simp only [List.length_drop,List.length_take];rfl)) ?_;(with_reducible refine(aI.calls k1 (bT ByteArray.empty aN x4_1) 43 true _ A6.out).mono ?_);rintro e w' ⟨rfl,⟨nd,rfl⟩⟩;refine⟨_,rfl,?_⟩;have l9:0≤(x4_1:Int):=of_decide_eq_true (by first | (with_reducible assumption) | assumption);have mg:x4_1<(aN.length:Int):=of_decide_eq_true (by first | (with_reducible assumption) | assumption);obtain⟨uQ,AP,EY⟩:=Kd.bY (Kd.bU bV.out).2.2 x4_1 l9 mg;obtain rfl:iR=uQ:=(by injection AP);replace l9:=eq_true l9;replace mg:=eq_true mg))
        go_ret
        exact⟨by first | rfl | (simp [aJ,aK]<;>rfl) | (simp [*,aJ,aK]<;>rfl),by repeat (first | (with_reducible first | exact HB.out | apply aj | apply ah | apply ak) | exact HB.out)⟩
      ·replace c7:=Bool.eq_false_iff.mpr c7
       subst c7
       have H1:((aI.f k1 (bT ByteArray.empty aN x4_1) 35).bind fun t146=>(if t146=true then (if (bT ByteArray.empty aN x4_1).toList=([35]:List UInt8) then (if x4_1<(wrap64 ((aN.length:Int) - 1)) then (some false) else (aQ.l0 k1 a0 aN (wrap64 (x4_1+1)))) else (some false)) else (aQ.l0 k1 a0 aN (wrap64 (x4_1+1)))))=some r:=by rw [if_neg (show ¬(false=true) by decide)] at H;exact H
       clear H
       have H:=H1
       clear H1
       replace H:=Option.bind_eq_some_iff.mp H
       obtain⟨t146,adb,H⟩:=H
       replace H:(if t146=true then (if (bT ByteArray.empty aN x4_1).toList=([35]:List UInt8) then (if x4_1<(wrap64 ((aN.length:Int) - 1)) then (some false) else (aQ.l0 k1 a0 aN (wrap64 (x4_1+1)))) else (some false)) else (aQ.l0 k1 a0 aN (wrap64 (x4_1+1))))=some r:=H
       have A18:=Aside0.mk adb
       clear adb
       by_cases c19:t146=true
       ·subst c19
        have H1:(if (bT ByteArray.empty aN x4_1).toList=([35]:List UInt8) then (if x4_1<(wrap64 ((aN.length:Int) - 1)) then (some false) else (aQ.l0 k1 a0 aN (wrap64 (x4_1+1)))) else (some false))=some r:=by rw [if_pos rfl] at H;exact H
        clear H
        have H:=H1
        clear H1
        by_cases c20:(bT ByteArray.empty aN x4_1).toList=([35]:List UInt8)
        ·rw [if_pos c20] at H
         have aea:((bT ByteArray.empty aN x4_1).toList==([35]:List UInt8))=true:=beq_iff_eq.mpr c20
         have aeb:((bT ByteArray.empty aN x4_1).toList !=([35]:List UInt8))=false:=bne_eq_false_iff_eq.mpr c20
         clear c20
         by_cases c21:x4_1<(wrap64 ((aN.length:Int) - 1))
         ·rw [if_pos c21] at H
          have aar:decide (x4_1<(wrap64 ((aN.length:Int) - 1)))=true:=decide_eq_true c21
          clear c21
          obtain rfl:=Option.some.inj H
          obtain⟨afU,afV,afh⟩:=Kd.jF bV.out
          subst afh
          have iL:0≤(x4_1:Int):=of_decide_eq_true (by first | (with_reducible assumption) | assumption)
          have iM:x4_1<(aN.length:Int):=of_decide_eq_true (by first | (with_reducible assumption) | assumption)
          obtain⟨iR,ou,qo⟩:=Kd.bY (Kd.bU bV.out).2.2 x4_1 iL iM
          cases ou
          replace iL:=eq_true iL
          replace iM:=eq_true iM
          go_wp2_with (first | ((with_reducible refine bn (f:=176) rfl ?_);refine dP (some 17) rfl rfl Tryz.func176 (by kernel_rfl) rfl #[.string (bT ByteArray.empty aN x4_1), .int .u8 43] rfl (by(try simp only [List.map_toArray,List.map_cons,List.map_nil]);first | done | rfl | (simp only [List.length_drop,List.length_take];rfl)) ?_;(with_reducible refine(aI.calls k1 (bT ByteArray.empty aN x4_1) 43 false _ A6.out).mono ?_);rintro e w' ⟨rfl,⟨nd,rfl⟩⟩;refine⟨_,rfl,?_⟩;have pO:0≤(x4_1:Int):=of_decide_eq_true (by first | (with_reducible assumption) | assumption);have pR:x4_1<(aN.length:Int):=of_decide_eq_true (by first | (with_reducible assumption) | assumption);obtain⟨AU,Ho,Ll⟩:=Kd.bY (Kd.bU bV.out).2.2 x4_1 pO pR;obtain rfl:iR=AU:=(by injection Ho);replace pO:=eq_true pO;replace pR:=eq_true pR) | (go_at_call 176;(with_reducible refine(aI.calls k1 (bT ByteArray.empty aN x4_1) 35 true _ A18.out).mono ?_);rintro e w' ⟨rfl,⟨nd,rfl⟩⟩;have wR:0≤(x4_1:Int):=of_decide_eq_true (by first | (with_reducible assumption) | assumption);have wS:x4_1<(aN.length:Int):=of_decide_eq_true (by first | (with_reducible assumption) | assumption);obtain⟨JH,QV,Uj⟩:=Kd.bY (Kd.bU bV.out).2.2 x4_1 wR wS;obtain rfl:iR=JH:=(by injection QV);replace wR:=eq_true wR;replace wS:=eq_true wS))
          go_ret
          exact⟨by first | rfl | (simp [aJ,aK]<;>rfl) | (simp [*,aJ,aK]<;>rfl),by repeat (first | (with_reducible first | exact HB.out | apply aj | apply ah | apply ak) | exact HB.out)⟩
         ·rw [if_neg c21] at H
          have aar:decide (x4_1<(wrap64 ((aN.length:Int) - 1)))=false:=decide_eq_false c21
          clear c21
          have H':=Aside0.mk H
          clear H
          obtain⟨afW,afX,afi⟩:=Kd.jF bV.out
          subst afi
          have iL:0≤(x4_1:Int):=of_decide_eq_true (by first | (with_reducible assumption) | assumption)
          have iM:x4_1<(aN.length:Int):=of_decide_eq_true (by first | (with_reducible assumption) | assumption)
          obtain⟨iR,ou,qo⟩:=Kd.bY (Kd.bU bV.out).2.2 x4_1 iL iM
          cases ou
          replace iL:=eq_true iL
          replace iM:=eq_true iM
          go_wp2_with (first | ((with_reducible refine bn (f:=176) rfl ?_);refine dP (some 17) rfl rfl Tryz.func176 (by kernel_rfl) rfl #[.string (bT ByteArray.empty aN x4_1), .int .u8 43] rfl (by(try simp only [List.map_toArray,List.map_cons,List.map_nil]);first | done | rfl | (simp only [List.length_drop,List.length_take];rfl)) ?_;(with_reducible refine(aI.calls k1 (bT ByteArray.empty aN x4_1) 43 false _ A6.out).mono ?_);rintro e w' ⟨rfl,⟨nd,rfl⟩⟩;refine⟨_,rfl,?_⟩;have pO:0≤(x4_1:Int):=of_decide_eq_true (by first | (with_reducible assumption) | assumption);have pR:x4_1<(aN.length:Int):=of_decide_eq_true (by first | (with_reducible assumption) | assumption);obtain⟨AU,Ho,Ll⟩:=Kd.bY (Kd.bU bV.out).2.2 x4_1 pO pR;obtain rfl:iR=AU:=(by injection Ho);replace pO:=eq_true pO;replace pR:=eq_true pR) | (go_at_call 176;(with_reducible refine(aI.calls k1 (bT ByteArray.empty aN x4_1) 35 true _ A18.out).mono ?_);rintro e w' ⟨rfl,⟨nd,rfl⟩⟩;have wR:0≤(x4_1:Int):=of_decide_eq_true (by first | (with_reducible assumption) | assumption);have wS:x4_1<(aN.length:Int):=of_decide_eq_true (by first | (with_reducible assumption) | assumption);obtain⟨JH,QV,Uj⟩:=Kd.bY (Kd.bU bV.out).2.2 x4_1 wR wS;obtain rfl:iR=JH:=(by injection QV);replace wR:=eq_true wR;replace wS:=eq_true wS))
          go_roundg k1
          case measure=>have:=oN.out;omega
          case rel=>exact⟨(wrap64 (x4_1+1)),(by first | rfl | (simp;done) | (simp [*];done)),H',⟨by have:=oN.out;omega⟩,⟨by(with_reducible repeat (first | apply Kd.dN | apply Kd.dO | apply Kd.eX));exact bV.out⟩,⟨by repeat (first | (with_reducible first | exact HB.out | apply aj | apply ah | apply ak) | exact HB.out)⟩⟩
        ·rw [if_neg c20] at H
         have aea:((bT ByteArray.empty aN x4_1).toList==([35]:List UInt8))=false:=beq_eq_false_iff_ne.mpr c20
         have aeb:((bT ByteArray.empty aN x4_1).toList !=([35]:List UInt8))=true:=bne_iff_ne.mpr c20
         obtain rfl:=Option.some.inj H
         obtain⟨afY,afZ,afj⟩:=Kd.jF bV.out
         subst afj
         have iL:0≤(x4_1:Int):=of_decide_eq_true (by first | (with_reducible assumption) | assumption)
         have iM:x4_1<(aN.length:Int):=of_decide_eq_true (by first | (with_reducible assumption) | assumption)
         obtain⟨iR,ou,qo⟩:=Kd.bY (Kd.bU bV.out).2.2 x4_1 iL iM
         cases ou
         replace iL:=eq_true iL
         replace iM:=eq_true iM
         go_wp2_with (first | ((with_reducible refine bn (f:=176) rfl ?_);refine dP (some 17) rfl rfl Tryz.func176 (by kernel_rfl) rfl #[.string (bT ByteArray.empty aN x4_1), .int .u8 43] rfl (by(try simp only [List.map_toArray,List.map_cons,List.map_nil]);first | done | rfl | (simp only [List.length_drop,List.length_take];rfl)) ?_;(with_reducible refine(aI.calls k1 (bT ByteArray.empty aN x4_1) 43 false _ A6.out).mono ?_);rintro e w' ⟨rfl,⟨nd,rfl⟩⟩;refine⟨_,rfl,?_⟩;have pO:0≤(x4_1:Int):=of_decide_eq_true (by first | (with_reducible assumption) | assumption);have pR:x4_1<(aN.length:Int):=of_decide_eq_true (by first | (with_reducible assumption) | assumption);obtain⟨AU,Ho,Ll⟩:=Kd.bY (Kd.bU bV.out).2.2 x4_1 pO pR;obtain rfl:iR=AU:=(by injection Ho);replace pO:=eq_true pO;replace pR:=eq_true pR) | (go_at_call 176;(with_reducible refine(aI.calls k1 (bT ByteArray.empty aN x4_1) 35 true _ A18.out).mono ?_);rintro e w' ⟨rfl,⟨nd,rfl⟩⟩;have wR:0≤(x4_1:Int):=of_decide_eq_true (by first | (with_reducible assumption) | assumption);have wS:x4_1<(aN.length:Int):=of_decide_eq_true (by first | (with_reducible assumption) | assumption);obtain⟨JH,QV,Uj⟩:=Kd.bY (Kd.bU bV.out).2.2 x4_1 wR wS;obtain rfl:iR=JH:=(by injection QV);replace wR:=eq_true wR;replace wS:=eq_true wS))
         go_ret
         exact⟨by first | rfl | (simp [aJ,aK]<;>rfl) | (simp [*,aJ,aK]<;>rfl),by repeat (first | (with_reducible first | exact HB.out | apply aj | apply ah | apply ak) | exact HB.out)⟩
       ·replace c19:=Bool.eq_false_iff.mpr c19
        subst c19
        have H1:(aQ.l0 k1 a0 aN (wrap64 (x4_1+1)))=some r:=by rw [if_neg (show ¬(false=true) by decide)] at H;exact H
        clear H
        have H:=H1
        clear H1
        have H':=Aside0.mk H
        clear H
        obtain⟨af0,af2,afk⟩:=Kd.jF bV.out
        subst afk
        have iL:0≤(x4_1:Int):=of_decide_eq_true (by first | (with_reducible assumption) | assumption)
        have iM:x4_1<(aN.length:Int):=of_decide_eq_true (by first | (with_reducible assumption) | assumption)
        obtain⟨iR,ou,qo⟩:=Kd.bY (Kd.bU bV.out).2.2 x4_1 iL iM
        cases ou
        replace iL:=eq_true iL
        replace iM:=eq_true iM
        go_wp2_with (first | ((with_reducible refine bn (f:=176) rfl ?_);refine dP (some 17) rfl rfl Tryz.func176 (by kernel_rfl) rfl #[.string (bT ByteArray.empty aN x4_1), .int .u8 43] rfl (by(try simp only [List.map_toArray,List.map_cons,List.map_nil]);first | done | rfl | (simp only [List.length_drop,List.length_take];rfl)) ?_;(with_reducible refine(aI.calls k1 (bT ByteArray.empty aN x4_1) 43 false _ A6.out).mono ?_);rintro e w' ⟨rfl,⟨nd,rfl⟩⟩;refine⟨_,rfl,?_⟩;have pO:0≤(x4_1:Int):=of_decide_eq_true (by first | (with_reducible assumption) | assumption);have pR:x4_1<(aN.length:Int):=of_decide_eq_true (by first | (with_reducible assumption) | assumption);obtain⟨AU,Ho,Ll⟩:=Kd.bY (Kd.bU bV.out).2.2 x4_1 pO pR;obtain rfl:iR=AU:=(by injection Ho);replace pO:=eq_true pO;replace pR:=eq_true pR) | (go_at_call 176;(with_reducible refine(aI.calls k1 (bT ByteArray.empty aN x4_1) 35 false _ A18.out).mono ?_);rintro e w' ⟨rfl,⟨nd,rfl⟩⟩))
        go_roundg k1
        case measure=>have:=oN.out;omega
        case rel=>exact⟨(wrap64 (x4_1+1)),(by first | rfl | (simp;done) | (simp [*];done)),H',⟨by have:=oN.out;omega⟩,⟨by(with_reducible repeat (first | apply Kd.dN | apply Kd.dO | apply Kd.eX));exact bV.out⟩,⟨by repeat (first | (with_reducible first | exact HB.out | apply aj | apply ah | apply ak) | exact HB.out)⟩⟩
     ·rw [if_neg c5] at H
      exact absurd H (by simp)
    ·rw [if_neg c4] at H
     have kV:decide (x4_1<(aN.length:Int))=false:=decide_eq_false c4
     clear c4
     replace H:=Option.bind_eq_some_iff.mp H
     obtain⟨t138,ade,H⟩:=H
     replace H:(if t138=true then (if a0.toList=([]:List UInt8) then (some false) else (some (decide ((aN.length:Int)≤6)))) else (some false))=some r:=H
     have A26:=Aside0.mk ade
     clear ade
     by_cases c27:t138=true
     ·subst c27
      have H1:(if a0.toList=([]:List UInt8) then (some false) else (some (decide ((aN.length:Int)≤6))))=some r:=by rw [if_pos rfl] at H;exact H
      clear H
      have H:=H1
      clear H1
      by_cases c28:a0.toList=([]:List UInt8)
      ·rw [if_pos c28] at H
       have aec:(a0.toList==([]:List UInt8))=true:=beq_iff_eq.mpr c28
       have aed:(a0.toList !=([]:List UInt8))=false:=bne_eq_false_iff_eq.mpr c28
       clear c28
       obtain rfl:=Option.some.inj H
       obtain⟨af4,af5,afl⟩:=Kd.jF bV.out
       subst afl
       go_wp2_with (first | ((with_reducible refine bn (f:=177) rfl ?_);refine dP (some 47) rfl rfl Tryz.func177 (by kernel_rfl) rfl #[.string a0] rfl (by(try simp only [List.map_toArray,List.map_cons,List.map_nil]);first | done | rfl | (simp only [List.length_drop,List.length_take];rfl)) ?_;(with_reducible refine(eU.calls k1 a0 true _ A26.out).mono ?_);rintro e w30 ⟨rfl,hb⟩;refine⟨_,rfl,?_⟩;have bZ:=Aside0.mk (Kd.jc (by(with_reducible repeat (first | apply Kd.dN | apply Kd.dO | apply Kd.eX));exact bV.out) hb);have iK:=Aside0.mk (bG (by repeat (first | (with_reducible first | exact HB.out | apply aj | apply ah | apply ak) | exact HB.out)) hb);clear bV;clear HB;have bV:=bZ;have HB:=iK;clear bZ iK;(try clear hb);(try clear hb2);(try clear hk);(try clear hi)))
       go_ret
       exact⟨by first | rfl | (simp [aJ,aK]<;>rfl) | (simp [*,aJ,aK]<;>rfl),by repeat (first | (with_reducible first | exact HB.out | apply aj | apply ah | apply ak) | exact HB.out)⟩
      ·rw [if_neg c28] at H
       have aec:(a0.toList==([]:List UInt8))=false:=beq_eq_false_iff_ne.mpr c28
       have aed:(a0.toList !=([]:List UInt8))=true:=bne_iff_ne.mpr c28
       obtain rfl:=Option.some.inj H
       obtain⟨af6,af7,afm⟩:=Kd.jF bV.out
       subst afm
       go_wp2_with (first | ((with_reducible refine bn (f:=177) rfl ?_);refine dP (some 47) rfl rfl Tryz.func177 (by kernel_rfl) rfl #[.string a0] rfl (by(try simp only [List.map_toArray,List.map_cons,List.map_nil]);first | done | rfl | (simp only [List.length_drop,List.length_take];rfl)) ?_;(with_reducible refine(eU.calls k1 a0 true _ A26.out).mono ?_);rintro e w32 ⟨rfl,hb⟩;refine⟨_,rfl,?_⟩;have bZ:=Aside0.mk (Kd.jc (by(with_reducible repeat (first | apply Kd.dN | apply Kd.dO | apply Kd.eX));exact bV.out) hb);have iK:=Aside0.mk (bG (by repeat (first | (with_reducible first | exact HB.out | apply aj | apply ah | apply ak) | exact HB.out)) hb);clear bV;clear HB;have bV:=bZ;have HB:=iK;clear bZ iK;(try clear hb);(try clear hb2);(try clear hk);(try clear hi)))
       go_ret
       exact⟨by first | rfl | (simp [aJ,aK]<;>rfl) | (simp [*,aJ,aK]<;>rfl),by repeat (first | (with_reducible first | exact HB.out | apply aj | apply ah | apply ak) | exact HB.out)⟩
     ·replace c27:=Bool.eq_false_iff.mpr c27
      subst c27
      have H1:(some false)=some r:=by rw [if_neg (show ¬(false=true) by decide)] at H;exact H
      clear H
      have H:=H1
      clear H1
      obtain rfl:=Option.some.inj H
      obtain⟨af8,af9,afn⟩:=Kd.jF bV.out
      subst afn
      go_wp2_with (first | ((with_reducible refine bn (f:=177) rfl ?_);refine dP (some 47) rfl rfl Tryz.func177 (by kernel_rfl) rfl #[.string a0] rfl (by(try simp only [List.map_toArray,List.map_cons,List.map_nil]);first | done | rfl | (simp only [List.length_drop,List.length_take];rfl)) ?_;(with_reducible refine(eU.calls k1 a0 false _ A26.out).mono ?_);rintro e w34 ⟨rfl,hb⟩;refine⟨_,rfl,?_⟩;have bZ:=Aside0.mk (Kd.jc (by(with_reducible repeat (first | apply Kd.dN | apply Kd.dO | apply Kd.eX));exact bV.out) hb);have iK:=Aside0.mk (bG (by repeat (first | (with_reducible first | exact HB.out | apply aj | apply ah | apply ak) | exact HB.out)) hb);clear bV;clear HB;have bV:=bZ;have HB:=iK;clear bZ iK;(try clear hb);(try clear hb2);(try clear hk);(try clear hi)))
      go_ret
      exact⟨by first | rfl | (simp [aJ,aK]<;>rfl) | (simp [*,aJ,aK]<;>rfl),by repeat (first | (with_reducible first | exact HB.out | apply aj | apply ah | apply ak) | exact HB.out)⟩
end Go.Proofs.YtcnfgfomholheaaGreatDoor.P
