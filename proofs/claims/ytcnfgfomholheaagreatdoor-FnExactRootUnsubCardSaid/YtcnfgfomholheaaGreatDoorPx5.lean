import Derived.Test.YtcnfgfomholheaaGreatDoorPx0
import Derived.Test.YtcnfgfomholheaaGreatDoorPx2
import Derived.Test.YtcnfgfomholheaaGreatDoorPx3
import Derived.Test.YtcnfgfomholheaaGreatDoorX7
namespace Go.Proofs.YtcnfgfomholheaaGreatDoor.P
open Go.RowKit Go.Proofs.YtcnfgfomholheaaGreatDoor.X Go.Proofs.YtcnfgfomholheaaGreatDoorW.PrintWords Go.Proofs.YtcnfgfomholheaaGreatDoorW.PrintLast Go.Proofs.YtcnfgfomholheaaGreatDoorW.PrintMore
attribute [local go_sem] nG nH pR pU lM lN nI nJ
set_option linter.unusedVariables false
set_option linter.unusedSimpArgs false
def eX.f (k:Nat) (a0:ByteArray):Option (Bool):=(aT.f k a0).bind fun KN=>(some (decide (KN≥0)))
set_option maxHeartbeats 8000000 in
set_option maxRecDepth 100000 in
theorem eX.calls (k:Nat) (a0:ByteArray) (r:Bool) (w:World) (h:eX.f k a0=some r):
  Calls Tryz.prog 177 #[.string a0] w fun e w'=>e= .returned (.bool r)∧Below w.heap.size w w':=by
 have HB:=Aside0.mk (Below.refl w.heap.size w)
 have H:((aT.f k a0).bind fun KN=>(some (decide (KN≥0))))=some r:=h
 clear h
 replace H:=Option.bind_eq_some_iff.mp H
 obtain⟨KN,qh,H⟩:=H
 replace H:(some (decide (KN≥0)))=some r:=H
 have A2:=Aside0.mk qh
 clear qh
 obtain rfl:=Option.some.inj H
 go_enter Tryz.func177,Tryz.ntmps177
 go_wp2_with (first | ((with_reducible refine bD (f:=208) rfl ?_);refine dR (some 4) rfl rfl Tryz.func208 (by kernel_rfl) rfl #[.string a0] rfl (by(try simp only [List.map_toArray,List.map_cons,List.map_nil]);first | done | rfl | (simp only [List.length_drop,List.length_take];rfl)) ?_;(with_reducible refine(aT.calls k a0 KN _ A2.out).mono ?_);rintro e w3 ⟨rfl,hb⟩;refine⟨_,rfl,?_⟩;have cu:=Aside0.mk (bI (by repeat (first | (with_reducible first | exact HB.out | apply aj | apply ah | apply ak) | exact HB.out)) hb);clear HB;have HB:=cu;clear cu;(try clear hb);(try clear hb2);(try clear hk);(try clear hi)))
 go_ret
 exact⟨by first | rfl | (simp [aJ,aK]<;>rfl) | (simp [*,aJ,aK]<;>rfl),by repeat (first | (with_reducible first | exact HB.out | apply aj | apply ah | apply ak) | exact HB.out)⟩
def nY.f (k:Nat) (a0:ByteArray):Option (Bool):=(eX.f k a0).bind fun KO=>(if KO=true then (if a0.toList=([]:List UInt8) then (some false) else ((aI.f k a0 43).bind fun t130=>(if t130=true then (some false) else ((aI.f k a0 35).bind fun t131=>(if t131=true then (some false) else ((bG.f k a0).bind fun mY=>(some (decide ((mY.length:Int)≤6))))))))) else (some false))
set_option maxHeartbeats 8000000 in
set_option maxRecDepth 100000 in
theorem nY.calls (k:Nat) (a0:ByteArray) (r:Bool) (w:World) (h:nY.f k a0=some r):
  Calls Tryz.prog 181 #[.string a0] w fun e w'=>e= .returned (.bool r)∧Below w.heap.size w w':=by
 have HB:=Aside0.mk (Below.refl w.heap.size w)
 have H:((eX.f k a0).bind fun KO=>(if KO=true then (if a0.toList=([]:List UInt8) then (some false) else ((aI.f k a0 43).bind fun t130=>(if t130=true then (some false) else ((aI.f k a0 35).bind fun t131=>(if t131=true then (some false) else ((bG.f k a0).bind fun mY=>(some (decide ((mY.length:Int)≤6))))))))) else (some false)))=some r:=h
 clear h
 replace H:=Option.bind_eq_some_iff.mp H
 obtain⟨KO,qh,H⟩:=H
 replace H:(if KO=true then (if a0.toList=([]:List UInt8) then (some false) else ((aI.f k a0 43).bind fun t130=>(if t130=true then (some false) else ((aI.f k a0 35).bind fun t131=>(if t131=true then (some false) else ((bG.f k a0).bind fun mY=>(some (decide ((mY.length:Int)≤6))))))))) else (some false))=some r:=H
 have A2:=Aside0.mk qh
 clear qh
 by_cases c3:KO=true
 ·subst c3
  have H1:(if a0.toList=([]:List UInt8) then (some false) else ((aI.f k a0 43).bind fun t130=>(if t130=true then (some false) else ((aI.f k a0 35).bind fun t131=>(if t131=true then (some false) else ((bG.f k a0).bind fun mY=>(some (decide ((mY.length:Int)≤6)))))))))=some r:=by rw [if_pos rfl] at H;exact H
  clear H
  have H:=H1
  clear H1
  by_cases c4:a0.toList=([]:List UInt8)
  ·rw [if_pos c4] at H
   have kV:(a0.toList==([]:List UInt8))=true:=beq_iff_eq.mpr c4
   have ZC:(a0.toList !=([]:List UInt8))=false:=bne_eq_false_iff_eq.mpr c4
   clear c4
   obtain rfl:=Option.some.inj H
   go_enter Tryz.func181,Tryz.ntmps181
   go_wp2_with (first | ((with_reducible refine bD (f:=177) rfl ?_);refine dR (some 4) rfl rfl Tryz.func177 (by kernel_rfl) rfl #[.string a0] rfl (by(try simp only [List.map_toArray,List.map_cons,List.map_nil]);first | done | rfl | (simp only [List.length_drop,List.length_take];rfl)) ?_;(with_reducible refine(eX.calls k a0 true _ A2.out).mono ?_);rintro e w5 ⟨rfl,hb⟩;refine⟨_,rfl,?_⟩;have cu:=Aside0.mk (bI (by repeat (first | (with_reducible first | exact HB.out | apply aj | apply ah | apply ak) | exact HB.out)) hb);clear HB;have HB:=cu;clear cu;(try clear hb);(try clear hb2);(try clear hk);(try clear hi)))
   go_ret
   exact⟨by first | rfl | (simp [aJ,aK]<;>rfl) | (simp [*,aJ,aK]<;>rfl),by repeat (first | (with_reducible first | exact HB.out | apply aj | apply ah | apply ak) | exact HB.out)⟩
  ·rw [if_neg c4] at H
   have kV:(a0.toList==([]:List UInt8))=false:=beq_eq_false_iff_ne.mpr c4
   have ZC:(a0.toList !=([]:List UInt8))=true:=bne_iff_ne.mpr c4
   replace H:=Option.bind_eq_some_iff.mp H
   obtain⟨t130,MP,H⟩:=H
   replace H:(if t130=true then (some false) else ((aI.f k a0 35).bind fun t131=>(if t131=true then (some false) else ((bG.f k a0).bind fun mY=>(some (decide ((mY.length:Int)≤6)))))))=some r:=H
   have A6:=Aside0.mk MP
   clear MP
   by_cases c7:t130=true
   ·subst c7
    have H1:(some false)=some r:=by rw [if_pos rfl] at H;exact H
    clear H
    have H:=H1
    clear H1
    obtain rfl:=Option.some.inj H
    go_enter Tryz.func181,Tryz.ntmps181
    go_wp2_with (first | ((with_reducible refine bD (f:=177) rfl ?_);refine dR (some 4) rfl rfl Tryz.func177 (by kernel_rfl) rfl #[.string a0] rfl (by(try simp only [List.map_toArray,List.map_cons,List.map_nil]);first | done | rfl | (simp only [List.length_drop,List.length_take];rfl)) ?_;(with_reducible refine(eX.calls k a0 true _ A2.out).mono ?_);rintro e w8 ⟨rfl,hb⟩;refine⟨_,rfl,?_⟩;have cu:=Aside0.mk (bI (by repeat (first | (with_reducible first | exact HB.out | apply aj | apply ah | apply ak) | exact HB.out)) hb);clear HB;have HB:=cu;clear cu;(try clear hb);(try clear hb2);(try clear hk);(try clear hi)) | (go_at_call 176;(with_reducible refine(aI.calls k a0 43 true _ A6.out).mono ?_);rintro e w' ⟨rfl,⟨nd,rfl⟩⟩))
    go_ret
    exact⟨by first | rfl | (simp [aJ,aK]<;>rfl) | (simp [*,aJ,aK]<;>rfl),by repeat (first | (with_reducible first | exact HB.out | apply aj | apply ah | apply ak) | exact HB.out)⟩
   ·replace c7:=Bool.eq_false_iff.mpr c7
    subst c7
    have H1:((aI.f k a0 35).bind fun t131=>(if t131=true then (some false) else ((bG.f k a0).bind fun mY=>(some (decide ((mY.length:Int)≤6))))))=some r:=by rw [if_neg (show ¬(false=true) by decide)] at H;exact H
    clear H
    have H:=H1
    clear H1
    replace H:=Option.bind_eq_some_iff.mp H
    obtain⟨t131,Yl,H⟩:=H
    replace H:(if t131=true then (some false) else ((bG.f k a0).bind fun mY=>(some (decide ((mY.length:Int)≤6)))))=some r:=H
    have A9:=Aside0.mk Yl
    clear Yl
    by_cases c10:t131=true
    ·subst c10
     have H1:(some false)=some r:=by rw [if_pos rfl] at H;exact H
     clear H
     have H:=H1
     clear H1
     obtain rfl:=Option.some.inj H
     go_enter Tryz.func181,Tryz.ntmps181
     go_wp2_with (first | ((with_reducible refine bD (f:=177) rfl ?_);refine dR (some 4) rfl rfl Tryz.func177 (by kernel_rfl) rfl #[.string a0] rfl (by(try simp only [List.map_toArray,List.map_cons,List.map_nil]);first | done | rfl | (simp only [List.length_drop,List.length_take];rfl)) ?_;(with_reducible refine(eX.calls k a0 true _ A2.out).mono ?_);rintro e w11 ⟨rfl,hb⟩;refine⟨_,rfl,?_⟩;have cu:=Aside0.mk (bI (by repeat (first | (with_reducible first | exact HB.out | apply aj | apply ah | apply ak) | exact HB.out)) hb);clear HB;have HB:=cu;clear cu;(try clear hb);(try clear hb2);(try clear hk);(try clear hi)) | (go_at_call 176;(with_reducible refine(aI.calls k a0 43 false _ A6.out).mono ?_);rintro e w' ⟨rfl,⟨nd,rfl⟩⟩) | (go_at_call 176;(with_reducible refine(aI.calls k a0 35 true _ A9.out).mono ?_);rintro e w' ⟨rfl,⟨nd,rfl⟩⟩))
     go_ret
     exact⟨by first | rfl | (simp [aJ,aK]<;>rfl) | (simp [*,aJ,aK]<;>rfl),by repeat (first | (with_reducible first | exact HB.out | apply aj | apply ah | apply ak) | exact HB.out)⟩
    ·replace c10:=Bool.eq_false_iff.mpr c10
     subst c10
     have H1:((bG.f k a0).bind fun mY=>(some (decide ((mY.length:Int)≤6))))=some r:=by rw [if_neg (show ¬(false=true) by decide)] at H;exact H
     clear H
     have H:=H1
     clear H1
     replace H:=Option.bind_eq_some_iff.mp H
     obtain⟨mY,Qw,H⟩:=H
     replace H:(some (decide ((mY.length:Int)≤6)))=some r:=H
     have Yj:=Aside0.mk Qw
     clear Qw
     obtain rfl:=Option.some.inj H
     go_enter Tryz.func181,Tryz.ntmps181
     go_wp2_with (first | ((with_reducible refine bD (f:=177) rfl ?_);refine dR (some 4) rfl rfl Tryz.func177 (by kernel_rfl) rfl #[.string a0] rfl (by(try simp only [List.map_toArray,List.map_cons,List.map_nil]);first | done | rfl | (simp only [List.length_drop,List.length_take];rfl)) ?_;(with_reducible refine(eX.calls k a0 true _ A2.out).mono ?_);rintro e w13 ⟨rfl,hb⟩;refine⟨_,rfl,?_⟩;have cu:=Aside0.mk (bI (by repeat (first | (with_reducible first | exact HB.out | apply aj | apply ah | apply ak) | exact HB.out)) hb);clear HB;have HB:=cu;clear cu;(try clear hb);(try clear hb2);(try clear hk);(try clear hi)) | (go_at_call 176;(with_reducible refine(aI.calls k a0 43 false _ A6.out).mono ?_);rintro e w' ⟨rfl,⟨nd,rfl⟩⟩) | (go_at_call 176;(with_reducible refine(aI.calls k a0 35 false _ A9.out).mono ?_);rintro e w' ⟨rfl,⟨nd,rfl⟩⟩) | (go_at_call 108;(with_reducible refine(bG.calls k a0 mY _ Yj.out).mono ?_);rintro e w14 ⟨afG,rfl,ho0,hb⟩;have cu:=Aside0.mk (Kd.qP ho0 (kL (by repeat (first | (with_reducible first | exact HB.out | apply aj | apply ah | apply ak) | exact HB.out))));have iJ:=Aside0.mk (bI (by repeat (first | (with_reducible first | exact HB.out | apply aj | apply ah | apply ak) | exact HB.out)) hb);clear HB;have adY:=cu;have HB:=iJ;clear cu iJ;(try clear hb);(try clear hb2);(try clear hk);(try clear hi);(try clear ho0);obtain⟨ae1,ae2,ZJ⟩:=Kd.jI adY.out;subst ZJ))
     go_ret
     exact⟨by first | rfl | (simp [aJ,aK]<;>rfl) | (simp [*,aJ,aK]<;>rfl),by repeat (first | (with_reducible first | exact HB.out | apply aj | apply ah | apply ak) | exact HB.out)⟩
 ·replace c3:=Bool.eq_false_iff.mpr c3
  subst c3
  have H1:(some false)=some r:=by rw [if_neg (show ¬(false=true) by decide)] at H;exact H
  clear H
  have H:=H1
  clear H1
  obtain rfl:=Option.some.inj H
  go_enter Tryz.func181,Tryz.ntmps181
  go_wp2_with (first | ((with_reducible refine bD (f:=177) rfl ?_);refine dR (some 4) rfl rfl Tryz.func177 (by kernel_rfl) rfl #[.string a0] rfl (by(try simp only [List.map_toArray,List.map_cons,List.map_nil]);first | done | rfl | (simp only [List.length_drop,List.length_take];rfl)) ?_;(with_reducible refine(eX.calls k a0 false _ A2.out).mono ?_);rintro e w16 ⟨rfl,hb⟩;refine⟨_,rfl,?_⟩;have cu:=Aside0.mk (bI (by repeat (first | (with_reducible first | exact HB.out | apply aj | apply ah | apply ak) | exact HB.out)) hb);clear HB;have HB:=cu;clear cu;(try clear hb);(try clear hb2);(try clear hk);(try clear hi)))
  go_ret
  exact⟨by first | rfl | (simp [aJ,aK]<;>rfl) | (simp [*,aJ,aK]<;>rfl),by repeat (first | (with_reducible first | exact HB.out | apply aj | apply ah | apply ak) | exact HB.out)⟩
def aQ.l0:Nat→ByteArray→List ByteArray→Int→Option (Bool)
 | 0,_,_,_=>none
 | k+1,x0,x3,x4=>if x4<(x3.length:Int) then (if 0≤x4 then ((aI.f k (bT ByteArray.empty x3 x4) 43).bind fun VN=>(if VN=true then (if (bT ByteArray.empty x3 x4).toList=([43]:List UInt8) then ((aI.f k (bT ByteArray.empty x3 x4) 35).bind fun t143=>(if t143=true then (if (bT ByteArray.empty x3 x4).toList=([35]:List UInt8) then (if x4<(wrap64 ((x3.length:Int) - 1)) then (some false) else (aQ.l0 k x0 x3 (wrap64 (x4+1)))) else (some false)) else (aQ.l0 k x0 x3 (wrap64 (x4+1))))) else (some false)) else ((aI.f k (bT ByteArray.empty x3 x4) 35).bind fun t146=>(if t146=true then (if (bT ByteArray.empty x3 x4).toList=([35]:List UInt8) then (if x4<(wrap64 ((x3.length:Int) - 1)) then (some false) else (aQ.l0 k x0 x3 (wrap64 (x4+1)))) else (some false)) else (aQ.l0 k x0 x3 (wrap64 (x4+1))))))) else (none)) else ((eX.f k x0).bind fun t138=>(if t138=true then (if x0.toList=([]:List UInt8) then (some false) else (some (decide ((x3.length:Int)≤6)))) else (some false)))
def aQ.f (k:Nat) (a0:ByteArray):Option (Bool):=(bG.f k a0).bind fun aN=>(aQ.l0 k a0 aN 0)
set_option maxHeartbeats 8000000 in
set_option maxRecDepth 100000 in
theorem aQ.calls (k:Nat) (a0:ByteArray) (r:Bool) (w:World) (h:aQ.f k a0=some r):
  Calls Tryz.prog 106 #[.string a0] w fun e w'=>e= .returned (.bool r)∧Below w.heap.size w w':=by
 have HB:=Aside0.mk (Below.refl w.heap.size w)
 have H:((bG.f k a0).bind fun aN=>(aQ.l0 k a0 aN 0))=some r:=h
 clear h
 replace H:=Option.bind_eq_some_iff.mp H
 obtain⟨aN,qh,H⟩:=H
 replace H:(aQ.l0 k a0 aN 0)=some r:=H
 have A2:=Aside0.mk qh
 clear qh
 have H':=Aside0.mk H
 clear H
 go_enter Tryz.func106,Tryz.ntmps106
 go_wp2_with (first | ((with_reducible refine bD (f:=108) rfl ?_);refine dR (some 6) rfl rfl Tryz.func108 (by kernel_rfl) rfl #[.string a0] rfl (by(try simp only [List.map_toArray,List.map_cons,List.map_nil]);first | done | rfl | (simp only [List.length_drop,List.length_take];rfl)) ?_;(with_reducible refine(bG.calls k a0 aN _ A2.out).mono ?_);rintro e w3 ⟨ae3,rfl,ho0,hb⟩;refine⟨_,rfl,?_⟩;have cu:=Aside0.mk (Kd.qP ho0 (kL (by repeat (first | (with_reducible first | exact HB.out | apply aj | apply ah | apply ak) | exact HB.out))));have iJ:=Aside0.mk (bI (by repeat (first | (with_reducible first | exact HB.out | apply aj | apply ah | apply ak) | exact HB.out)) hb);clear HB;have adZ:=cu;have HB:=iJ;clear cu iJ;(try clear hb);(try clear hb2);(try clear hk);(try clear hi);(try clear ho0)))
 go_loopg [4] k (fun kq v4 w'=>∃(x4_1:Int),v4= .int .i64 x4_1∧Aside0 (aQ.l0 kq a0 aN x4_1=some r)∧Aside0 (kq≤k)∧Aside0 (Kd.R Kd.string 9 w' w.heap.size (fun _=>True) ae3 aN)∧Aside0 (Below w.heap.size w w'))
 case atStart=>exact⟨(0),(by first | rfl | (simp;done) | (simp [*];done)),H',⟨Nat.le_refl _⟩,⟨by(with_reducible repeat (first | apply Kd.dP | apply Kd.dQ | apply Kd.eY));exact adZ.out⟩,⟨by repeat (first | (with_reducible first | exact HB.out | apply aj | apply ah | apply ak) | exact HB.out)⟩⟩
 case round=>
  clear H'
  try clear c1
  try clear p2
  obtain⟨x4_1,rfl,HA,oM,bW,HB⟩:=hrel
  cases gk with
  | zero=>exact absurd HA.out (by simp [aQ.l0])
  | succ k1=>
    have H:=HA.out
    clear HA
    simp only [aQ.l0] at H
    by_cases c4:x4_1<(aN.length:Int)
    ·rw [if_pos c4] at H
     have kV:decide (x4_1<(aN.length:Int))=true:=decide_eq_true c4
     clear c4
     by_cases c5:0≤x4_1
     ·rw [if_pos c5] at H
      have KH:decide (0≤x4_1)=true:=decide_eq_true c5
      clear c5
      replace H:=Option.bind_eq_some_iff.mp H
      obtain⟨VN,MP,H⟩:=H
      replace H:(if VN=true then (if (bT ByteArray.empty aN x4_1).toList=([43]:List UInt8) then ((aI.f k1 (bT ByteArray.empty aN x4_1) 35).bind fun t143=>(if t143=true then (if (bT ByteArray.empty aN x4_1).toList=([35]:List UInt8) then (if x4_1<(wrap64 ((aN.length:Int) - 1)) then (some false) else (aQ.l0 k1 a0 aN (wrap64 (x4_1+1)))) else (some false)) else (aQ.l0 k1 a0 aN (wrap64 (x4_1+1))))) else (some false)) else ((aI.f k1 (bT ByteArray.empty aN x4_1) 35).bind fun t146=>(if t146=true then (if (bT ByteArray.empty aN x4_1).toList=([35]:List UInt8) then (if x4_1<(wrap64 ((aN.length:Int) - 1)) then (some false) else (aQ.l0 k1 a0 aN (wrap64 (x4_1+1)))) else (some false)) else (aQ.l0 k1 a0 aN (wrap64 (x4_1+1))))))=some r:=H
      have A6:=Aside0.mk MP
      clear MP
      by_cases c7:VN=true
      ·subst c7
       have H1:(if (bT ByteArray.empty aN x4_1).toList=([43]:List UInt8) then ((aI.f k1 (bT ByteArray.empty aN x4_1) 35).bind fun t143=>(if t143=true then (if (bT ByteArray.empty aN x4_1).toList=([35]:List UInt8) then (if x4_1<(wrap64 ((aN.length:Int) - 1)) then (some false) else (aQ.l0 k1 a0 aN (wrap64 (x4_1+1)))) else (some false)) else (aQ.l0 k1 a0 aN (wrap64 (x4_1+1))))) else (some false))=some r:=by rw [if_pos rfl] at H;exact H
       clear H
       have H:=H1
       clear H1
       by_cases c8:(bT ByteArray.empty aN x4_1).toList=([43]:List UInt8)
       ·rw [if_pos c8] at H
        have DW:((bT ByteArray.empty aN x4_1).toList==([43]:List UInt8))=true:=beq_iff_eq.mpr c8
        have ae4:((bT ByteArray.empty aN x4_1).toList !=([43]:List UInt8))=false:=bne_eq_false_iff_eq.mpr c8
        clear c8
        replace H:=Option.bind_eq_some_iff.mp H
        obtain⟨t143,Yl,H⟩:=H
        replace H:(if t143=true then (if (bT ByteArray.empty aN x4_1).toList=([35]:List UInt8) then (if x4_1<(wrap64 ((aN.length:Int) - 1)) then (some false) else (aQ.l0 k1 a0 aN (wrap64 (x4_1+1)))) else (some false)) else (aQ.l0 k1 a0 aN (wrap64 (x4_1+1))))=some r:=H
        have A9:=Aside0.mk Yl
        clear Yl
        by_cases c10:t143=true
        ·subst c10
         have H1:(if (bT ByteArray.empty aN x4_1).toList=([35]:List UInt8) then (if x4_1<(wrap64 ((aN.length:Int) - 1)) then (some false) else (aQ.l0 k1 a0 aN (wrap64 (x4_1+1)))) else (some false))=some r:=by rw [if_pos rfl] at H;exact H
         clear H
         have H:=H1
         clear H1
         by_cases c11:(bT ByteArray.empty aN x4_1).toList=([35]:List UInt8)
         ·rw [if_pos c11] at H
          have oW:((bT ByteArray.empty aN x4_1).toList==([35]:List UInt8))=true:=beq_iff_eq.mpr c11
          have ad1:((bT ByteArray.empty aN x4_1).toList !=([35]:List UInt8))=false:=bne_eq_false_iff_eq.mpr c11
          clear c11
          by_cases c12:x4_1<(wrap64 ((aN.length:Int) - 1))
          ·rw [if_pos c12] at H
           have aai:decide (x4_1<(wrap64 ((aN.length:Int) - 1)))=true:=decide_eq_true c12
           clear c12
           obtain rfl:=Option.some.inj H
           obtain⟨afH,afI,ae5⟩:=Kd.jI bW.out
           subst ae5
           have iK:0≤(x4_1:Int):=of_decide_eq_true (by first | (with_reducible assumption) | assumption)
           have iL:x4_1<(aN.length:Int):=of_decide_eq_true (by first | (with_reducible assumption) | assumption)
           obtain⟨iP,oh,qj⟩:=Kd.bZ (Kd.bU bW.out).2.2 x4_1 iK iL
           cases oh
           replace iK:=eq_true iK
           replace iL:=eq_true iL
           go_wp2_with (first | ((with_reducible refine bD (f:=176) rfl ?_);refine dR (some 17) rfl rfl Tryz.func176 (by kernel_rfl) rfl #[.string (bT ByteArray.empty aN x4_1), .int .u8 43] rfl (by(try simp only [List.map_toArray,List.map_cons,List.map_nil]);first | done | rfl | (simp only [List.length_drop,List.length_take];rfl)) ?_;(with_reducible refine(aI.calls k1 (bT ByteArray.empty aN x4_1) 43 true _ A6.out).mono ?_);rintro e w' ⟨rfl,⟨nd,rfl⟩⟩;refine⟨_,rfl,?_⟩;have mg:0≤(x4_1:Int):=of_decide_eq_true (by first | (with_reducible assumption) | assumption);have mD:x4_1<(aN.length:Int):=of_decide_eq_true (by first | (with_reducible assumption) | assumption);obtain⟨uS,AB,ER⟩:=Kd.bZ (Kd.bU bW.out).2.2 x4_1 mg mD;obtain rfl:iP=uS:=(by injection AB);replace mg:=eq_true mg;replace mD:=eq_true mD;have pI:0≤(x4_1:Int):=of_decide_eq_true (by first | (with_reducible assumption) | assumption);have pJ:x4_1<(aN.length:Int):=of_decide_eq_true (by first | (with_reducible assumption) | assumption);obtain⟨AL,GX,KP⟩:=Kd.bZ (Kd.bU bW.out).2.2 x4_1 pI pJ;obtain rfl:iP=AL:=(by injection GX);replace pI:=eq_true pI;replace pJ:=eq_true pJ) | (go_at_call 176;(with_reducible refine(aI.calls k1 (bT ByteArray.empty aN x4_1) 35 true _ A9.out).mono ?_);rintro e w' ⟨rfl,⟨nd,rfl⟩⟩;have wS:0≤(x4_1:Int):=of_decide_eq_true (by first | (with_reducible assumption) | assumption);have wU:x4_1<(aN.length:Int):=of_decide_eq_true (by first | (with_reducible assumption) | assumption);obtain⟨Js,Qx,TP⟩:=Kd.bZ (Kd.bU bW.out).2.2 x4_1 wS wU;obtain rfl:iP=Js:=(by injection Qx);replace wS:=eq_true wS;replace wU:=eq_true wU))
           go_ret
           exact⟨by first | rfl | (simp [aJ,aK]<;>rfl) | (simp [*,aJ,aK]<;>rfl),by repeat (first | (with_reducible first | exact HB.out | apply aj | apply ah | apply ak) | exact HB.out)⟩
          ·rw [if_neg c12] at H
           have aai:decide (x4_1<(wrap64 ((aN.length:Int) - 1)))=false:=decide_eq_false c12
           clear c12
           have H':=Aside0.mk H
           clear H
           obtain⟨aeX,aeY,ZE⟩:=Kd.jI bW.out
           subst ZE
           have iK:0≤(x4_1:Int):=of_decide_eq_true (by first | (with_reducible assumption) | assumption)
           have iL:x4_1<(aN.length:Int):=of_decide_eq_true (by first | (with_reducible assumption) | assumption)
           obtain⟨iP,oh,qj⟩:=Kd.bZ (Kd.bU bW.out).2.2 x4_1 iK iL
           cases oh
           replace iK:=eq_true iK
           replace iL:=eq_true iL
           go_wp2_with (first | ((with_reducible refine bD (f:=176) rfl ?_);refine dR (some 17) rfl rfl Tryz.func176 (by kernel_rfl) rfl #[.string (bT ByteArray.empty aN x4_1), .int .u8 43] rfl (by(try simp only [List.map_toArray,List.map_cons,List.map_nil]);first | done | rfl | (simp only [List.length_drop,List.length_take];rfl)) ?_;(with_reducible refine(aI.calls k1 (bT ByteArray.empty aN x4_1) 43 true _ A6.out).mono ?_);rintro e w' ⟨rfl,⟨nd,rfl⟩⟩;refine⟨_,rfl,?_⟩;have mg:0≤(x4_1:Int):=of_decide_eq_true (by first | (with_reducible assumption) | assumption);have mD:x4_1<(aN.length:Int):=of_decide_eq_true (by first | (with_reducible assumption) | assumption);obtain⟨uS,AB,ER⟩:=Kd.bZ (Kd.bU bW.out).2.2 x4_1 mg mD;obtain rfl:iP=uS:=(by injection AB);replace mg:=eq_true mg;replace mD:=eq_true mD;have pI:0≤(x4_1:Int):=of_decide_eq_true (by first | (with_reducible assumption) | assumption);have pJ:x4_1<(aN.length:Int):=of_decide_eq_true (by first | (with_reducible assumption) | assumption);obtain⟨AL,GX,KP⟩:=Kd.bZ (Kd.bU bW.out).2.2 x4_1 pI pJ;obtain rfl:iP=AL:=(by injection GX);replace pI:=eq_true pI;replace pJ:=eq_true pJ) | (go_at_call 176;(with_reducible refine(aI.calls k1 (bT ByteArray.empty aN x4_1) 35 true _ A9.out).mono ?_);rintro e w' ⟨rfl,⟨nd,rfl⟩⟩;have wS:0≤(x4_1:Int):=of_decide_eq_true (by first | (with_reducible assumption) | assumption);have wU:x4_1<(aN.length:Int):=of_decide_eq_true (by first | (with_reducible assumption) | assumption);obtain⟨Js,Qx,TP⟩:=Kd.bZ (Kd.bU bW.out).2.2 x4_1 wS wU;obtain rfl:iP=Js:=(by injection Qx);replace wS:=eq_true wS;replace wU:=eq_true wU))
           go_roundg k1
           case measure=>have:=oM.out;omega
           case rel=>exact⟨(wrap64 (x4_1+1)),(by first | rfl | (simp;done) | (simp [*];done)),H',⟨by have:=oM.out;omega⟩,⟨by(with_reducible repeat (first | apply Kd.dP | apply Kd.dQ | apply Kd.eY));exact bW.out⟩,⟨by repeat (first | (with_reducible first | exact HB.out | apply aj | apply ah | apply ak) | exact HB.out)⟩⟩
         ·rw [if_neg c11] at H
          have oW:((bT ByteArray.empty aN x4_1).toList==([35]:List UInt8))=false:=beq_eq_false_iff_ne.mpr c11
          have ad1:((bT ByteArray.empty aN x4_1).toList !=([35]:List UInt8))=true:=bne_iff_ne.mpr c11
          obtain rfl:=Option.some.inj H
          obtain⟨ae1,ae2,ZJ⟩:=Kd.jI bW.out
          subst ZJ
          have iK:0≤(x4_1:Int):=of_decide_eq_true (by first | (with_reducible assumption) | assumption)
          have iL:x4_1<(aN.length:Int):=of_decide_eq_true (by first | (with_reducible assumption) | assumption)
          obtain⟨iP,oh,qj⟩:=Kd.bZ (Kd.bU bW.out).2.2 x4_1 iK iL
          cases oh
          replace iK:=eq_true iK
          replace iL:=eq_true iL
          go_wp2_with (first | ((with_reducible refine bD (f:=176) rfl ?_);refine dR (some 17) rfl rfl Tryz.func176 (by kernel_rfl) rfl #[.string (bT ByteArray.empty aN x4_1), .int .u8 43] rfl (by(try simp only [List.map_toArray,List.map_cons,List.map_nil]);first | done | rfl | (simp only [List.length_drop,List.length_take];rfl)) ?_;(with_reducible refine(aI.calls k1 (bT ByteArray.empty aN x4_1) 43 true _ A6.out).mono ?_);rintro e w' ⟨rfl,⟨nd,rfl⟩⟩;refine⟨_,rfl,?_⟩;have mg:0≤(x4_1:Int):=of_decide_eq_true (by first | (with_reducible assumption) | assumption);have mD:x4_1<(aN.length:Int):=of_decide_eq_true (by first | (with_reducible assumption) | assumption);obtain⟨uS,AB,ER⟩:=Kd.bZ (Kd.bU bW.out).2.2 x4_1 mg mD;obtain rfl:iP=uS:=(by injection AB);replace mg:=eq_true mg;replace mD:=eq_true mD;have pI:0≤(x4_1:Int):=of_decide_eq_true (by first | (with_reducible assumption) | assumption);have pJ:x4_1<(aN.length:Int):=of_decide_eq_true (by first | (with_reducible assumption) | assumption);obtain⟨AL,GX,KP⟩:=Kd.bZ (Kd.bU bW.out).2.2 x4_1 pI pJ;obtain rfl:iP=AL:=(by injection GX);replace pI:=eq_true pI;replace pJ:=eq_true pJ) | (go_at_call 176;(with_reducible refine(aI.calls k1 (bT ByteArray.empty aN x4_1) 35 true _ A9.out).mono ?_);rintro e w' ⟨rfl,⟨nd,rfl⟩⟩;have wS:0≤(x4_1:Int):=of_decide_eq_true (by first | (with_reducible assumption) | assumption);have wU:x4_1<(aN.length:Int):=of_decide_eq_true (by first | (with_reducible assumption) | assumption);obtain⟨Js,Qx,TP⟩:=Kd.bZ (Kd.bU bW.out).2.2 x4_1 wS wU;obtain rfl:iP=Js:=(by injection Qx);replace wS:=eq_true wS;replace wU:=eq_true wU))
          go_ret
          exact⟨by first | rfl | (simp [aJ,aK]<;>rfl) | (simp [*,aJ,aK]<;>rfl),by repeat (first | (with_reducible first | exact HB.out | apply aj | apply ah | apply ak) | exact HB.out)⟩
        ·replace c10:=Bool.eq_false_iff.mpr c10
         subst c10
         have H1:(aQ.l0 k1 a0 aN (wrap64 (x4_1+1)))=some r:=by rw [if_neg (show ¬(false=true) by decide)] at H;exact H
         clear H
         have H:=H1
         clear H1
         have H':=Aside0.mk H
         clear H
         obtain⟨afJ,afK,ae6⟩:=Kd.jI bW.out
         subst ae6
         have iK:0≤(x4_1:Int):=of_decide_eq_true (by first | (with_reducible assumption) | assumption)
         have iL:x4_1<(aN.length:Int):=of_decide_eq_true (by first | (with_reducible assumption) | assumption)
         obtain⟨iP,oh,qj⟩:=Kd.bZ (Kd.bU bW.out).2.2 x4_1 iK iL
         cases oh
         replace iK:=eq_true iK
         replace iL:=eq_true iL
         go_wp2_with (first | ((with_reducible refine bD (f:=176) rfl ?_);refine dR (some 17) rfl rfl Tryz.func176 (by kernel_rfl) rfl #[.string (bT ByteArray.empty aN x4_1), .int .u8 43] rfl (by(try simp only [List.map_toArray,List.map_cons,List.map_nil]);first | done | rfl | (simp only [List.length_drop,List.length_take];rfl)) ?_;(with_reducible refine(aI.calls k1 (bT ByteArray.empty aN x4_1) 43 true _ A6.out).mono ?_);rintro e w' ⟨rfl,⟨nd,rfl⟩⟩;refine⟨_,rfl,?_⟩;have mg:0≤(x4_1:Int):=of_decide_eq_true (by first | (with_reducible assumption) | assumption);have mD:x4_1<(aN.length:Int):=of_decide_eq_true (by first | (with_reducible assumption) | assumption);obtain⟨uS,AB,ER⟩:=Kd.bZ (Kd.bU bW.out).2.2 x4_1 mg mD;obtain rfl:iP=uS:=(by injection AB);replace mg:=eq_true mg;replace mD:=eq_true mD;have pI:0≤(x4_1:Int):=of_decide_eq_true (by first | (with_reducible assumption) | assumption);have pJ:x4_1<(aN.length:Int):=of_decide_eq_true (by first | (with_reducible assumption) | assumption);obtain⟨AL,GX,KP⟩:=Kd.bZ (Kd.bU bW.out).2.2 x4_1 pI pJ;obtain rfl:iP=AL:=(by injection GX);replace pI:=eq_true pI;replace pJ:=eq_true pJ) | (go_at_call 176;(with_reducible refine(aI.calls k1 (bT ByteArray.empty aN x4_1) 35 false _ A9.out).mono ?_);rintro e w' ⟨rfl,⟨nd,rfl⟩⟩))
         go_roundg k1
         case measure=>have:=oM.out;omega
         case rel=>exact⟨(wrap64 (x4_1+1)),(by first | rfl | (simp;done) | (simp [*];done)),H',⟨by have:=oM.out;omega⟩,⟨by(with_reducible repeat (first | apply Kd.dP | apply Kd.dQ | apply Kd.eY));exact bW.out⟩,⟨by repeat (first | (with_reducible first | exact HB.out | apply aj | apply ah | apply ak) | exact HB.out)⟩⟩
       ·rw [if_neg c8] at H
        have DW:((bT ByteArray.empty aN x4_1).toList==([43]:List UInt8))=false:=beq_eq_false_iff_ne.mpr c8
        have ae4:((bT ByteArray.empty aN x4_1).toList !=([43]:List UInt8))=true:=bne_iff_ne.mpr c8
        obtain rfl:=Option.some.inj H
        obtain⟨afL,afM,ae7⟩:=Kd.jI bW.out
        subst ae7
        have iK:0≤(x4_1:Int):=of_decide_eq_true (by first | (with_reducible assumption) | assumption)
        have iL:x4_1<(aN.length:Int):=of_decide_eq_true (by first | (with_reducible assumption) | assumption)
        obtain⟨iP,oh,qj⟩:=Kd.bZ (Kd.bU bW.out).2.2 x4_1 iK iL
        cases oh
        replace iK:=eq_true iK
        replace iL:=eq_true iL
        go_wp2_with (first | ((with_reducible refine bD (f:=176) rfl ?_);refine dR (some 17) rfl rfl Tryz.func176 (by kernel_rfl) rfl #[.string (bT ByteArray.empty aN x4_1), .int .u8 43] rfl (by(try simp only [List.map_toArray,List.map_cons,List.map_nil]);first | done | rfl | (simp only [List.length_drop,List.length_take];rfl)) ?_;(with_reducible refine(aI.calls k1 (bT ByteArray.empty aN x4_1) 43 true _ A6.out).mono ?_);rintro e w' ⟨rfl,⟨nd,rfl⟩⟩;refine⟨_,rfl,?_⟩;have mg:0≤(x4_1:Int):=of_decide_eq_true (by first | (with_reducible assumption) | assumption);have mD:x4_1<(aN.length:Int):=of_decide_eq_true (by first | (with_reducible assumption) | assumption);obtain⟨uS,AB,ER⟩:=Kd.bZ (Kd.bU bW.out).2.2 x4_1 mg mD;obtain rfl:iP=uS:=(by injection AB);replace mg:=eq_true mg;replace mD:=eq_true mD))
        go_ret
        exact⟨by first | rfl | (simp [aJ,aK]<;>rfl) | (simp [*,aJ,aK]<;>rfl),by repeat (first | (with_reducible first | exact HB.out | apply aj | apply ah | apply ak) | exact HB.out)⟩
      ·replace c7:=Bool.eq_false_iff.mpr c7
       subst c7
       have H1:((aI.f k1 (bT ByteArray.empty aN x4_1) 35).bind fun t146=>(if t146=true then (if (bT ByteArray.empty aN x4_1).toList=([35]:List UInt8) then (if x4_1<(wrap64 ((aN.length:Int) - 1)) then (some false) else (aQ.l0 k1 a0 aN (wrap64 (x4_1+1)))) else (some false)) else (aQ.l0 k1 a0 aN (wrap64 (x4_1+1)))))=some r:=by rw [if_neg (show ¬(false=true) by decide)] at H;exact H
       clear H
       have H:=H1
       clear H1
       replace H:=Option.bind_eq_some_iff.mp H
       obtain⟨t146,ac4,H⟩:=H
       replace H:(if t146=true then (if (bT ByteArray.empty aN x4_1).toList=([35]:List UInt8) then (if x4_1<(wrap64 ((aN.length:Int) - 1)) then (some false) else (aQ.l0 k1 a0 aN (wrap64 (x4_1+1)))) else (some false)) else (aQ.l0 k1 a0 aN (wrap64 (x4_1+1))))=some r:=H
       have A18:=Aside0.mk ac4
       clear ac4
       by_cases c19:t146=true
       ·subst c19
        have H1:(if (bT ByteArray.empty aN x4_1).toList=([35]:List UInt8) then (if x4_1<(wrap64 ((aN.length:Int) - 1)) then (some false) else (aQ.l0 k1 a0 aN (wrap64 (x4_1+1)))) else (some false))=some r:=by rw [if_pos rfl] at H;exact H
        clear H
        have H:=H1
        clear H1
        by_cases c20:(bT ByteArray.empty aN x4_1).toList=([35]:List UInt8)
        ·rw [if_pos c20] at H
         have ad2:((bT ByteArray.empty aN x4_1).toList==([35]:List UInt8))=true:=beq_iff_eq.mpr c20
         have ad3:((bT ByteArray.empty aN x4_1).toList !=([35]:List UInt8))=false:=bne_eq_false_iff_eq.mpr c20
         clear c20
         by_cases c21:x4_1<(wrap64 ((aN.length:Int) - 1))
         ·rw [if_pos c21] at H
          have aaj:decide (x4_1<(wrap64 ((aN.length:Int) - 1)))=true:=decide_eq_true c21
          clear c21
          obtain rfl:=Option.some.inj H
          obtain⟨afN,afO,ae8⟩:=Kd.jI bW.out
          subst ae8
          have iK:0≤(x4_1:Int):=of_decide_eq_true (by first | (with_reducible assumption) | assumption)
          have iL:x4_1<(aN.length:Int):=of_decide_eq_true (by first | (with_reducible assumption) | assumption)
          obtain⟨iP,oh,qj⟩:=Kd.bZ (Kd.bU bW.out).2.2 x4_1 iK iL
          cases oh
          replace iK:=eq_true iK
          replace iL:=eq_true iL
          go_wp2_with (first | ((with_reducible refine bD (f:=176) rfl ?_);refine dR (some 17) rfl rfl Tryz.func176 (by kernel_rfl) rfl #[.string (bT ByteArray.empty aN x4_1), .int .u8 43] rfl (by(try simp only [List.map_toArray,List.map_cons,List.map_nil]);first | done | rfl | (simp only [List.length_drop,List.length_take];rfl)) ?_;(with_reducible refine(aI.calls k1 (bT ByteArray.empty aN x4_1) 43 false _ A6.out).mono ?_);rintro e w' ⟨rfl,⟨nd,rfl⟩⟩;refine⟨_,rfl,?_⟩;have pK:0≤(x4_1:Int):=of_decide_eq_true (by first | (with_reducible assumption) | assumption);have pO:x4_1<(aN.length:Int):=of_decide_eq_true (by first | (with_reducible assumption) | assumption);obtain⟨AO,GY,KQ⟩:=Kd.bZ (Kd.bU bW.out).2.2 x4_1 pK pO;obtain rfl:iP=AO:=(by injection GY);replace pK:=eq_true pK;replace pO:=eq_true pO) | (go_at_call 176;(with_reducible refine(aI.calls k1 (bT ByteArray.empty aN x4_1) 35 true _ A18.out).mono ?_);rintro e w' ⟨rfl,⟨nd,rfl⟩⟩;have wV:0≤(x4_1:Int):=of_decide_eq_true (by first | (with_reducible assumption) | assumption);have wW:x4_1<(aN.length:Int):=of_decide_eq_true (by first | (with_reducible assumption) | assumption);obtain⟨Jt,Qy,TQ⟩:=Kd.bZ (Kd.bU bW.out).2.2 x4_1 wV wW;obtain rfl:iP=Jt:=(by injection Qy);replace wV:=eq_true wV;replace wW:=eq_true wW))
          go_ret
          exact⟨by first | rfl | (simp [aJ,aK]<;>rfl) | (simp [*,aJ,aK]<;>rfl),by repeat (first | (with_reducible first | exact HB.out | apply aj | apply ah | apply ak) | exact HB.out)⟩
         ·rw [if_neg c21] at H
          have aaj:decide (x4_1<(wrap64 ((aN.length:Int) - 1)))=false:=decide_eq_false c21
          clear c21
          have H':=Aside0.mk H
          clear H
          obtain⟨afP,afQ,ae9⟩:=Kd.jI bW.out
          subst ae9
          have iK:0≤(x4_1:Int):=of_decide_eq_true (by first | (with_reducible assumption) | assumption)
          have iL:x4_1<(aN.length:Int):=of_decide_eq_true (by first | (with_reducible assumption) | assumption)
          obtain⟨iP,oh,qj⟩:=Kd.bZ (Kd.bU bW.out).2.2 x4_1 iK iL
          cases oh
          replace iK:=eq_true iK
          replace iL:=eq_true iL
          go_wp2_with (first | ((with_reducible refine bD (f:=176) rfl ?_);refine dR (some 17) rfl rfl Tryz.func176 (by kernel_rfl) rfl #[.string (bT ByteArray.empty aN x4_1), .int .u8 43] rfl (by(try simp only [List.map_toArray,List.map_cons,List.map_nil]);first | done | rfl | (simp only [List.length_drop,List.length_take];rfl)) ?_;(with_reducible refine(aI.calls k1 (bT ByteArray.empty aN x4_1) 43 false _ A6.out).mono ?_);rintro e w' ⟨rfl,⟨nd,rfl⟩⟩;refine⟨_,rfl,?_⟩;have pK:0≤(x4_1:Int):=of_decide_eq_true (by first | (with_reducible assumption) | assumption);have pO:x4_1<(aN.length:Int):=of_decide_eq_true (by first | (with_reducible assumption) | assumption);obtain⟨AO,GY,KQ⟩:=Kd.bZ (Kd.bU bW.out).2.2 x4_1 pK pO;obtain rfl:iP=AO:=(by injection GY);replace pK:=eq_true pK;replace pO:=eq_true pO) | (go_at_call 176;(with_reducible refine(aI.calls k1 (bT ByteArray.empty aN x4_1) 35 true _ A18.out).mono ?_);rintro e w' ⟨rfl,⟨nd,rfl⟩⟩;have wV:0≤(x4_1:Int):=of_decide_eq_true (by first | (with_reducible assumption) | assumption);have wW:x4_1<(aN.length:Int):=of_decide_eq_true (by first | (with_reducible assumption) | assumption);obtain⟨Jt,Qy,TQ⟩:=Kd.bZ (Kd.bU bW.out).2.2 x4_1 wV wW;obtain rfl:iP=Jt:=(by injection Qy);replace wV:=eq_true wV;replace wW:=eq_true wW))
          go_roundg k1
          case measure=>have:=oM.out;omega
          case rel=>exact⟨(wrap64 (x4_1+1)),(by first | rfl | (simp;done) | (simp [*];done)),H',⟨by have:=oM.out;omega⟩,⟨by(with_reducible repeat (first | apply Kd.dP | apply Kd.dQ | apply Kd.eY));exact bW.out⟩,⟨by repeat (first | (with_reducible first | exact HB.out | apply aj | apply ah | apply ak) | exact HB.out)⟩⟩
        ·rw [if_neg c20] at H
         have ad2:((bT ByteArray.empty aN x4_1).toList==([35]:List UInt8))=false:=beq_eq_false_iff_ne.mpr c20
         have ad3:((bT ByteArray.empty aN x4_1).toList !=([35]:List UInt8))=true:=bne_iff_ne.mpr c20
         obtain rfl:=Option.some.inj H
         obtain⟨afR,afS,afa⟩:=Kd.jI bW.out
         subst afa
         have iK:0≤(x4_1:Int):=of_decide_eq_true (by first | (with_reducible assumption) | assumption)
         have iL:x4_1<(aN.length:Int):=of_decide_eq_true (by first | (with_reducible assumption) | assumption)
         obtain⟨iP,oh,qj⟩:=Kd.bZ (Kd.bU bW.out).2.2 x4_1 iK iL
         cases oh
         replace iK:=eq_true iK
         replace iL:=eq_true iL
         go_wp2_with (first | ((with_reducible refine bD (f:=176) rfl ?_);refine dR (some 17) rfl rfl Tryz.func176 (by kernel_rfl) rfl #[.string (bT ByteArray.empty aN x4_1), .int .u8 43] rfl (by(try simp only [List.map_toArray,List.map_cons,List.map_nil]);first | done | rfl | (simp only [List.length_drop,List.length_take];rfl)) ?_;(with_reducible refine(aI.calls k1 (bT ByteArray.empty aN x4_1) 43 false _ A6.out).mono ?_);rintro e w' ⟨rfl,⟨nd,rfl⟩⟩;refine⟨_,rfl,?_⟩;have pK:0≤(x4_1:Int):=of_decide_eq_true (by first | (with_reducible assumption) | assumption);have pO:x4_1<(aN.length:Int):=of_decide_eq_true (by first | (with_reducible assumption) | assumption);obtain⟨AO,GY,KQ⟩:=Kd.bZ (Kd.bU bW.out).2.2 x4_1 pK pO;obtain rfl:iP=AO:=(by injection GY);replace pK:=eq_true pK;replace pO:=eq_true pO) | (go_at_call 176;(with_reducible refine(aI.calls k1 (bT ByteArray.empty aN x4_1) 35 true _ A18.out).mono ?_);rintro e w' ⟨rfl,⟨nd,rfl⟩⟩;have wV:0≤(x4_1:Int):=of_decide_eq_true (by first | (with_reducible assumption) | assumption);have wW:x4_1<(aN.length:Int):=of_decide_eq_true (by first | (with_reducible assumption) | assumption);obtain⟨Jt,Qy,TQ⟩:=Kd.bZ (Kd.bU bW.out).2.2 x4_1 wV wW;obtain rfl:iP=Jt:=(by injection Qy);replace wV:=eq_true wV;replace wW:=eq_true wW))
         go_ret
         exact⟨by first | rfl | (simp [aJ,aK]<;>rfl) | (simp [*,aJ,aK]<;>rfl),by repeat (first | (with_reducible first | exact HB.out | apply aj | apply ah | apply ak) | exact HB.out)⟩
       ·replace c19:=Bool.eq_false_iff.mpr c19
        subst c19
        have H1:(aQ.l0 k1 a0 aN (wrap64 (x4_1+1)))=some r:=by rw [if_neg (show ¬(false=true) by decide)] at H;exact H
        clear H
        have H:=H1
        clear H1
        have H':=Aside0.mk H
        clear H
        obtain⟨afT,afU,afb⟩:=Kd.jI bW.out
        subst afb
        have iK:0≤(x4_1:Int):=of_decide_eq_true (by first | (with_reducible assumption) | assumption)
        have iL:x4_1<(aN.length:Int):=of_decide_eq_true (by first | (with_reducible assumption) | assumption)
        obtain⟨iP,oh,qj⟩:=Kd.bZ (Kd.bU bW.out).2.2 x4_1 iK iL
        cases oh
        replace iK:=eq_true iK
        replace iL:=eq_true iL
        go_wp2_with (first | ((with_reducible refine bD (f:=176) rfl ?_);refine dR (some 17) rfl rfl Tryz.func176 (by kernel_rfl) rfl #[.string (bT ByteArray.empty aN x4_1), .int .u8 43] rfl (by(try simp only [List.map_toArray,List.map_cons,List.map_nil]);first | done | rfl | (simp only [List.length_drop,List.length_take];rfl)) ?_;(with_reducible refine(aI.calls k1 (bT ByteArray.empty aN x4_1) 43 false _ A6.out).mono ?_);rintro e w' ⟨rfl,⟨nd,rfl⟩⟩;refine⟨_,rfl,?_⟩;have pK:0≤(x4_1:Int):=of_decide_eq_true (by first | (with_reducible assumption) | assumption);have pO:x4_1<(aN.length:Int):=of_decide_eq_true (by first | (with_reducible assumption) | assumption);obtain⟨AO,GY,KQ⟩:=Kd.bZ (Kd.bU bW.out).2.2 x4_1 pK pO;obtain rfl:iP=AO:=(by injection GY);replace pK:=eq_true pK;replace pO:=eq_true pO) | (go_at_call 176;(with_reducible refine(aI.calls k1 (bT ByteArray.empty aN x4_1) 35 false _ A18.out).mono ?_);rintro e w' ⟨rfl,⟨nd,rfl⟩⟩))
        go_roundg k1
        case measure=>have:=oM.out;omega
        case rel=>exact⟨(wrap64 (x4_1+1)),(by first | rfl | (simp;done) | (simp [*];done)),H',⟨by have:=oM.out;omega⟩,⟨by(with_reducible repeat (first | apply Kd.dP | apply Kd.dQ | apply Kd.eY));exact bW.out⟩,⟨by repeat (first | (with_reducible first | exact HB.out | apply aj | apply ah | apply ak) | exact HB.out)⟩⟩
     ·rw [if_neg c5] at H
      exact absurd H (by simp)
    ·rw [if_neg c4] at H
     have kV:decide (x4_1<(aN.length:Int))=false:=decide_eq_false c4
     clear c4
     replace H:=Option.bind_eq_some_iff.mp H
     obtain⟨t138,ac5,H⟩:=H
     replace H:(if t138=true then (if a0.toList=([]:List UInt8) then (some false) else (some (decide ((aN.length:Int)≤6)))) else (some false))=some r:=H
     have A26:=Aside0.mk ac5
     clear ac5
     by_cases c27:t138=true
     ·subst c27
      have H1:(if a0.toList=([]:List UInt8) then (some false) else (some (decide ((aN.length:Int)≤6))))=some r:=by rw [if_pos rfl] at H;exact H
      clear H
      have H:=H1
      clear H1
      by_cases c28:a0.toList=([]:List UInt8)
      ·rw [if_pos c28] at H
       have ad4:(a0.toList==([]:List UInt8))=true:=beq_iff_eq.mpr c28
       have ad5:(a0.toList !=([]:List UInt8))=false:=bne_eq_false_iff_eq.mpr c28
       clear c28
       obtain rfl:=Option.some.inj H
       obtain⟨afV,afW,afc⟩:=Kd.jI bW.out
       subst afc
       go_wp2_with (first | ((with_reducible refine bD (f:=177) rfl ?_);refine dR (some 47) rfl rfl Tryz.func177 (by kernel_rfl) rfl #[.string a0] rfl (by(try simp only [List.map_toArray,List.map_cons,List.map_nil]);first | done | rfl | (simp only [List.length_drop,List.length_take];rfl)) ?_;(with_reducible refine(eX.calls k1 a0 true _ A26.out).mono ?_);rintro e w30 ⟨rfl,hb⟩;refine⟨_,rfl,?_⟩;have cu:=Aside0.mk (Kd.je (by(with_reducible repeat (first | apply Kd.dP | apply Kd.dQ | apply Kd.eY));exact bW.out) hb);have iJ:=Aside0.mk (bI (by repeat (first | (with_reducible first | exact HB.out | apply aj | apply ah | apply ak) | exact HB.out)) hb);clear bW;clear HB;have bW:=cu;have HB:=iJ;clear cu iJ;(try clear hb);(try clear hb2);(try clear hk);(try clear hi)))
       go_ret
       exact⟨by first | rfl | (simp [aJ,aK]<;>rfl) | (simp [*,aJ,aK]<;>rfl),by repeat (first | (with_reducible first | exact HB.out | apply aj | apply ah | apply ak) | exact HB.out)⟩
      ·rw [if_neg c28] at H
       have ad4:(a0.toList==([]:List UInt8))=false:=beq_eq_false_iff_ne.mpr c28
       have ad5:(a0.toList !=([]:List UInt8))=true:=bne_iff_ne.mpr c28
       obtain rfl:=Option.some.inj H
       obtain⟨afX,afY,afd⟩:=Kd.jI bW.out
       subst afd
       go_wp2_with (first | ((with_reducible refine bD (f:=177) rfl ?_);refine dR (some 47) rfl rfl Tryz.func177 (by kernel_rfl) rfl #[.string a0] rfl (by(try simp only [List.map_toArray,List.map_cons,List.map_nil]);first | done | rfl | (simp only [List.length_drop,List.length_take];rfl)) ?_;(with_reducible refine(eX.calls k1 a0 true _ A26.out).mono ?_);rintro e w32 ⟨rfl,hb⟩;refine⟨_,rfl,?_⟩;have cu:=Aside0.mk (Kd.je (by(with_reducible repeat (first | apply Kd.dP | apply Kd.dQ | apply Kd.eY));exact bW.out) hb);have iJ:=Aside0.mk (bI (by repeat (first | (with_reducible first | exact HB.out | apply aj | apply ah | apply ak) | exact HB.out)) hb);clear bW;clear HB;have bW:=cu;have HB:=iJ;clear cu iJ;(try clear hb);(try clear hb2);(try clear hk);(try clear hi)))
       go_ret
       exact⟨by first | rfl | (simp [aJ,aK]<;>rfl) | (simp [*,aJ,aK]<;>rfl),by repeat (first | (with_reducible first | exact HB.out | apply aj | apply ah | apply ak) | exact HB.out)⟩
     ·replace c27:=Bool.eq_false_iff.mpr c27
      subst c27
      have H1:(some false)=some r:=by rw [if_neg (show ¬(false=true) by decide)] at H;exact H
      clear H
      have H:=H1
      clear H1
      obtain rfl:=Option.some.inj H
      obtain⟨afZ,af0,afe⟩:=Kd.jI bW.out
      subst afe
      go_wp2_with (first | ((with_reducible refine bD (f:=177) rfl ?_);refine dR (some 47) rfl rfl Tryz.func177 (by kernel_rfl) rfl #[.string a0] rfl (by(try simp only [List.map_toArray,List.map_cons,List.map_nil]);first | done | rfl | (simp only [List.length_drop,List.length_take];rfl)) ?_;(with_reducible refine(eX.calls k1 a0 false _ A26.out).mono ?_);rintro e w34 ⟨rfl,hb⟩;refine⟨_,rfl,?_⟩;have cu:=Aside0.mk (Kd.je (by(with_reducible repeat (first | apply Kd.dP | apply Kd.dQ | apply Kd.eY));exact bW.out) hb);have iJ:=Aside0.mk (bI (by repeat (first | (with_reducible first | exact HB.out | apply aj | apply ah | apply ak) | exact HB.out)) hb);clear bW;clear HB;have bW:=cu;have HB:=iJ;clear cu iJ;(try clear hb);(try clear hb2);(try clear hk);(try clear hi)))
      go_ret
      exact⟨by first | rfl | (simp [aJ,aK]<;>rfl) | (simp [*,aJ,aK]<;>rfl),by repeat (first | (with_reducible first | exact HB.out | apply aj | apply ah | apply ak) | exact HB.out)⟩
end Go.Proofs.YtcnfgfomholheaaGreatDoor.P
