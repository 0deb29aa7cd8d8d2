import Derived.Test.YtcnfgfomholheaaGreatDoorPx0
import Derived.Test.YtcnfgfomholheaaGreatDoorPx2
import Derived.Test.YtcnfgfomholheaaGreatDoorPx3
import Derived.Test.YtcnfgfomholheaaGreatDoorX7
namespace Go.Proofs.YtcnfgfomholheaaGreatDoor.P
open Go.RowKit Go.Proofs.YtcnfgfomholheaaGreatDoor.X Go.Proofs.YtcnfgfomholheaaGreatDoorW.PrintWords Go.Proofs.YtcnfgfomholheaaGreatDoorW.PrintLast Go.Proofs.YtcnfgfomholheaaGreatDoorW.PrintMore
attribute [local go_sem] lU lV oC oD kF kG lW lX
set_option linter.unusedVariables false
set_option linter.unusedSimpArgs false
def eU.f (k:Nat) (a0:ByteArray):Option (Bool):=(aX.f k a0).bind fun Kz=>(some (decide (Kz≥0)))
set_option maxHeartbeats 8000000 in
set_option maxRecDepth 100000 in
theorem eU.calls (k:Nat) (a0:ByteArray) (r:Bool) (w:World) (h:eU.f k a0=some r):
  Calls Tryz.prog 177 #[.string a0] w fun e w'=>e= .returned (.bool r)∧Below w.heap.size w w':=by
 have HB:=Aside0.mk (Below.refl w.heap.size w)
 have H:((aX.f k a0).bind fun Kz=>(some (decide (Kz≥0))))=some r:=h
 clear h
 replace H:=Option.bind_eq_some_iff.mp H
 obtain⟨Kz,lK,H⟩:=H
 replace H:(some (decide (Kz≥0)))=some r:=H
 have A2:=Aside0.mk lK
 clear lK
 obtain rfl:=Option.some.inj H
 go_enter Tryz.func177,Tryz.ntmps177
 go_wp2_with (first | ((with_reducible refine aH (f:=208) rfl ?_);refine bW (some 4) rfl rfl Tryz.func208 (by kernel_rfl) rfl #[.string a0] rfl (by(try simp only [List.map_toArray,List.map_cons,List.map_nil]);first | done | rfl | (simp only [List.length_drop,List.length_take];rfl)) ?_;(with_reducible refine(aX.calls k a0 Kz _ A2.out).mono ?_);rintro e w3 ⟨rfl,hb⟩;refine⟨_,rfl,?_⟩;have aY:=Aside0.mk (aJ (by repeat (first | (with_reducible first | exact HB.out | apply aj | apply ah | apply ak) | exact HB.out)) hb);clear HB;have HB:=aY;clear aY;(try clear hb);(try clear hb2);(try clear hk);(try clear hi)))
 go_ret
 exact⟨by first | rfl | (simp [aA,aC]<;>rfl) | (simp [*,aA,aC]<;>rfl),by repeat (first | (with_reducible first | exact HB.out | apply aj | apply ah | apply ak) | exact HB.out)⟩
def iF.f (k:Nat) (a0:ByteArray):Option (Bool):=(eU.f k a0).bind fun KA=>(if KA=true then (if a0.toList=([]:List UInt8) then (some false) else ((aG.f k a0 43).bind fun t130=>(if t130=true then (some false) else ((aG.f k a0 35).bind fun t131=>(if t131=true then (some false) else ((bf.f k a0).bind fun nI=>(some (decide ((nI.length:Int)≤6))))))))) else (some false))
set_option maxHeartbeats 8000000 in
set_option maxRecDepth 100000 in
theorem iF.calls (k:Nat) (a0:ByteArray) (r:Bool) (w:World) (h:iF.f k a0=some r):
  Calls Tryz.prog 181 #[.string a0] w fun e w'=>e= .returned (.bool r)∧Below w.heap.size w w':=by
 have HB:=Aside0.mk (Below.refl w.heap.size w)
 have H:((eU.f k a0).bind fun KA=>(if KA=true then (if a0.toList=([]:List UInt8) then (some false) else ((aG.f k a0 43).bind fun t130=>(if t130=true then (some false) else ((aG.f k a0 35).bind fun t131=>(if t131=true then (some false) else ((bf.f k a0).bind fun nI=>(some (decide ((nI.length:Int)≤6))))))))) else (some false)))=some r:=h
 clear h
 replace H:=Option.bind_eq_some_iff.mp H
 obtain⟨KA,lK,H⟩:=H
 replace H:(if KA=true then (if a0.toList=([]:List UInt8) then (some false) else ((aG.f k a0 43).bind fun t130=>(if t130=true then (some false) else ((aG.f k a0 35).bind fun t131=>(if t131=true then (some false) else ((bf.f k a0).bind fun nI=>(some (decide ((nI.length:Int)≤6))))))))) else (some false))=some r:=H
 have A2:=Aside0.mk lK
 clear lK
 by_cases c3:KA=true
 ·subst c3
  have H1:(if a0.toList=([]:List UInt8) then (some false) else ((aG.f k a0 43).bind fun t130=>(if t130=true then (some false) else ((aG.f k a0 35).bind fun t131=>(if t131=true then (some false) else ((bf.f k a0).bind fun nI=>(some (decide ((nI.length:Int)≤6)))))))))=some r:=by rw [if_pos rfl] at H;exact H
  clear H
  have H:=H1
  clear H1
  by_cases c4:a0.toList=([]:List UInt8)
  ·rw [if_pos c4] at H
   have jD:(a0.toList==([]:List UInt8))=true:=beq_iff_eq.mpr c4
   have Kq:(a0.toList !=([]:List UInt8))=false:=bne_eq_false_iff_eq.mpr c4
   clear c4
   obtain rfl:=Option.some.inj H
   go_enter Tryz.func181,Tryz.ntmps181
   go_wp2_with (first | ((with_reducible refine aH (f:=177) rfl ?_);refine bW (some 4) rfl rfl Tryz.func177 (by kernel_rfl) rfl #[.string a0] rfl (by(try simp only [List.map_toArray,List.map_cons,List.map_nil]);first | done | rfl | (simp only [List.length_drop,List.length_take];rfl)) ?_;(with_reducible refine(eU.calls k a0 true _ A2.out).mono ?_);rintro e w5 ⟨rfl,hb⟩;refine⟨_,rfl,?_⟩;have aY:=Aside0.mk (aJ (by repeat (first | (with_reducible first | exact HB.out | apply aj | apply ah | apply ak) | exact HB.out)) hb);clear HB;have HB:=aY;clear aY;(try clear hb);(try clear hb2);(try clear hk);(try clear hi)))
   go_ret
   exact⟨by first | rfl | (simp [aA,aC]<;>rfl) | (simp [*,aA,aC]<;>rfl),by repeat (first | (with_reducible first | exact HB.out | apply aj | apply ah | apply ak) | exact HB.out)⟩
  ·rw [if_neg c4] at H
   have jD:(a0.toList==([]:List UInt8))=false:=beq_eq_false_iff_ne.mpr c4
   have Kq:(a0.toList !=([]:List UInt8))=true:=bne_iff_ne.mpr c4
   replace H:=Option.bind_eq_some_iff.mp H
   obtain⟨t130,xk,H⟩:=H
   replace H:(if t130=true then (some false) else ((aG.f k a0 35).bind fun t131=>(if t131=true then (some false) else ((bf.f k a0).bind fun nI=>(some (decide ((nI.length:Int)≤6)))))))=some r:=H
   have A6:=Aside0.mk xk
   clear xk
   by_cases c7:t130=true
   ·subst c7
    have H1:(some false)=some r:=by rw [if_pos rfl] at H;exact H
    clear H
    have H:=H1
    clear H1
    obtain rfl:=Option.some.inj H
    go_enter Tryz.func181,Tryz.ntmps181
    go_wp2_with (first | ((with_reducible refine aH (f:=177) rfl ?_);refine bW (some 4) rfl rfl Tryz.func177 (by kernel_rfl) rfl #[.string a0] rfl (by(try simp only [List.map_toArray,List.map_cons,List.map_nil]);first | done | rfl | (simp only [List.length_drop,List.length_take];rfl)) ?_;(with_reducible refine(eU.calls k a0 true _ A2.out).mono ?_);rintro e w8 ⟨rfl,hb⟩;refine⟨_,rfl,?_⟩;have aY:=Aside0.mk (aJ (by repeat (first | (with_reducible first | exact HB.out | apply aj | apply ah | apply ak) | exact HB.out)) hb);clear HB;have HB:=aY;clear aY;(try clear hb);(try clear hb2);(try clear hk);(try clear hi)) | (go_at_call 176;(with_reducible refine(aG.calls k a0 43 true _ A6.out).mono ?_);rintro e w' ⟨rfl,⟨nd,rfl⟩⟩))
    go_ret
    exact⟨by first | rfl | (simp [aA,aC]<;>rfl) | (simp [*,aA,aC]<;>rfl),by repeat (first | (with_reducible first | exact HB.out | apply aj | apply ah | apply ak) | exact HB.out)⟩
   ·replace c7:=Bool.eq_false_iff.mpr c7
    subst c7
    have H1:((aG.f k a0 35).bind fun t131=>(if t131=true then (some false) else ((bf.f k a0).bind fun nI=>(some (decide ((nI.length:Int)≤6))))))=some r:=by rw [if_neg (show ¬(false=true) by decide)] at H;exact H
    clear H
    have H:=H1
    clear H1
    replace H:=Option.bind_eq_some_iff.mp H
    obtain⟨t131,Yd,H⟩:=H
    replace H:(if t131=true then (some false) else ((bf.f k a0).bind fun nI=>(some (decide ((nI.length:Int)≤6)))))=some r:=H
    have A9:=Aside0.mk Yd
    clear Yd
    by_cases c10:t131=true
    ·subst c10
     have H1:(some false)=some r:=by rw [if_pos rfl] at H;exact H
     clear H
     have H:=H1
     clear H1
     obtain rfl:=Option.some.inj H
     go_enter Tryz.func181,Tryz.ntmps181
     go_wp2_with (first | ((with_reducible refine aH (f:=177) rfl ?_);refine bW (some 4) rfl rfl Tryz.func177 (by kernel_rfl) rfl #[.string a0] rfl (by(try simp only [List.map_toArray,List.map_cons,List.map_nil]);first | done | rfl | (simp only [List.length_drop,List.length_take];rfl)) ?_;(with_reducible refine(eU.calls k a0 true _ A2.out).mono ?_);rintro e w11 ⟨rfl,hb⟩;refine⟨_,rfl,?_⟩;have aY:=Aside0.mk (aJ (by repeat (first | (with_reducible first | exact HB.out | apply aj | apply ah | apply ak) | exact HB.out)) hb);clear HB;have HB:=aY;clear aY;(try clear hb);(try clear hb2);(try clear hk);(try clear hi)) | (go_at_call 176;(with_reducible refine(aG.calls k a0 43 false _ A6.out).mono ?_);rintro e w' ⟨rfl,⟨nd,rfl⟩⟩) | (go_at_call 176;(with_reducible refine(aG.calls k a0 35 true _ A9.out).mono ?_);rintro e w' ⟨rfl,⟨nd,rfl⟩⟩))
     go_ret
     exact⟨by first | rfl | (simp [aA,aC]<;>rfl) | (simp [*,aA,aC]<;>rfl),by repeat (first | (with_reducible first | exact HB.out | apply aj | apply ah | apply ak) | exact HB.out)⟩
    ·replace c10:=Bool.eq_false_iff.mpr c10
     subst c10
     have H1:((bf.f k a0).bind fun nI=>(some (decide ((nI.length:Int)≤6))))=some r:=by rw [if_neg (show ¬(false=true) by decide)] at H;exact H
     clear H
     have H:=H1
     clear H1
     replace H:=Option.bind_eq_some_iff.mp H
     obtain⟨nI,P6,H⟩:=H
     replace H:(some (decide ((nI.length:Int)≤6)))=some r:=H
     have Ya:=Aside0.mk P6
     clear P6
     obtain rfl:=Option.some.inj H
     go_enter Tryz.func181,Tryz.ntmps181
     go_wp2_with (first | ((with_reducible refine aH (f:=177) rfl ?_);refine bW (some 4) rfl rfl Tryz.func177 (by kernel_rfl) rfl #[.string a0] rfl (by(try simp only [List.map_toArray,List.map_cons,List.map_nil]);first | done | rfl | (simp only [List.length_drop,List.length_take];rfl)) ?_;(with_reducible refine(eU.calls k a0 true _ A2.out).mono ?_);rintro e w13 ⟨rfl,hb⟩;refine⟨_,rfl,?_⟩;have aY:=Aside0.mk (aJ (by repeat (first | (with_reducible first | exact HB.out | apply aj | apply ah | apply ak) | exact HB.out)) hb);clear HB;have HB:=aY;clear aY;(try clear hb);(try clear hb2);(try clear hk);(try clear hi)) | (go_at_call 176;(with_reducible refine(aG.calls k a0 43 false _ A6.out).mono ?_);rintro e w' ⟨rfl,⟨nd,rfl⟩⟩) | (go_at_call 176;(with_reducible refine(aG.calls k a0 35 false _ A9.out).mono ?_);rintro e w' ⟨rfl,⟨nd,rfl⟩⟩) | (go_at_call 108;(with_reducible refine(bf.calls k a0 nI _ Ya.out).mono ?_);rintro e w14 ⟨afm,rfl,ho0,hb⟩;have aY:=Aside0.mk (Kd.lu ho0 (iQ (by repeat (first | (with_reducible first | exact HB.out | apply aj | apply ah | apply ak) | exact HB.out))));have fK:=Aside0.mk (aJ (by repeat (first | (with_reducible first | exact HB.out | apply aj | apply ah | apply ak) | exact HB.out)) hb);clear HB;have adG:=aY;have HB:=fK;clear aY fK;(try clear hb);(try clear hb2);(try clear hk);(try clear hi);(try clear ho0);obtain⟨aeF,aeG,Zw⟩:=Kd.iJ adG.out;subst Zw))
     go_ret
     exact⟨by first | rfl | (simp [aA,aC]<;>rfl) | (simp [*,aA,aC]<;>rfl),by repeat (first | (with_reducible first | exact HB.out | apply aj | apply ah | apply ak) | exact HB.out)⟩
 ·replace c3:=Bool.eq_false_iff.mpr c3
  subst c3
  have H1:(some false)=some r:=by rw [if_neg (show ¬(false=true) by decide)] at H;exact H
  clear H
  have H:=H1
  clear H1
  obtain rfl:=Option.some.inj H
  go_enter Tryz.func181,Tryz.ntmps181
  go_wp2_with (first | ((with_reducible refine aH (f:=177) rfl ?_);refine bW (some 4) rfl rfl Tryz.func177 (by kernel_rfl) rfl #[.string a0] rfl (by(try simp only [List.map_toArray,List.map_cons,List.map_nil]);first | done | rfl | (simp only [List.length_drop,List.length_take];rfl)) ?_;(with_reducible refine(eU.calls k a0 false _ A2.out).mono ?_);rintro e w16 ⟨rfl,hb⟩;refine⟨_,rfl,?_⟩;have aY:=Aside0.mk (aJ (by repeat (first | (with_reducible first | exact HB.out | apply aj | apply ah | apply ak) | exact HB.out)) hb);clear HB;have HB:=aY;clear aY;(try clear hb);(try clear hb2);(try clear hk);(try clear hi)))
  go_ret
  exact⟨by first | rfl | (simp [aA,aC]<;>rfl) | (simp [*,aA,aC]<;>rfl),by repeat (first | (with_reducible first | exact HB.out | apply aj | apply ah | apply ak) | exact HB.out)⟩
def aN.l0:Nat→ByteArray→List ByteArray→Int→Option (Bool)
 | 0,_,_,_=>none
 | k+1,x0,x3,x4=>if x4<(x3.length:Int) then (if 0≤x4 then ((aG.f k (aK ByteArray.empty x3 x4) 43).bind fun Vt=>(if Vt=true then (if (aK ByteArray.empty x3 x4).toList=([43]:List UInt8) then ((aG.f k (aK ByteArray.empty x3 x4) 35).bind fun t143=>(if t143=true then (if (aK ByteArray.empty x3 x4).toList=([35]:List UInt8) then (if x4<(wrap64 ((x3.length:Int) - 1)) then (some false) else (aN.l0 k x0 x3 (wrap64 (x4+1)))) else (some false)) else (aN.l0 k x0 x3 (wrap64 (x4+1))))) else (some false)) else ((aG.f k (aK ByteArray.empty x3 x4) 35).bind fun t146=>(if t146=true then (if (aK ByteArray.empty x3 x4).toList=([35]:List UInt8) then (if x4<(wrap64 ((x3.length:Int) - 1)) then (some false) else (aN.l0 k x0 x3 (wrap64 (x4+1)))) else (some false)) else (aN.l0 k x0 x3 (wrap64 (x4+1))))))) else (none)) else ((eU.f k x0).bind fun t138=>(if t138=true then (if x0.toList=([]:List UInt8) then (some false) else (some (decide ((x3.length:Int)≤6)))) else (some false)))
def aN.f (k:Nat) (a0:ByteArray):Option (Bool):=(bf.f k a0).bind fun aT=>(aN.l0 k a0 aT 0)
set_option maxHeartbeats 8000000 in
set_option maxRecDepth 100000 in
theorem aN.calls (k:Nat) (a0:ByteArray) (r:Bool) (w:World) (h:aN.f k a0=some r):
  Calls Tryz.prog 106 #[.string a0] w fun e w'=>e= .returned (.bool r)∧Below w.heap.size w w':=by
 have HB:=Aside0.mk (Below.refl w.heap.size w)
 have H:((bf.f k a0).bind fun aT=>(aN.l0 k a0 aT 0))=some r:=h
 clear h
 replace H:=Option.bind_eq_some_iff.mp H
 obtain⟨aT,lK,H⟩:=H
 replace H:(aN.l0 k a0 aT 0)=some r:=H
 have A2:=Aside0.mk lK
 clear lK
 have H':=Aside0.mk H
 clear H
 go_enter Tryz.func106,Tryz.ntmps106
 go_wp2_with (first | ((with_reducible refine aH (f:=108) rfl ?_);refine bW (some 6) rfl rfl Tryz.func108 (by kernel_rfl) rfl #[.string a0] rfl (by(try simp only [List.map_toArray,List.map_cons,List.map_nil]);first | done | rfl | (simp only [List.length_drop,List.length_take];rfl)) ?_;(with_reducible refine(bf.calls k a0 aT _ A2.out).mono ?_);rintro e w3 ⟨aeH,rfl,ho0,hb⟩;refine⟨_,rfl,?_⟩;have aY:=Aside0.mk (Kd.lu ho0 (iQ (by repeat (first | (with_reducible first | exact HB.out | apply aj | apply ah | apply ak) | exact HB.out))));have fK:=Aside0.mk (aJ (by repeat (first | (with_reducible first | exact HB.out | apply aj | apply ah | apply ak) | exact HB.out)) hb);clear HB;have adH:=aY;have HB:=fK;clear aY fK;(try clear hb);(try clear hb2);(try clear hk);(try clear hi);(try clear ho0)))
 go_loopg [4] k (fun kq v4 w'=>∃(x4_1:Int),v4= .int .i64 x4_1∧Aside0 (aN.l0 kq a0 aT x4_1=some r)∧Aside0 (kq≤k)∧Aside0 (Kd.R Kd.string 9 w' w.heap.size (fun _=>True) aeH aT)∧Aside0 (Below w.heap.size w w'))
 case atStart=>exact⟨(0),(by first | rfl | (simp;done) | (simp [*];done)),H',⟨Nat.le_refl _⟩,⟨by(with_reducible repeat (first | apply Kd.dI | apply Kd.dJ | apply Kd.dR));exact adH.out⟩,⟨by repeat (first | (with_reducible first | exact HB.out | apply aj | apply ah | apply ak) | exact HB.out)⟩⟩
 case round=>
  clear H'
  try clear c1
  try clear p2
  obtain⟨x4_1,rfl,HA,jM,bY,HB⟩:=hrel
  cases gk with
  | zero=>exact absurd HA.out (by simp [aN.l0])
  | succ k1=>
    have H:=HA.out
    clear HA
    simp only [aN.l0] at H
    by_cases c4:x4_1<(aT.length:Int)
    ·rw [if_pos c4] at H
     have jD:decide (x4_1<(aT.length:Int))=true:=decide_eq_true c4
     clear c4
     by_cases c5:0≤x4_1
     ·rw [if_pos c5] at H
      have rV:decide (0≤x4_1)=true:=decide_eq_true c5
      clear c5
      replace H:=Option.bind_eq_some_iff.mp H
      obtain⟨Vt,xk,H⟩:=H
      replace H:(if Vt=true then (if (aK ByteArray.empty aT x4_1).toList=([43]:List UInt8) then ((aG.f k1 (aK ByteArray.empty aT x4_1) 35).bind fun t143=>(if t143=true then (if (aK ByteArray.empty aT x4_1).toList=([35]:List UInt8) then (if x4_1<(wrap64 ((aT.length:Int) - 1)) then (some false) else (aN.l0 k1 a0 aT (wrap64 (x4_1+1)))) else (some false)) else (aN.l0 k1 a0 aT (wrap64 (x4_1+1))))) else (some false)) else ((aG.f k1 (aK ByteArray.empty aT x4_1) 35).bind fun t146=>(if t146=true then (if (aK ByteArray.empty aT x4_1).toList=([35]:List UInt8) then (if x4_1<(wrap64 ((aT.length:Int) - 1)) then (some false) else (aN.l0 k1 a0 aT (wrap64 (x4_1+1)))) else (some false)) else (aN.l0 k1 a0 aT (wrap64 (x4_1+1))))))=some r:=H
      have A6:=Aside0.mk xk
      clear xk
      by_cases c7:Vt=true
      ·subst c7
       have H1:(if (aK ByteArray.empty aT x4_1).toList=([43]:List UInt8) then ((aG.f k1 (aK ByteArray.empty aT x4_1) 35).bind fun t143=>(if t143=true then (if (aK ByteArray.empty aT x4_1).toList=([35]:List UInt8) then (if x4_1<(wrap64 ((aT.length:Int) - 1)) then (some false) else (aN.l0 k1 a0 aT (wrap64 (x4_1+1)))) else (some false)) else (aN.l0 k1 a0 aT (wrap64 (x4_1+1))))) else (some false))=some r:=by rw [if_pos rfl] at H;exact H
       clear H
       have H:=H1
       clear H1
       by_cases c8:(aK ByteArray.empty aT x4_1).toList=([43]:List UInt8)
       ·rw [if_pos c8] at H
        have zK:((aK ByteArray.empty aT x4_1).toList==([43]:List UInt8))=true:=beq_iff_eq.mpr c8
        have aeI:((aK ByteArray.empty aT x4_1).toList !=([43]:List UInt8))=false:=bne_eq_false_iff_eq.mpr c8
        clear c8
        replace H:=Option.bind_eq_some_iff.mp H
        obtain⟨t143,Yd,H⟩:=H
        replace H:(if t143=true then (if (aK ByteArray.empty aT x4_1).toList=([35]:List UInt8) then (if x4_1<(wrap64 ((aT.length:Int) - 1)) then (some false) else (aN.l0 k1 a0 aT (wrap64 (x4_1+1)))) else (some false)) else (aN.l0 k1 a0 aT (wrap64 (x4_1+1))))=some r:=H
        have A9:=Aside0.mk Yd
        clear Yd
        by_cases c10:t143=true
        ·subst c10
         have H1:(if (aK ByteArray.empty aT x4_1).toList=([35]:List UInt8) then (if x4_1<(wrap64 ((aT.length:Int) - 1)) then (some false) else (aN.l0 k1 a0 aT (wrap64 (x4_1+1)))) else (some false))=some r:=by rw [if_pos rfl] at H;exact H
         clear H
         have H:=H1
         clear H1
         by_cases c11:(aK ByteArray.empty aT x4_1).toList=([35]:List UInt8)
         ·rw [if_pos c11] at H
          have nO:((aK ByteArray.empty aT x4_1).toList==([35]:List UInt8))=true:=beq_iff_eq.mpr c11
          have Vu:((aK ByteArray.empty aT x4_1).toList !=([35]:List UInt8))=false:=bne_eq_false_iff_eq.mpr c11
          clear c11
          by_cases c12:x4_1<(wrap64 ((aT.length:Int) - 1))
          ·rw [if_pos c12] at H
           have Ny:decide (x4_1<(wrap64 ((aT.length:Int) - 1)))=true:=decide_eq_true c12
           clear c12
           obtain rfl:=Option.some.inj H
           obtain⟨afn,afo,aeJ⟩:=Kd.iJ bY.out
           subst aeJ
           have iG:0≤(x4_1:Int):=of_decide_eq_true (by first | (with_reducible assumption) | assumption)
           have iH:x4_1<(aT.length:Int):=of_decide_eq_true (by first | (with_reducible assumption) | assumption)
           obtain⟨iL,oq,qB⟩:=Kd.aQ (Kd.bD bY.out).2.2 x4_1 iG iH
           cases oq
           replace iG:=eq_true iG
           replace iH:=eq_true iH
           go_wp2_with (first | ((with_reducible refine aH (f:=176) rfl ?_);refine bW (some 17) rfl rfl Tryz.func176 (by kernel_rfl) rfl #[.string (aK ByteArray.empty aT x4_1), .int .u8 43] rfl (by(try simp only [List.map_toArray,List.map_cons,List.map_nil]);first | done | rfl | (simp only [List.length_drop,List.length_take];rfl)) ?_;(with_reducible refine(aG.calls k1 (aK ByteArray.empty aT x4_1) 43 true _ A6.out).mono ?_);rintro e w' ⟨rfl,⟨nd,rfl⟩⟩;refine⟨_,rfl,?_⟩;have mJ:0≤(x4_1:Int):=of_decide_eq_true (by first | (with_reducible assumption) | assumption);have mM:x4_1<(aT.length:Int):=of_decide_eq_true (by first | (with_reducible assumption) | assumption);obtain⟨uG,zM,Eo⟩:=Kd.aQ (Kd.bD bY.out).2.2 x4_1 mJ mM;obtain rfl:iL=uG:=(by injection zM);replace mJ:=eq_true mJ;replace mM:=eq_true mM;have pV:0≤(x4_1:Int):=of_decide_eq_true (by first | (with_reducible assumption) | assumption);have pW:x4_1<(aT.length:Int):=of_decide_eq_true (by first | (with_reducible assumption) | assumption);obtain⟨zO,Gs,KC⟩:=Kd.aQ (Kd.bD bY.out).2.2 x4_1 pV pW;obtain rfl:iL=zO:=(by injection Gs);replace pV:=eq_true pV;replace pW:=eq_true pW) | (go_at_call 176;(with_reducible refine(aG.calls k1 (aK ByteArray.empty aT x4_1) 35 true _ A9.out).mono ?_);rintro e w' ⟨rfl,⟨nd,rfl⟩⟩;have vS:0≤(x4_1:Int):=of_decide_eq_true (by first | (with_reducible assumption) | assumption);have vT:x4_1<(aT.length:Int):=of_decide_eq_true (by first | (with_reducible assumption) | assumption);obtain⟨Jc,Qe,Sv⟩:=Kd.aQ (Kd.bD bY.out).2.2 x4_1 vS vT;obtain rfl:iL=Jc:=(by injection Qe);replace vS:=eq_true vS;replace vT:=eq_true vT))
           go_ret
           exact⟨by first | rfl | (simp [aA,aC]<;>rfl) | (simp [*,aA,aC]<;>rfl),by repeat (first | (with_reducible first | exact HB.out | apply aj | apply ah | apply ak) | exact HB.out)⟩
          ·rw [if_neg c12] at H
           have Ny:decide (x4_1<(wrap64 ((aT.length:Int) - 1)))=false:=decide_eq_false c12
           clear c12
           have H':=Aside0.mk H
           clear H
           obtain⟨aeA,aeB,Zq⟩:=Kd.iJ bY.out
           subst Zq
           have iG:0≤(x4_1:Int):=of_decide_eq_true (by first | (with_reducible assumption) | assumption)
           have iH:x4_1<(aT.length:Int):=of_decide_eq_true (by first | (with_reducible assumption) | assumption)
           obtain⟨iL,oq,qB⟩:=Kd.aQ (Kd.bD bY.out).2.2 x4_1 iG iH
           cases oq
           replace iG:=eq_true iG
           replace iH:=eq_true iH
           go_wp2_with (first | ((with_reducible refine aH (f:=176) rfl ?_);refine bW (some 17) rfl rfl Tryz.func176 (by kernel_rfl) rfl #[.string (aK ByteArray.empty aT x4_1), .int .u8 43] rfl (by(try simp only [List.map_toArray,List.map_cons,List.map_nil]);first | done | rfl | (simp only [List.length_drop,List.length_take];rfl)) ?_;(with_reducible refine(aG.calls k1 (aK ByteArray.empty aT x4_1) 43 true _ A6.out).mono ?_);rintro e w' ⟨rfl,⟨nd,rfl⟩⟩;refine⟨_,rfl,?_⟩;have mJ:0≤(x4_1:Int):=of_decide_eq_true (by first | (with_reducible assumption) | assumption);have mM:x4_1<(aT.length:Int):=of_decide_eq_true (by first | (with_reducible assumption) | assumption);obtain⟨uG,zM,Eo⟩:=Kd.aQ (Kd.bD bY.out).2.2 x4_1 mJ mM;obtain rfl:iL=uG:=(by injection zM);replace mJ:=eq_true mJ;replace mM:=eq_true mM;have pV:0≤(x4_1:Int):=of_decide_eq_true (by first | (with_reducible assumption) | assumption);have pW:x4_1<(aT.length:Int):=of_decide_eq_true (by first | (with_reducible assumption) | assumption);obtain⟨zO,Gs,KC⟩:=Kd.aQ (Kd.bD bY.out).2.2 x4_1 pV pW;obtain rfl:iL=zO:=(by injection Gs);replace pV:=eq_true pV;replace pW:=eq_true pW) | (go_at_call 176;(with_reducible refine(aG.calls k1 (aK ByteArray.empty aT x4_1) 35 true _ A9.out).mono ?_);rintro e w' ⟨rfl,⟨nd,rfl⟩⟩;have vS:0≤(x4_1:Int):=of_decide_eq_true (by first | (with_reducible assumption) | assumption);have vT:x4_1<(aT.length:Int):=of_decide_eq_true (by first | (with_reducible assumption) | assumption);obtain⟨Jc,Qe,Sv⟩:=Kd.aQ (Kd.bD bY.out).2.2 x4_1 vS vT;obtain rfl:iL=Jc:=(by injection Qe);replace vS:=eq_true vS;replace vT:=eq_true vT))
           go_roundg k1
           case measure=>have:=jM.out;omega
           case rel=>exact⟨(wrap64 (x4_1+1)),(by first | rfl | (simp;done) | (simp [*];done)),H',⟨by have:=jM.out;omega⟩,⟨by(with_reducible repeat (first | apply Kd.dI | apply Kd.dJ | apply Kd.dR));exact bY.out⟩,⟨by repeat (first | (with_reducible first | exact HB.out | apply aj | apply ah | apply ak) | exact HB.out)⟩⟩
         ·rw [if_neg c11] at H
          have nO:((aK ByteArray.empty aT x4_1).toList==([35]:List UInt8))=false:=beq_eq_false_iff_ne.mpr c11
          have Vu:((aK ByteArray.empty aT x4_1).toList !=([35]:List UInt8))=true:=bne_iff_ne.mpr c11
          obtain rfl:=Option.some.inj H
          obtain⟨aeF,aeG,Zw⟩:=Kd.iJ bY.out
          subst Zw
          have iG:0≤(x4_1:Int):=of_decide_eq_true (by first | (with_reducible assumption) | assumption)
          have iH:x4_1<(aT.length:Int):=of_decide_eq_true (by first | (with_reducible assumption) | assumption)
          obtain⟨iL,oq,qB⟩:=Kd.aQ (Kd.bD bY.out).2.2 x4_1 iG iH
          cases oq
          replace iG:=eq_true iG
          replace iH:=eq_true iH
          go_wp2_with (first | ((with_reducible refine aH (f:=176) rfl ?_);refine bW (some 17) rfl rfl Tryz.func176 (by kernel_rfl) rfl #[.string (aK ByteArray.empty aT x4_1), .int .u8 43] rfl (by(try simp only [List.map_toArray,List.map_cons,List.map_nil]);first | done | rfl | (simp only [List.length_drop,List.length_take];rfl)) ?_;(with_reducible refine(aG.calls k1 (aK ByteArray.empty aT x4_1) 43 true _ A6.out).mono ?_);rintro e w' ⟨rfl,⟨nd,rfl⟩⟩;refine⟨_,rfl,?_⟩;have mJ:0≤(x4_1:Int):=of_decide_eq_true (by first | (with_reducible assumption) | assumption);have mM:x4_1<(aT.length:Int):=of_decide_eq_true (by first | (with_reducible assumption) | assumption);obtain⟨uG,zM,Eo⟩:=Kd.aQ (Kd.bD bY.out).2.2 x4_1 mJ mM;obtain rfl:iL=uG:=(by injection zM);replace mJ:=eq_true mJ;replace mM:=eq_true mM;have pV:0≤(x4_1:Int):=of_decide_eq_true (by first | (with_reducible assumption) | assumption);have pW:x4_1<(aT.length:Int):=of_decide_eq_true (by first | (with_reducible assumption) | assumption);obtain⟨zO,Gs,KC⟩:=Kd.aQ (Kd.bD bY.out).2.2 x4_1 pV pW;obtain rfl:iL=zO:=(by injection Gs);replace pV:=eq_true pV;replace pW:=eq_true pW) | (go_at_call 176;(with_reducible refine(aG.calls k1 (aK ByteArray.empty aT x4_1) 35 true _ A9.out).mono ?_);rintro e w' ⟨rfl,⟨nd,rfl⟩⟩;have vS:0≤(x4_1:Int):=of_decide_eq_true (by first | (with_reducible assumption) | assumption);have vT:x4_1<(aT.length:Int):=of_decide_eq_true (by first | (with_reducible assumption) | assumption);obtain⟨Jc,Qe,Sv⟩:=Kd.aQ (Kd.bD bY.out).2.2 x4_1 vS vT;obtain rfl:iL=Jc:=(by injection Qe);replace vS:=eq_true vS;replace vT:=eq_true vT))
          go_ret
          exact⟨by first | rfl | (simp [aA,aC]<;>rfl) | (simp [*,aA,aC]<;>rfl),by repeat (first | (with_reducible first | exact HB.out | apply aj | apply ah | apply ak) | exact HB.out)⟩
        ·replace c10:=Bool.eq_false_iff.mpr c10
         subst c10
         have H1:(aN.l0 k1 a0 aT (wrap64 (x4_1+1)))=some r:=by rw [if_neg (show ¬(false=true) by decide)] at H;exact H
         clear H
         have H:=H1
         clear H1
         have H':=Aside0.mk H
         clear H
         obtain⟨afp,afq,aeK⟩:=Kd.iJ bY.out
         subst aeK
         have iG:0≤(x4_1:Int):=of_decide_eq_true (by first | (with_reducible assumption) | assumption)
         have iH:x4_1<(aT.length:Int):=of_decide_eq_true (by first | (with_reducible assumption) | assumption)
         obtain⟨iL,oq,qB⟩:=Kd.aQ (Kd.bD bY.out).2.2 x4_1 iG iH
         cases oq
         replace iG:=eq_true iG
         replace iH:=eq_true iH
         go_wp2_with (first | ((with_reducible refine aH (f:=176) rfl ?_);refine bW (some 17) rfl rfl Tryz.func176 (by kernel_rfl) rfl #[.string (aK ByteArray.empty aT x4_1), .int .u8 43] rfl (by(try simp only [List.map_toArray,List.map_cons,List.map_nil]);first | done | rfl | (simp only [List.length_drop,List.length_take];rfl)) ?_;(with_reducible refine(aG.calls k1 (aK ByteArray.empty aT x4_1) 43 true _ A6.out).mono ?_);rintro e w' ⟨rfl,⟨nd,rfl⟩⟩;refine⟨_,rfl,?_⟩;have mJ:0≤(x4_1:Int):=of_decide_eq_true (by first | (with_reducible assumption) | assumption);have mM:x4_1<(aT.length:Int):=of_decide_eq_true (by first | (with_reducible assumption) | assumption);obtain⟨uG,zM,Eo⟩:=Kd.aQ (Kd.bD bY.out).2.2 x4_1 mJ mM;obtain rfl:iL=uG:=(by injection zM);replace mJ:=eq_true mJ;replace mM:=eq_true mM;have pV:0≤(x4_1:Int):=of_decide_eq_true (by first | (with_reducible assumption) | assumption);have pW:x4_1<(aT.length:Int):=of_decide_eq_true (by first | (with_reducible assumption) | assumption);obtain⟨zO,Gs,KC⟩:=Kd.aQ (Kd.bD bY.out).2.2 x4_1 pV pW;obtain rfl:iL=zO:=(by injection Gs);replace pV:=eq_true pV;replace pW:=eq_true pW) | (go_at_call 176;(with_reducible refine(aG.calls k1 (aK ByteArray.empty aT x4_1) 35 false _ A9.out).mono ?_);rintro e w' ⟨rfl,⟨nd,rfl⟩⟩))
         go_roundg k1
         case measure=>have:=jM.out;omega
         case rel=>exact⟨(wrap64 (x4_1+1)),(by first | rfl | (simp;done) | (simp [*];done)),H',⟨by have:=jM.out;omega⟩,⟨by(with_reducible repeat (first | apply Kd.dI | apply Kd.dJ | apply Kd.dR));exact bY.out⟩,⟨by repeat (first | (with_reducible first | exact HB.out | apply aj | apply ah | apply ak) | exact HB.out)⟩⟩
       ·rw [if_neg c8] at H
        have zK:((aK ByteArray.empty aT x4_1).toList==([43]:List UInt8))=false:=beq_eq_false_iff_ne.mpr c8
        have aeI:((aK ByteArray.empty aT x4_1).toList !=([43]:List UInt8))=true:=bne_iff_ne.mpr c8
        obtain rfl:=Option.some.inj H
        obtain⟨afr,afs,aeL⟩:=Kd.iJ bY.out
        subst aeL
        have iG:0≤(x4_1:Int):=of_decide_eq_true (by first | (with_reducible assumption) | assumption)
        have iH:x4_1<(aT.length:Int):=of_decide_eq_true (by first | (with_reducible assumption) | assumption)
        obtain⟨iL,oq,qB⟩:=Kd.aQ (Kd.bD bY.out).2.2 x4_1 iG iH
        cases oq
        replace iG:=eq_true iG
        replace iH:=eq_true iH
        go_wp2_with (first | ((with_reducible refine aH (f:=176) rfl ?_);refine bW (some 17) rfl rfl Tryz.func176 (by kernel_rfl) rfl #[.string (aK ByteArray.empty aT x4_1), .int .u8 43] rfl (by(try simp only [List.map_toArray,List.map_cons,List.map_nil]);first | done | rfl | (simp only [List.length_drop,List.length_take];rfl)) ?_;(with_reducible refine(aG.calls k1 (aK ByteArray.empty aT x4_1) 43 true _ A6.out).mono ?_);rintro e w' ⟨rfl,⟨nd,rfl⟩⟩;refine⟨_,rfl,?_⟩;have mJ:0≤(x4_1:Int):=of_decide_eq_true (by first | (with_reducible assumption) | assumption);have mM:x4_1<(aT.length:Int):=of_decide_eq_true (by first | (with_reducible assumption) | assumption);obtain⟨uG,zM,Eo⟩:=Kd.aQ (Kd.bD bY.out).2.2 x4_1 mJ mM;obtain rfl:iL=uG:=(by injection zM);replace mJ:=eq_true mJ;replace mM:=eq_true mM))
        go_ret
        exact⟨by first | rfl | (simp [aA,aC]<;>rfl) | (simp [*,aA,aC]<;>rfl),by repeat (first | (with_reducible first | exact HB.out | apply aj | apply ah | apply ak) | exact HB.out)⟩
      ·replace c7:=Bool.eq_false_iff.mpr c7
       subst c7
       have H1:((aG.f k1 (aK ByteArray.empty aT x4_1) 35).bind fun t146=>(if t146=true then (if (aK ByteArray.empty aT x4_1).toList=([35]:List UInt8) then (if x4_1<(wrap64 ((aT.length:Int) - 1)) then (some false) else (aN.l0 k1 a0 aT (wrap64 (x4_1+1)))) else (some false)) else (aN.l0 k1 a0 aT (wrap64 (x4_1+1)))))=some r:=by rw [if_neg (show ¬(false=true) by decide)] at H;exact H
       clear H
       have H:=H1
       clear H1
       replace H:=Option.bind_eq_some_iff.mp H
       obtain⟨t146,acG,H⟩:=H
       replace H:(if t146=true then (if (aK ByteArray.empty aT x4_1).toList=([35]:List UInt8) then (if x4_1<(wrap64 ((aT.length:Int) - 1)) then (some false) else (aN.l0 k1 a0 aT (wrap64 (x4_1+1)))) else (some false)) else (aN.l0 k1 a0 aT (wrap64 (x4_1+1))))=some r:=H
       have A18:=Aside0.mk acG
       clear acG
       by_cases c19:t146=true
       ·subst c19
        have H1:(if (aK ByteArray.empty aT x4_1).toList=([35]:List UInt8) then (if x4_1<(wrap64 ((aT.length:Int) - 1)) then (some false) else (aN.l0 k1 a0 aT (wrap64 (x4_1+1)))) else (some false))=some r:=by rw [if_pos rfl] at H;exact H
        clear H
        have H:=H1
        clear H1
        by_cases c20:(aK ByteArray.empty aT x4_1).toList=([35]:List UInt8)
        ·rw [if_pos c20] at H
         have adI:((aK ByteArray.empty aT x4_1).toList==([35]:List UInt8))=true:=beq_iff_eq.mpr c20
         have adJ:((aK ByteArray.empty aT x4_1).toList !=([35]:List UInt8))=false:=bne_eq_false_iff_eq.mpr c20
         clear c20
         by_cases c21:x4_1<(wrap64 ((aT.length:Int) - 1))
         ·rw [if_pos c21] at H
          have aak:decide (x4_1<(wrap64 ((aT.length:Int) - 1)))=true:=decide_eq_true c21
          clear c21
          obtain rfl:=Option.some.inj H
          obtain⟨aft,afu,aeM⟩:=Kd.iJ bY.out
          subst aeM
          have iG:0≤(x4_1:Int):=of_decide_eq_true (by first | (with_reducible assumption) | assumption)
          have iH:x4_1<(aT.length:Int):=of_decide_eq_true (by first | (with_reducible assumption) | assumption)
          obtain⟨iL,oq,qB⟩:=Kd.aQ (Kd.bD bY.out).2.2 x4_1 iG iH
          cases oq
          replace iG:=eq_true iG
          replace iH:=eq_true iH
          go_wp2_with (first | ((with_reducible refine aH (f:=176) rfl ?_);refine bW (some 17) rfl rfl Tryz.func176 (by kernel_rfl) rfl #[.string (aK ByteArray.empty aT x4_1), .int .u8 43] rfl (by(try simp only [List.map_toArray,List.map_cons,List.map_nil]);first | done | rfl | (simp only [List.length_drop,List.length_take];rfl)) ?_;(with_reducible refine(aG.calls k1 (aK ByteArray.empty aT x4_1) 43 false _ A6.out).mono ?_);rintro e w' ⟨rfl,⟨nd,rfl⟩⟩;refine⟨_,rfl,?_⟩;have pX:0≤(x4_1:Int):=of_decide_eq_true (by first | (with_reducible assumption) | assumption);have pY:x4_1<(aT.length:Int):=of_decide_eq_true (by first | (with_reducible assumption) | assumption);obtain⟨zQ,Gt,KD⟩:=Kd.aQ (Kd.bD bY.out).2.2 x4_1 pX pY;obtain rfl:iL=zQ:=(by injection Gt);replace pX:=eq_true pX;replace pY:=eq_true pY) | (go_at_call 176;(with_reducible refine(aG.calls k1 (aK ByteArray.empty aT x4_1) 35 true _ A18.out).mono ?_);rintro e w' ⟨rfl,⟨nd,rfl⟩⟩;have vU:0≤(x4_1:Int):=of_decide_eq_true (by first | (with_reducible assumption) | assumption);have vV:x4_1<(aT.length:Int):=of_decide_eq_true (by first | (with_reducible assumption) | assumption);obtain⟨Jd,Qg,Sz⟩:=Kd.aQ (Kd.bD bY.out).2.2 x4_1 vU vV;obtain rfl:iL=Jd:=(by injection Qg);replace vU:=eq_true vU;replace vV:=eq_true vV))
          go_ret
          exact⟨by first | rfl | (simp [aA,aC]<;>rfl) | (simp [*,aA,aC]<;>rfl),by repeat (first | (with_reducible first | exact HB.out | apply aj | apply ah | apply ak) | exact HB.out)⟩
         ·rw [if_neg c21] at H
          have aak:decide (x4_1<(wrap64 ((aT.length:Int) - 1)))=false:=decide_eq_false c21
          clear c21
          have H':=Aside0.mk H
          clear H
          obtain⟨afv,afw,aeN⟩:=Kd.iJ bY.out
          subst aeN
          have iG:0≤(x4_1:Int):=of_decide_eq_true (by first | (with_reducible assumption) | assumption)
          have iH:x4_1<(aT.length:Int):=of_decide_eq_true (by first | (with_reducible assumption) | assumption)
          obtain⟨iL,oq,qB⟩:=Kd.aQ (Kd.bD bY.out).2.2 x4_1 iG iH
          cases oq
          replace iG:=eq_true iG
          replace iH:=eq_true iH
          go_wp2_with (first | ((with_reducible refine aH (f:=176) rfl ?_);refine bW (some 17) rfl rfl Tryz.func176 (by kernel_rfl) rfl #[.string (aK ByteArray.empty aT x4_1), .int .u8 43] rfl (by(try simp only [List.map_toArray,List.map_cons,List.map_nil]);first | done | rfl | (simp only [List.length_drop,List.length_take];rfl)) ?_;(with_reducible refine(aG.calls k1 (aK ByteArray.empty aT x4_1) 43 false _ A6.out).mono ?_);rintro e w' ⟨rfl,⟨nd,rfl⟩⟩;refine⟨_,rfl,?_⟩;have pX:0≤(x4_1:Int):=of_decide_eq_true (by first | (with_reducible assumption) | assumption);have pY:x4_1<(aT.length:Int):=of_decide_eq_true (by first | (with_reducible assumption) | assumption);obtain⟨zQ,Gt,KD⟩:=Kd.aQ (Kd.bD bY.out).2.2 x4_1 pX pY;obtain rfl:iL=zQ:=(by injection Gt);replace pX:=eq_true pX;replace pY:=eq_true pY) | (go_at_call 176;(with_reducible refine(aG.calls k1 (aK ByteArray.empty aT x4_1) 35 true _ A18.out).mono ?_);rintro e w' ⟨rfl,⟨nd,rfl⟩⟩;have vU:0≤(x4_1:Int):=of_decide_eq_true (by first | (with_reducible assumption) | assumption);have vV:x4_1<(aT.length:Int):=of_decide_eq_true (by first | (with_reducible assumption) | assumption);obtain⟨Jd,Qg,Sz⟩:=Kd.aQ (Kd.bD bY.out).2.2 x4_1 vU vV;obtain rfl:iL=Jd:=(by injection Qg);replace vU:=eq_true vU;replace vV:=eq_true vV))
          go_roundg k1
          case measure=>have:=jM.out;omega
          case rel=>exact⟨(wrap64 (x4_1+1)),(by first | rfl | (simp;done) | (simp [*];done)),H',⟨by have:=jM.out;omega⟩,⟨by(with_reducible repeat (first | apply Kd.dI | apply Kd.dJ | apply Kd.dR));exact bY.out⟩,⟨by repeat (first | (with_reducible first | exact HB.out | apply aj | apply ah | apply ak) | exact HB.out)⟩⟩
        ·rw [if_neg c20] at H
         have adI:((aK ByteArray.empty aT x4_1).toList==([35]:List UInt8))=false:=beq_eq_false_iff_ne.mpr c20
         have adJ:((aK ByteArray.empty aT x4_1).toList !=([35]:List UInt8))=true:=bne_iff_ne.mpr c20
         obtain rfl:=Option.some.inj H
         obtain⟨Vk,Vl,Qc⟩:=Kd.iJ bY.out
         subst Qc
         have iG:0≤(x4_1:Int):=of_decide_eq_true (by first | (with_reducible assumption) | assumption)
         have iH:x4_1<(aT.length:Int):=of_decide_eq_true (by first | (with_reducible assumption) | assumption)
         obtain⟨iL,oq,qB⟩:=Kd.aQ (Kd.bD bY.out).2.2 x4_1 iG iH
         cases oq
         replace iG:=eq_true iG
         replace iH:=eq_true iH
         go_wp2_with (first | ((with_reducible refine aH (f:=176) rfl ?_);refine bW (some 17) rfl rfl Tryz.func176 (by kernel_rfl) rfl #[.string (aK ByteArray.empty aT x4_1), .int .u8 43] rfl (by(try simp only [List.map_toArray,List.map_cons,List.map_nil]);first | done | rfl | (simp only [List.length_drop,List.length_take];rfl)) ?_;(with_reducible refine(aG.calls k1 (aK ByteArray.empty aT x4_1) 43 false _ A6.out).mono ?_);rintro e w' ⟨rfl,⟨nd,rfl⟩⟩;refine⟨_,rfl,?_⟩;have pX:0≤(x4_1:Int):=of_decide_eq_true (by first | (with_reducible assumption) | assumption);have pY:x4_1<(aT.length:Int):=of_decide_eq_true (by first | (with_reducible assumption) | assumption);obtain⟨zQ,Gt,KD⟩:=Kd.aQ (Kd.bD bY.out).2.2 x4_1 pX pY;obtain rfl:iL=zQ:=(by injection Gt);replace pX:=eq_true pX;replace pY:=eq_true pY) | (go_at_call 176;(with_reducible refine(aG.calls k1 (aK ByteArray.empty aT x4_1) 35 true _ A18.out).mono ?_);rintro e w' ⟨rfl,⟨nd,rfl⟩⟩;have vU:0≤(x4_1:Int):=of_decide_eq_true (by first | (with_reducible assumption) | assumption);have vV:x4_1<(aT.length:Int):=of_decide_eq_true (by first | (with_reducible assumption) | assumption);obtain⟨Jd,Qg,Sz⟩:=Kd.aQ (Kd.bD bY.out).2.2 x4_1 vU vV;obtain rfl:iL=Jd:=(by injection Qg);replace vU:=eq_true vU;replace vV:=eq_true vV))
         go_ret
         exact⟨by first | rfl | (simp [aA,aC]<;>rfl) | (simp [*,aA,aC]<;>rfl),by repeat (first | (with_reducible first | exact HB.out | apply aj | apply ah | apply ak) | exact HB.out)⟩
       ·replace c19:=Bool.eq_false_iff.mpr c19
        subst c19
        have H1:(aN.l0 k1 a0 aT (wrap64 (x4_1+1)))=some r:=by rw [if_neg (show ¬(false=true) by decide)] at H;exact H
        clear H
        have H:=H1
        clear H1
        have H':=Aside0.mk H
        clear H
        obtain⟨Vm,Vo,Qd⟩:=Kd.iJ bY.out
        subst Qd
        have iG:0≤(x4_1:Int):=of_decide_eq_true (by first | (with_reducible assumption) | assumption)
        have iH:x4_1<(aT.length:Int):=of_decide_eq_true (by first | (with_reducible assumption) | assumption)
        obtain⟨iL,oq,qB⟩:=Kd.aQ (Kd.bD bY.out).2.2 x4_1 iG iH
        cases oq
        replace iG:=eq_true iG
        replace iH:=eq_true iH
        go_wp2_with (first | ((with_reducible refine aH (f:=176) rfl ?_);refine bW (some 17) rfl rfl Tryz.func176 (by kernel_rfl) rfl #[.string (aK ByteArray.empty aT x4_1), .int .u8 43] rfl (by(try simp only [List.map_toArray,List.map_cons,List.map_nil]);first | done | rfl | (simp only [List.length_drop,List.length_take];rfl)) ?_;(with_reducible refine(aG.calls k1 (aK ByteArray.empty aT x4_1) 43 false _ A6.out).mono ?_);rintro e w' ⟨rfl,⟨nd,rfl⟩⟩;refine⟨_,rfl,?_⟩;have pX:0≤(x4_1:Int):=of_decide_eq_true (by first | (with_reducible assumption) | assumption);have pY:x4_1<(aT.length:Int):=of_decide_eq_true (by first | (with_reducible assumption) | assumption);obtain⟨zQ,Gt,KD⟩:=Kd.aQ (Kd.bD bY.out).2.2 x4_1 pX pY;obtain rfl:iL=zQ:=(by injection Gt);replace pX:=eq_true pX;replace pY:=eq_true pY) | (go_at_call 176;(with_reducible refine(aG.calls k1 (aK ByteArray.empty aT x4_1) 35 false _ A18.out).mono ?_);rintro e w' ⟨rfl,⟨nd,rfl⟩⟩))
        go_roundg k1
        case measure=>have:=jM.out;omega
        case rel=>exact⟨(wrap64 (x4_1+1)),(by first | rfl | (simp;done) | (simp [*];done)),H',⟨by have:=jM.out;omega⟩,⟨by(with_reducible repeat (first | apply Kd.dI | apply Kd.dJ | apply Kd.dR));exact bY.out⟩,⟨by repeat (first | (with_reducible first | exact HB.out | apply aj | apply ah | apply ak) | exact HB.out)⟩⟩
     ·rw [if_neg c5] at H
      exact absurd H (by simp)
    ·rw [if_neg c4] at H
     have jD:decide (x4_1<(aT.length:Int))=false:=decide_eq_false c4
     clear c4
     replace H:=Option.bind_eq_some_iff.mp H
     obtain⟨t138,acH,H⟩:=H
     replace H:(if t138=true then (if a0.toList=([]:List UInt8) then (some false) else (some (decide ((aT.length:Int)≤6)))) else (some false))=some r:=H
     have A26:=Aside0.mk acH
     clear acH
     by_cases c27:t138=true
     ·subst c27
      have H1:(if a0.toList=([]:List UInt8) then (some false) else (some (decide ((aT.length:Int)≤6))))=some r:=by rw [if_pos rfl] at H;exact H
      clear H
      have H:=H1
      clear H1
      by_cases c28:a0.toList=([]:List UInt8)
      ·rw [if_pos c28] at H
       have adK:(a0.toList==([]:List UInt8))=true:=beq_iff_eq.mpr c28
       have adL:(a0.toList !=([]:List UInt8))=false:=bne_eq_false_iff_eq.mpr c28
       clear c28
       obtain rfl:=Option.some.inj H
       obtain⟨afx,afy,aeO⟩:=Kd.iJ bY.out
       subst aeO
       go_wp2_with (first | ((with_reducible refine aH (f:=177) rfl ?_);refine bW (some 47) rfl rfl Tryz.func177 (by kernel_rfl) rfl #[.string a0] rfl (by(try simp only [List.map_toArray,List.map_cons,List.map_nil]);first | done | rfl | (simp only [List.length_drop,List.length_take];rfl)) ?_;(with_reducible refine(eU.calls k1 a0 true _ A26.out).mono ?_);rintro e w30 ⟨rfl,hb⟩;refine⟨_,rfl,?_⟩;have aY:=Aside0.mk (Kd.iZ (by(with_reducible repeat (first | apply Kd.dI | apply Kd.dJ | apply Kd.dR));exact bY.out) hb);have fK:=Aside0.mk (aJ (by repeat (first | (with_reducible first | exact HB.out | apply aj | apply ah | apply ak) | exact HB.out)) hb);clear bY;clear HB;have bY:=aY;have HB:=fK;clear aY fK;(try clear hb);(try clear hb2);(try clear hk);(try clear hi)))
       go_ret
       exact⟨by first | rfl | (simp [aA,aC]<;>rfl) | (simp [*,aA,aC]<;>rfl),by repeat (first | (with_reducible first | exact HB.out | apply aj | apply ah | apply ak) | exact HB.out)⟩
      ·rw [if_neg c28] at H
       have adK:(a0.toList==([]:List UInt8))=false:=beq_eq_false_iff_ne.mpr c28
       have adL:(a0.toList !=([]:List UInt8))=true:=bne_iff_ne.mpr c28
       obtain rfl:=Option.some.inj H
       obtain⟨afz,afA,aeP⟩:=Kd.iJ bY.out
       subst aeP
       go_wp2_with (first | ((with_reducible refine aH (f:=177) rfl ?_);refine bW (some 47) rfl rfl Tryz.func177 (by kernel_rfl) rfl #[.string a0] rfl (by(try simp only [List.map_toArray,List.map_cons,List.map_nil]);first | done | rfl | (simp only [List.length_drop,List.length_take];rfl)) ?_;(with_reducible refine(eU.calls k1 a0 true _ A26.out).mono ?_);rintro e w32 ⟨rfl,hb⟩;refine⟨_,rfl,?_⟩;have aY:=Aside0.mk (Kd.iZ (by(with_reducible repeat (first | apply Kd.dI | apply Kd.dJ | apply Kd.dR));exact bY.out) hb);have fK:=Aside0.mk (aJ (by repeat (first | (with_reducible first | exact HB.out | apply aj | apply ah | apply ak) | exact HB.out)) hb);clear bY;clear HB;have bY:=aY;have HB:=fK;clear aY fK;(try clear hb);(try clear hb2);(try clear hk);(try clear hi)))
       go_ret
       exact⟨by first | rfl | (simp [aA,aC]<;>rfl) | (simp [*,aA,aC]<;>rfl),by repeat (first | (with_reducible first | exact HB.out | apply aj | apply ah | apply ak) | exact HB.out)⟩
     ·replace c27:=Bool.eq_false_iff.mpr c27
      subst c27
      have H1:(some false)=some r:=by rw [if_neg (show ¬(false=true) by decide)] at H;exact H
      clear H
      have H:=H1
      clear H1
      obtain rfl:=Option.some.inj H
      obtain⟨afB,afC,aeQ⟩:=Kd.iJ bY.out
      subst aeQ
      go_wp2_with (first | ((with_reducible refine aH (f:=177) rfl ?_);refine bW (some 47) rfl rfl Tryz.func177 (by kernel_rfl) rfl #[.string a0] rfl (by(try simp only [List.map_toArray,List.map_cons,List.map_nil]);first | done | rfl | (simp only [List.length_drop,List.length_take];rfl)) ?_;(with_reducible refine(eU.calls k1 a0 false _ A26.out).mono ?_);rintro e w34 ⟨rfl,hb⟩;refine⟨_,rfl,?_⟩;have aY:=Aside0.mk (Kd.iZ (by(with_reducible repeat (first | apply Kd.dI | apply Kd.dJ | apply Kd.dR));exact bY.out) hb);have fK:=Aside0.mk (aJ (by repeat (first | (with_reducible first | exact HB.out | apply aj | apply ah | apply ak) | exact HB.out)) hb);clear bY;clear HB;have bY:=aY;have HB:=fK;clear aY fK;(try clear hb);(try clear hb2);(try clear hk);(try clear hi)))
      go_ret
      exact⟨by first | rfl | (simp [aA,aC]<;>rfl) | (simp [*,aA,aC]<;>rfl),by repeat (first | (with_reducible first | exact HB.out | apply aj | apply ah | apply ak) | exact HB.out)⟩
def eG.f (a0:ByteArray):Option (Bool):=if 0<(a0.size:Int) then (if (bt a0 0)=43 then (some true) else (some ((bt a0 0)==35))) else (none)
set_option maxHeartbeats 8000000 in
set_option maxRecDepth 100000 in
theorem eG.calls (a0:ByteArray) (r:Bool) (w:World) (h:eG.f a0=some r):
  Calls Tryz.prog 150 #[.string a0] w fun e w'=>e= .returned (.bool r)∧ay w w':=by
 have H:(if 0<(a0.size:Int) then (if (bt a0 0)=43 then (some true) else (some ((bt a0 0)==35))) else (none))=some r:=h
 clear h
 by_cases c2:0<(a0.size:Int)
 ·rw [if_pos c2] at H
  have Vr:decide (0<(a0.size:Int))=true:=decide_eq_true c2
  have Vs:decide (0<a0.size)=true:=decide_eq_true (by omega)
  clear c2
  by_cases c4:(bt a0 0)=43
  ·rw [if_pos c4] at H
   have jD:((bt a0 0)==43)=true:=beq_iff_eq.mpr c4
   have Kq:((bt a0 0) !=43)=false:=bne_eq_false_iff_eq.mpr c4
   clear c4
   obtain rfl:=Option.some.inj H
   have p3:0≤(0:Int):=(by omega)
   have q3:0<a0.size:=(by have:(0:Int)<(a0.size:Int):=of_decide_eq_true (by first | (with_reducible assumption) | assumption);omega)
   have hx3:∀h:0<a0.size,((a0[0]'h).toNat:Int)=bt a0 0:=o7 a0 0
   clear p3
   have qi3:(0<(a0.size:Int))=True:=eq_true (of_decide_eq_true (by first | (with_reducible assumption) | assumption))
   replace q3:=eq_true q3
   go_enter Tryz.func150,Tryz.ntmps150
   go_wp2
   go_ret
   exact⟨by first | rfl | (simp;done) | (simp [*];done),by repeat (first | exact ay.refl _ | apply ay.step)⟩
  ·rw [if_neg c4] at H
   have jD:((bt a0 0)==43)=false:=beq_eq_false_iff_ne.mpr c4
   have Kq:((bt a0 0) !=43)=true:=bne_iff_ne.mpr c4
   obtain rfl:=Option.some.inj H
   have p3:0≤(0:Int):=(by omega)
   have q3:0<a0.size:=(by have:(0:Int)<(a0.size:Int):=of_decide_eq_true (by first | (with_reducible assumption) | assumption);omega)
   have hx3:∀h:0<a0.size,((a0[0]'h).toNat:Int)=bt a0 0:=o7 a0 0
   clear p3
   have qi3:(0<(a0.size:Int))=True:=eq_true (of_decide_eq_true (by first | (with_reducible assumption) | assumption))
   replace q3:=eq_true q3
   have p5:0≤(0:Int):=(by omega)
   have q5:0<a0.size:=(by have:(0:Int)<(a0.size:Int):=of_decide_eq_true (by first | (with_reducible assumption) | assumption);omega)
   have hx5:∀h:0<a0.size,((a0[0]'h).toNat:Int)=bt a0 0:=o7 a0 0
   clear p5
   have qi5:(0<(a0.size:Int))=True:=eq_true (of_decide_eq_true (by first | (with_reducible assumption) | assumption))
   replace q5:=eq_true q5
   go_enter Tryz.func150,Tryz.ntmps150
   go_wp2
   go_ret
   exact⟨by first | rfl | (simp;done) | (simp [*];done),by repeat (first | exact ay.refl _ | apply ay.step)⟩
 ·rw [if_neg c2] at H
  exact absurd H (by simp)
def stringslite_HasPrefix.f (a0:ByteArray) (a1:ByteArray):Option (Bool):=if (a0.size:Int)≥(a1.size:Int) then (if 0≤(a1.size:Int) then (if (a1.size:Int)≤(a0.size:Int) then (some ((a0.extract 0 ((a1.size:Int):Int).toNat).toList==a1.toList)) else (none)) else (none)) else (some false)
set_option maxHeartbeats 8000000 in
set_option maxRecDepth 100000 in
theorem stringslite_HasPrefix.calls (a0:ByteArray) (a1:ByteArray) (r:Bool) (w:World) (h:stringslite_HasPrefix.f a0 a1=some r):
  Calls Tryz.prog 219 #[.string a0, .string a1] w fun e w'=>e= .returned (.bool r)∧ay w w':=by
 have H:(if (a0.size:Int)≥(a1.size:Int) then (if 0≤(a1.size:Int) then (if (a1.size:Int)≤(a0.size:Int) then (some ((a0.extract 0 ((a1.size:Int):Int).toNat).toList==a1.toList)) else (none)) else (none)) else (some false))=some r:=h
 clear h
 by_cases c3:(a0.size:Int)≥(a1.size:Int)
 ·rw [if_pos c3] at H
  have xP:decide ((a1.size:Int)≤(a0.size:Int))=true:=decide_eq_true c3
  have Zv:decide (a1.size≤a0.size)=true:=decide_eq_true (Int.ofNat_le.mp c3)
  clear c3
  by_cases c4:0≤(a1.size:Int)
  ·rw [if_pos c4] at H
   have jD:=eq_true c4
   have Kq:decide (0≤(a1.size:Int))=true:=decide_eq_true c4
   clear c4
   by_cases c5:(a1.size:Int)≤(a0.size:Int)
   ·rw [if_pos c5] at H
    have rV:=eq_true c5
    have Di:decide ((a1.size:Int)≤(a0.size:Int))=true:=decide_eq_true c5
    clear c5
    obtain rfl:=Option.some.inj H
    go_enter Tryz.func219,Tryz.ntmps219
    go_wp2
    go_ret
    exact⟨by first | rfl | (simp;done) | (simp [*];done),by repeat (first | exact ay.refl _ | apply ay.step)⟩
   ·rw [if_neg c5] at H
    exact absurd H (by simp)
  ·rw [if_neg c4] at H
   exact absurd H (by simp)
 ·rw [if_neg c3] at H
  have xP:decide ((a1.size:Int)≤(a0.size:Int))=false:=decide_eq_false c3
  have Zv:decide (a1.size≤a0.size)=false:=decide_eq_false (fun h=>c3 (Int.ofNat_le.mpr h))
  clear c3
  obtain rfl:=Option.some.inj H
  go_enter Tryz.func219,Tryz.ntmps219
  go_wp2
  go_ret
  exact⟨by first | rfl | (simp;done) | (simp [*];done),by repeat (first | exact ay.refl _ | apply ay.step)⟩
end Go.Proofs.YtcnfgfomholheaaGreatDoor.P
