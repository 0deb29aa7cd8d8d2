import Derived.Test.YtcnfgfomholheaaGreatDoorPx0
import Derived.Test.YtcnfgfomholheaaGreatDoorPx2
import Derived.Test.YtcnfgfomholheaaGreatDoorPx3
import Derived.Test.YtcnfgfomholheaaGreatDoorX7
namespace Go.Proofs.YtcnfgfomholheaaGreatDoor.P
open Go.RowKit Go.Proofs.YtcnfgfomholheaaGreatDoor.X Go.Proofs.YtcnfgfomholheaaGreatDoorW.PrintWords Go.Proofs.YtcnfgfomholheaaGreatDoorW.PrintLast Go.Proofs.YtcnfgfomholheaaGreatDoorW.PrintMore
attribute [local go_sem] mW mX pz pF lD lF mY mZ
set_option linter.unusedVariables false
set_option linter.unusedSimpArgs false
def eP.f (k:Nat) (a0:ByteArray):Option (Bool):=(aU.f k a0).bind fun Kv=>(some (decide (Kv≥0)))
set_option maxHeartbeats 8000000 in
set_option maxRecDepth 100000 in
theorem eP.calls (k:Nat) (a0:ByteArray) (r:Bool) (w:World) (h:eP.f k a0=some r):
  Calls Tryz.prog 177 #[.string a0] w fun e w'=>e= .returned (.bool r)∧Below w.heap.size w w':=by
 have HB:=Aside0.mk (Below.refl w.heap.size w)
 have H:((aU.f k a0).bind fun Kv=>(some (decide (Kv≥0))))=some r:=h
 clear h
 replace H:=Option.bind_eq_some_iff.mp H
 obtain⟨Kv,pX,H⟩:=H
 replace H:(some (decide (Kv≥0)))=some r:=H
 have A2:=Aside0.mk pX
 clear pX
 obtain rfl:=Option.some.inj H
 go_enter Tryz.func177,Tryz.ntmps177
 go_wp2_with (first | ((with_reducible refine bn (f:=208) rfl ?_);refine dN (some 4) rfl rfl Tryz.func208 (by kernel_rfl) rfl #[.string a0] rfl (by(try simp only [List.map_toArray,List.map_cons,List.map_nil]);first | done | rfl | (simp only [List.length_drop,List.length_take];rfl)) ?_;(with_reducible refine(aU.calls k a0 Kv _ A2.out).mono ?_);rintro e w3 ⟨rfl,hb⟩;refine⟨_,rfl,?_⟩;have cZ:=Aside0.mk (bG (by repeat (first | (with_reducible first | exact HB.out | apply aj | apply ah | apply ak) | exact HB.out)) hb);clear HB;have HB:=cZ;clear cZ;(try clear hb);(try clear hb2);(try clear hk);(try clear hi)))
 go_ret
 exact⟨by first | rfl | (simp [aJ,aK]<;>rfl) | (simp [*,aJ,aK]<;>rfl),by repeat (first | (with_reducible first | exact HB.out | apply aj | apply ah | apply ak) | exact HB.out)⟩
def nM.f (k:Nat) (a0:ByteArray):Option (Bool):=(eP.f k a0).bind fun Kw=>(if Kw=true then (if a0.toList=([]:List UInt8) then (some false) else ((aI.f k a0 43).bind fun t130=>(if t130=true then (some false) else ((aI.f k a0 35).bind fun t131=>(if t131=true then (some false) else ((bF.f k a0).bind fun mM=>(some (decide ((mM.length:Int)≤6))))))))) else (some false))
set_option maxHeartbeats 8000000 in
set_option maxRecDepth 100000 in
theorem nM.calls (k:Nat) (a0:ByteArray) (r:Bool) (w:World) (h:nM.f k a0=some r):
  Calls Tryz.prog 181 #[.string a0] w fun e w'=>e= .returned (.bool r)∧Below w.heap.size w w':=by
 have HB:=Aside0.mk (Below.refl w.heap.size w)
 have H:((eP.f k a0).bind fun Kw=>(if Kw=true then (if a0.toList=([]:List UInt8) then (some false) else ((aI.f k a0 43).bind fun t130=>(if t130=true then (some false) else ((aI.f k a0 35).bind fun t131=>(if t131=true then (some false) else ((bF.f k a0).bind fun mM=>(some (decide ((mM.length:Int)≤6))))))))) else (some false)))=some r:=h
 clear h
 replace H:=Option.bind_eq_some_iff.mp H
 obtain⟨Kw,pX,H⟩:=H
 replace H:(if Kw=true then (if a0.toList=([]:List UInt8) then (some false) else ((aI.f k a0 43).bind fun t130=>(if t130=true then (some false) else ((aI.f k a0 35).bind fun t131=>(if t131=true then (some false) else ((bF.f k a0).bind fun mM=>(some (decide ((mM.length:Int)≤6))))))))) else (some false))=some r:=H
 have A2:=Aside0.mk pX
 clear pX
 by_cases c3:Kw=true
 ·subst c3
  have H1:(if a0.toList=([]:List UInt8) then (some false) else ((aI.f k a0 43).bind fun t130=>(if t130=true then (some false) else ((aI.f k a0 35).bind fun t131=>(if t131=true then (some false) else ((bF.f k a0).bind fun mM=>(some (decide ((mM.length:Int)≤6)))))))))=some r:=by rw [if_pos rfl] at H;exact H
  clear H
  have H:=H1
  clear H1
  by_cases c4:a0.toList=([]:List UInt8)
  ·rw [if_pos c4] at H
   have kJ:(a0.toList==([]:List UInt8))=true:=beq_iff_eq.mpr c4
   have Y5:(a0.toList !=([]:List UInt8))=false:=bne_eq_false_iff_eq.mpr c4
   clear c4
   obtain rfl:=Option.some.inj H
   go_enter Tryz.func181,Tryz.ntmps181
   go_wp2_with (first | ((with_reducible refine bn (f:=177) rfl ?_);refine dN (some 4) rfl rfl Tryz.func177 (by kernel_rfl) rfl #[.string a0] rfl (by(try simp only [List.map_toArray,List.map_cons,List.map_nil]);first | done | rfl | (simp only [List.length_drop,List.length_take];rfl)) ?_;(with_reducible refine(eP.calls k a0 true _ A2.out).mono ?_);rintro e w5 ⟨rfl,hb⟩;refine⟨_,rfl,?_⟩;have cZ:=Aside0.mk (bG (by repeat (first | (with_reducible first | exact HB.out | apply aj | apply ah | apply ak) | exact HB.out)) hb);clear HB;have HB:=cZ;clear cZ;(try clear hb);(try clear hb2);(try clear hk);(try clear hi)))
   go_ret
   exact⟨by first | rfl | (simp [aJ,aK]<;>rfl) | (simp [*,aJ,aK]<;>rfl),by repeat (first | (with_reducible first | exact HB.out | apply aj | apply ah | apply ak) | exact HB.out)⟩
  ·rw [if_neg c4] at H
   have kJ:(a0.toList==([]:List UInt8))=false:=beq_eq_false_iff_ne.mpr c4
   have Y5:(a0.toList !=([]:List UInt8))=true:=bne_iff_ne.mpr c4
   replace H:=Option.bind_eq_some_iff.mp H
   obtain⟨t130,LV,H⟩:=H
   replace H:(if t130=true then (some false) else ((aI.f k a0 35).bind fun t131=>(if t131=true then (some false) else ((bF.f k a0).bind fun mM=>(some (decide ((mM.length:Int)≤6)))))))=some r:=H
   have A6:=Aside0.mk LV
   clear LV
   by_cases c7:t130=true
   ·subst c7
    have H1:(some false)=some r:=by rw [if_pos rfl] at H;exact H
    clear H
    have H:=H1
    clear H1
    obtain rfl:=Option.some.inj H
    go_enter Tryz.func181,Tryz.ntmps181
    go_wp2_with (first | ((with_reducible refine bn (f:=177) rfl ?_);refine dN (some 4) rfl rfl Tryz.func177 (by kernel_rfl) rfl #[.string a0] rfl (by(try simp only [List.map_toArray,List.map_cons,List.map_nil]);first | done | rfl | (simp only [List.length_drop,List.length_take];rfl)) ?_;(with_reducible refine(eP.calls k a0 true _ A2.out).mono ?_);rintro e w8 ⟨rfl,hb⟩;refine⟨_,rfl,?_⟩;have cZ:=Aside0.mk (bG (by repeat (first | (with_reducible first | exact HB.out | apply aj | apply ah | apply ak) | exact HB.out)) hb);clear HB;have HB:=cZ;clear cZ;(try clear hb);(try clear hb2);(try clear hk);(try clear hi)) | (go_at_call 176;(with_reducible refine(aI.calls k a0 43 true _ A6.out).mono ?_);rintro e w' ⟨rfl,⟨nd,rfl⟩⟩))
    go_ret
    exact⟨by first | rfl | (simp [aJ,aK]<;>rfl) | (simp [*,aJ,aK]<;>rfl),by repeat (first | (with_reducible first | exact HB.out | apply aj | apply ah | apply ak) | exact HB.out)⟩
   ·replace c7:=Bool.eq_false_iff.mpr c7
    subst c7
    have H1:((aI.f k a0 35).bind fun t131=>(if t131=true then (some false) else ((bF.f k a0).bind fun mM=>(some (decide ((mM.length:Int)≤6))))))=some r:=by rw [if_neg (show ¬(false=true) by decide)] at H;exact H
    clear H
    have H:=H1
    clear H1
    replace H:=Option.bind_eq_some_iff.mp H
    obtain⟨t131,XL,H⟩:=H
    replace H:(if t131=true then (some false) else ((bF.f k a0).bind fun mM=>(some (decide ((mM.length:Int)≤6)))))=some r:=H
    have A9:=Aside0.mk XL
    clear XL
    by_cases c10:t131=true
    ·subst c10
     have H1:(some false)=some r:=by rw [if_pos rfl] at H;exact H
     clear H
     have H:=H1
     clear H1
     obtain rfl:=Option.some.inj H
     go_enter Tryz.func181,Tryz.ntmps181
     go_wp2_with (first | ((with_reducible refine bn (f:=177) rfl ?_);refine dN (some 4) rfl rfl Tryz.func177 (by kernel_rfl) rfl #[.string a0] rfl (by(try simp only [List.map_toArray,List.map_cons,List.map_nil]);first | done | rfl | (simp only [List.length_drop,List.length_take];rfl)) ?_;(with_reducible refine(eP.calls k a0 true _ A2.out).mono ?_);rintro e w11 ⟨rfl,hb⟩;refine⟨_,rfl,?_⟩;have cZ:=Aside0.mk (bG (by repeat (first | (with_reducible first | exact HB.out | apply aj | apply ah | apply ak) | exact HB.out)) hb);clear HB;have HB:=cZ;clear cZ;(try clear hb);(try clear hb2);(try clear hk);(try clear hi)) | (go_at_call 176;(with_reducible refine(aI.calls k a0 43 false _ A6.out).mono ?_);rintro e w' ⟨rfl,⟨nd,rfl⟩⟩) | (go_at_call 176;(with_reducible refine(aI.calls k a0 35 true _ A9.out).mono ?_);rintro e w' ⟨rfl,⟨nd,rfl⟩⟩))
     go_ret
     exact⟨by first | rfl | (simp [aJ,aK]<;>rfl) | (simp [*,aJ,aK]<;>rfl),by repeat (first | (with_reducible first | exact HB.out | apply aj | apply ah | apply ak) | exact HB.out)⟩
    ·replace c10:=Bool.eq_false_iff.mpr c10
     subst c10
     have H1:((bF.f k a0).bind fun mM=>(some (decide ((mM.length:Int)≤6))))=some r:=by rw [if_neg (show ¬(false=true) by decide)] at H;exact H
     clear H
     have H:=H1
     clear H1
     replace H:=Option.bind_eq_some_iff.mp H
     obtain⟨mM,P7,H⟩:=H
     replace H:(some (decide ((mM.length:Int)≤6)))=some r:=H
     have XJ:=Aside0.mk P7
     clear P7
     obtain rfl:=Option.some.inj H
     go_enter Tryz.func181,Tryz.ntmps181
     go_wp2_with (first | ((with_reducible refine bn (f:=177) rfl ?_);refine dN (some 4) rfl rfl Tryz.func177 (by kernel_rfl) rfl #[.string a0] rfl (by(try simp only [List.map_toArray,List.map_cons,List.map_nil]);first | done | rfl | (simp only [List.length_drop,List.length_take];rfl)) ?_;(with_reducible refine(eP.calls k a0 true _ A2.out).mono ?_);rintro e w13 ⟨rfl,hb⟩;refine⟨_,rfl,?_⟩;have cZ:=Aside0.mk (bG (by repeat (first | (with_reducible first | exact HB.out | apply aj | apply ah | apply ak) | exact HB.out)) hb);clear HB;have HB:=cZ;clear cZ;(try clear hb);(try clear hb2);(try clear hk);(try clear hi)) | (go_at_call 176;(with_reducible refine(aI.calls k a0 43 false _ A6.out).mono ?_);rintro e w' ⟨rfl,⟨nd,rfl⟩⟩) | (go_at_call 176;(with_reducible refine(aI.calls k a0 35 false _ A9.out).mono ?_);rintro e w' ⟨rfl,⟨nd,rfl⟩⟩) | (go_at_call 108;(with_reducible refine(bF.calls k a0 mM _ XJ.out).mono ?_);rintro e w14 ⟨afk,rfl,ho0,hb⟩;have cZ:=Aside0.mk (Kd.qL ho0 (jY (by repeat (first | (with_reducible first | exact HB.out | apply aj | apply ah | apply ak) | exact HB.out))));have iw:=Aside0.mk (bG (by repeat (first | (with_reducible first | exact HB.out | apply aj | apply ah | apply ak) | exact HB.out)) hb);clear HB;have adA:=cZ;have HB:=iw;clear cZ iw;(try clear hb);(try clear hb2);(try clear hk);(try clear hi);(try clear ho0);obtain⟨aeD,aeE,Zb⟩:=Kd.jq adA.out;subst Zb))
     go_ret
     exact⟨by first | rfl | (simp [aJ,aK]<;>rfl) | (simp [*,aJ,aK]<;>rfl),by repeat (first | (with_reducible first | exact HB.out | apply aj | apply ah | apply ak) | exact HB.out)⟩
 ·replace c3:=Bool.eq_false_iff.mpr c3
  subst c3
  have H1:(some false)=some r:=by rw [if_neg (show ¬(false=true) by decide)] at H;exact H
  clear H
  have H:=H1
  clear H1
  obtain rfl:=Option.some.inj H
  go_enter Tryz.func181,Tryz.ntmps181
  go_wp2_with (first | ((with_reducible refine bn (f:=177) rfl ?_);refine dN (some 4) rfl rfl Tryz.func177 (by kernel_rfl) rfl #[.string a0] rfl (by(try simp only [List.map_toArray,List.map_cons,List.map_nil]);first | done | rfl | (simp only [List.length_drop,List.length_take];rfl)) ?_;(with_reducible refine(eP.calls k a0 false _ A2.out).mono ?_);rintro e w16 ⟨rfl,hb⟩;refine⟨_,rfl,?_⟩;have cZ:=Aside0.mk (bG (by repeat (first | (with_reducible first | exact HB.out | apply aj | apply ah | apply ak) | exact HB.out)) hb);clear HB;have HB:=cZ;clear cZ;(try clear hb);(try clear hb2);(try clear hk);(try clear hi)))
  go_ret
  exact⟨by first | rfl | (simp [aJ,aK]<;>rfl) | (simp [*,aJ,aK]<;>rfl),by repeat (first | (with_reducible first | exact HB.out | apply aj | apply ah | apply ak) | exact HB.out)⟩
def aT.l0:Nat→ByteArray→List ByteArray→Int→Option (Bool)
 | 0,_,_,_=>none
 | k+1,x0,x3,x4=>if x4<(x3.length:Int) then (if 0≤x4 then ((aI.f k (bW ByteArray.empty x3 x4) 43).bind fun Vb=>(if Vb=true then (if (bW ByteArray.empty x3 x4).toList=([43]:List UInt8) then ((aI.f k (bW ByteArray.empty x3 x4) 35).bind fun t143=>(if t143=true then (if (bW ByteArray.empty x3 x4).toList=([35]:List UInt8) then (if x4<(wrap64 ((x3.length:Int) - 1)) then (some false) else (aT.l0 k x0 x3 (wrap64 (x4+1)))) else (some false)) else (aT.l0 k x0 x3 (wrap64 (x4+1))))) else (some false)) else ((aI.f k (bW ByteArray.empty x3 x4) 35).bind fun t146=>(if t146=true then (if (bW ByteArray.empty x3 x4).toList=([35]:List UInt8) then (if x4<(wrap64 ((x3.length:Int) - 1)) then (some false) else (aT.l0 k x0 x3 (wrap64 (x4+1)))) else (some false)) else (aT.l0 k x0 x3 (wrap64 (x4+1))))))) else (none)) else ((eP.f k x0).bind fun t138=>(if t138=true then (if x0.toList=([]:List UInt8) then (some false) else (some (decide ((x3.length:Int)≤6)))) else (some false)))
def aT.f (k:Nat) (a0:ByteArray):Option (Bool):=(bF.f k a0).bind fun aN=>(aT.l0 k a0 aN 0)
set_option maxHeartbeats 8000000 in
set_option maxRecDepth 100000 in
theorem aT.calls (k:Nat) (a0:ByteArray) (r:Bool) (w:World) (h:aT.f k a0=some r):
  Calls Tryz.prog 106 #[.string a0] w fun e w'=>e= .returned (.bool r)∧Below w.heap.size w w':=by
 have HB:=Aside0.mk (Below.refl w.heap.size w)
 have H:((bF.f k a0).bind fun aN=>(aT.l0 k a0 aN 0))=some r:=h
 clear h
 replace H:=Option.bind_eq_some_iff.mp H
 obtain⟨aN,pX,H⟩:=H
 replace H:(aT.l0 k a0 aN 0)=some r:=H
 have A2:=Aside0.mk pX
 clear pX
 have H':=Aside0.mk H
 clear H
 go_enter Tryz.func106,Tryz.ntmps106
 go_wp2_with (first | ((with_reducible refine bn (f:=108) rfl ?_);refine dN (some 6) rfl rfl Tryz.func108 (by kernel_rfl) rfl #[.string a0] rfl (by(try simp only [List.map_toArray,List.map_cons,List.map_nil]);first | done | rfl | (simp only [List.length_drop,List.length_take];rfl)) ?_;(with_reducible refine(bF.calls k a0 aN _ A2.out).mono ?_);rintro e w3 ⟨aeF,rfl,ho0,hb⟩;refine⟨_,rfl,?_⟩;have cZ:=Aside0.mk (Kd.qL ho0 (jY (by repeat (first | (with_reducible first | exact HB.out | apply aj | apply ah | apply ak) | exact HB.out))));have iw:=Aside0.mk (bG (by repeat (first | (with_reducible first | exact HB.out | apply aj | apply ah | apply ak) | exact HB.out)) hb);clear HB;have adB:=cZ;have HB:=iw;clear cZ iw;(try clear hb);(try clear hb2);(try clear hk);(try clear hi);(try clear ho0)))
 go_loopg [4] k (fun kq v4 w'=>∃(x4_1:Int),v4= .int .i64 x4_1∧Aside0 (aT.l0 kq a0 aN x4_1=some r)∧Aside0 (kq≤k)∧Aside0 (Kd.R Kd.string 9 w' w.heap.size (fun _=>True) aeF aN)∧Aside0 (Below w.heap.size w w'))
 case atStart=>exact⟨(0),(by first | rfl | (simp;done) | (simp [*];done)),H',⟨Nat.le_refl _⟩,⟨by(with_reducible repeat (first | apply Kd.dL | apply Kd.dM | apply Kd.eX));exact adB.out⟩,⟨by repeat (first | (with_reducible first | exact HB.out | apply aj | apply ah | apply ak) | exact HB.out)⟩⟩
 case round=>
  clear H'
  try clear c1
  try clear p2
  obtain⟨x4_1,rfl,HA,oz,bY,HB⟩:=hrel
  cases gk with
  | zero=>exact absurd HA.out (by simp [aT.l0])
  | succ k1=>
    have H:=HA.out
    clear HA
    simp only [aT.l0] at H
    by_cases c4:x4_1<(aN.length:Int)
    ·rw [if_pos c4] at H
     have kJ:decide (x4_1<(aN.length:Int))=true:=decide_eq_true c4
     clear c4
     by_cases c5:0≤x4_1
     ·rw [if_pos c5] at H
      have Kq:decide (0≤x4_1)=true:=decide_eq_true c5
      clear c5
      replace H:=Option.bind_eq_some_iff.mp H
      obtain⟨Vb,LV,H⟩:=H
      replace H:(if Vb=true then (if (bW ByteArray.empty aN x4_1).toList=([43]:List UInt8) then ((aI.f k1 (bW ByteArray.empty aN x4_1) 35).bind fun t143=>(if t143=true then (if (bW ByteArray.empty aN x4_1).toList=([35]:List UInt8) then (if x4_1<(wrap64 ((aN.length:Int) - 1)) then (some false) else (aT.l0 k1 a0 aN (wrap64 (x4_1+1)))) else (some false)) else (aT.l0 k1 a0 aN (wrap64 (x4_1+1))))) else (some false)) else ((aI.f k1 (bW ByteArray.empty aN x4_1) 35).bind fun t146=>(if t146=true then (if (bW ByteArray.empty aN x4_1).toList=([35]:List UInt8) then (if x4_1<(wrap64 ((aN.length:Int) - 1)) then (some false) else (aT.l0 k1 a0 aN (wrap64 (x4_1+1)))) else (some false)) else (aT.l0 k1 a0 aN (wrap64 (x4_1+1))))))=some r:=H
      have A6:=Aside0.mk LV
      clear LV
      by_cases c7:Vb=true
      ·subst c7
       have H1:(if (bW ByteArray.empty aN x4_1).toList=([43]:List UInt8) then ((aI.f k1 (bW ByteArray.empty aN x4_1) 35).bind fun t143=>(if t143=true then (if (bW ByteArray.empty aN x4_1).toList=([35]:List UInt8) then (if x4_1<(wrap64 ((aN.length:Int) - 1)) then (some false) else (aT.l0 k1 a0 aN (wrap64 (x4_1+1)))) else (some false)) else (aT.l0 k1 a0 aN (wrap64 (x4_1+1))))) else (some false))=some r:=by rw [if_pos rfl] at H;exact H
       clear H
       have H:=H1
       clear H1
       by_cases c8:(bW ByteArray.empty aN x4_1).toList=([43]:List UInt8)
       ·rw [if_pos c8] at H
        have Dw:((bW ByteArray.empty aN x4_1).toList==([43]:List UInt8))=true:=beq_iff_eq.mpr c8
        have aeG:((bW ByteArray.empty aN x4_1).toList !=([43]:List UInt8))=false:=bne_eq_false_iff_eq.mpr c8
        clear c8
        replace H:=Option.bind_eq_some_iff.mp H
        obtain⟨t143,XL,H⟩:=H
        replace H:(if t143=true then (if (bW ByteArray.empty aN x4_1).toList=([35]:List UInt8) then (if x4_1<(wrap64 ((aN.length:Int) - 1)) then (some false) else (aT.l0 k1 a0 aN (wrap64 (x4_1+1)))) else (some false)) else (aT.l0 k1 a0 aN (wrap64 (x4_1+1))))=some r:=H
        have A9:=Aside0.mk XL
        clear XL
        by_cases c10:t143=true
        ·subst c10
         have H1:(if (bW ByteArray.empty aN x4_1).toList=([35]:List UInt8) then (if x4_1<(wrap64 ((aN.length:Int) - 1)) then (some false) else (aT.l0 k1 a0 aN (wrap64 (x4_1+1)))) else (some false))=some r:=by rw [if_pos rfl] at H;exact H
         clear H
         have H:=H1
         clear H1
         by_cases c11:(bW ByteArray.empty aN x4_1).toList=([35]:List UInt8)
         ·rw [if_pos c11] at H
          have oM:((bW ByteArray.empty aN x4_1).toList==([35]:List UInt8))=true:=beq_iff_eq.mpr c11
          have adC:((bW ByteArray.empty aN x4_1).toList !=([35]:List UInt8))=false:=bne_eq_false_iff_eq.mpr c11
          clear c11
          by_cases c12:x4_1<(wrap64 ((aN.length:Int) - 1))
          ·rw [if_pos c12] at H
           have ZR:decide (x4_1<(wrap64 ((aN.length:Int) - 1)))=true:=decide_eq_true c12
           clear c12
           obtain rfl:=Option.some.inj H
           obtain⟨afl,afm,aeH⟩:=Kd.jq bY.out
           subst aeH
           have iy:0≤(x4_1:Int):=of_decide_eq_true (by first | (with_reducible assumption) | assumption)
           have iC:x4_1<(aN.length:Int):=of_decide_eq_true (by first | (with_reducible assumption) | assumption)
           obtain⟨iF,nO,pY⟩:=Kd.cO (Kd.bJ bY.out).2.2 x4_1 iy iC
           cases nO
           replace iy:=eq_true iy
           replace iC:=eq_true iC
           go_wp2_with (first | ((with_reducible refine bn (f:=176) rfl ?_);refine dN (some 17) rfl rfl Tryz.func176 (by kernel_rfl) rfl #[.string (bW ByteArray.empty aN x4_1), .int .u8 43] rfl (by(try simp only [List.map_toArray,List.map_cons,List.map_nil]);first | done | rfl | (simp only [List.length_drop,List.length_take];rfl)) ?_;(with_reducible refine(aI.calls k1 (bW ByteArray.empty aN x4_1) 43 true _ A6.out).mono ?_);rintro e w' ⟨rfl,⟨nd,rfl⟩⟩;refine⟨_,rfl,?_⟩;have lW:0≤(x4_1:Int):=of_decide_eq_true (by first | (with_reducible assumption) | assumption);have lX:x4_1<(aN.length:Int):=of_decide_eq_true (by first | (with_reducible assumption) | assumption);obtain⟨uI,zW,Eu⟩:=Kd.cO (Kd.bJ bY.out).2.2 x4_1 lW lX;obtain rfl:iF=uI:=(by injection zW);replace lW:=eq_true lW;replace lX:=eq_true lX;have o7:0≤(x4_1:Int):=of_decide_eq_true (by first | (with_reducible assumption) | assumption);have o8:x4_1<(aN.length:Int):=of_decide_eq_true (by first | (with_reducible assumption) | assumption);obtain⟨zX,Gt,Ky⟩:=Kd.cO (Kd.bJ bY.out).2.2 x4_1 o7 o8;obtain rfl:iF=zX:=(by injection Gt);replace o7:=eq_true o7;replace o8:=eq_true o8) | (go_at_call 176;(with_reducible refine(aI.calls k1 (bW ByteArray.empty aN x4_1) 35 true _ A9.out).mono ?_);rintro e w' ⟨rfl,⟨nd,rfl⟩⟩;have wE:0≤(x4_1:Int):=of_decide_eq_true (by first | (with_reducible assumption) | assumption);have wF:x4_1<(aN.length:Int):=of_decide_eq_true (by first | (with_reducible assumption) | assumption);obtain⟨Jb,P8,SV⟩:=Kd.cO (Kd.bJ bY.out).2.2 x4_1 wE wF;obtain rfl:iF=Jb:=(by injection P8);replace wE:=eq_true wE;replace wF:=eq_true wF))
           go_ret
           exact⟨by first | rfl | (simp [aJ,aK]<;>rfl) | (simp [*,aJ,aK]<;>rfl),by repeat (first | (with_reducible first | exact HB.out | apply aj | apply ah | apply ak) | exact HB.out)⟩
          ·rw [if_neg c12] at H
           have ZR:decide (x4_1<(wrap64 ((aN.length:Int) - 1)))=false:=decide_eq_false c12
           clear c12
           have H':=Aside0.mk H
           clear H
           obtain⟨aez,aeA,Y6⟩:=Kd.jq bY.out
           subst Y6
           have iy:0≤(x4_1:Int):=of_decide_eq_true (by first | (with_reducible assumption) | assumption)
           have iC:x4_1<(aN.length:Int):=of_decide_eq_true (by first | (with_reducible assumption) | assumption)
           obtain⟨iF,nO,pY⟩:=Kd.cO (Kd.bJ bY.out).2.2 x4_1 iy iC
           cases nO
           replace iy:=eq_true iy
           replace iC:=eq_true iC
           go_wp2_with (first | ((with_reducible refine bn (f:=176) rfl ?_);refine dN (some 17) rfl rfl Tryz.func176 (by kernel_rfl) rfl #[.string (bW ByteArray.empty aN x4_1), .int .u8 43] rfl (by(try simp only [List.map_toArray,List.map_cons,List.map_nil]);first | done | rfl | (simp only [List.length_drop,List.length_take];rfl)) ?_;(with_reducible refine(aI.calls k1 (bW ByteArray.empty aN x4_1) 43 true _ A6.out).mono ?_);rintro e w' ⟨rfl,⟨nd,rfl⟩⟩;refine⟨_,rfl,?_⟩;have lW:0≤(x4_1:Int):=of_decide_eq_true (by first | (with_reducible assumption) | assumption);have lX:x4_1<(aN.length:Int):=of_decide_eq_true (by first | (with_reducible assumption) | assumption);obtain⟨uI,zW,Eu⟩:=Kd.cO (Kd.bJ bY.out).2.2 x4_1 lW lX;obtain rfl:iF=uI:=(by injection zW);replace lW:=eq_true lW;replace lX:=eq_true lX;have o7:0≤(x4_1:Int):=of_decide_eq_true (by first | (with_reducible assumption) | assumption);have o8:x4_1<(aN.length:Int):=of_decide_eq_true (by first | (with_reducible assumption) | assumption);obtain⟨zX,Gt,Ky⟩:=Kd.cO (Kd.bJ bY.out).2.2 x4_1 o7 o8;obtain rfl:iF=zX:=(by injection Gt);replace o7:=eq_true o7;replace o8:=eq_true o8) | (go_at_call 176;(with_reducible refine(aI.calls k1 (bW ByteArray.empty aN x4_1) 35 true _ A9.out).mono ?_);rintro e w' ⟨rfl,⟨nd,rfl⟩⟩;have wE:0≤(x4_1:Int):=of_decide_eq_true (by first | (with_reducible assumption) | assumption);have wF:x4_1<(aN.length:Int):=of_decide_eq_true (by first | (with_reducible assumption) | assumption);obtain⟨Jb,P8,SV⟩:=Kd.cO (Kd.bJ bY.out).2.2 x4_1 wE wF;obtain rfl:iF=Jb:=(by injection P8);replace wE:=eq_true wE;replace wF:=eq_true wF))
           go_roundg k1
           case measure=>have:=oz.out;omega
           case rel=>exact⟨(wrap64 (x4_1+1)),(by first | rfl | (simp;done) | (simp [*];done)),H',⟨by have:=oz.out;omega⟩,⟨by(with_reducible repeat (first | apply Kd.dL | apply Kd.dM | apply Kd.eX));exact bY.out⟩,⟨by repeat (first | (with_reducible first | exact HB.out | apply aj | apply ah | apply ak) | exact HB.out)⟩⟩
         ·rw [if_neg c11] at H
          have oM:((bW ByteArray.empty aN x4_1).toList==([35]:List UInt8))=false:=beq_eq_false_iff_ne.mpr c11
          have adC:((bW ByteArray.empty aN x4_1).toList !=([35]:List UInt8))=true:=bne_iff_ne.mpr c11
          obtain rfl:=Option.some.inj H
          obtain⟨aeD,aeE,Zb⟩:=Kd.jq bY.out
          subst Zb
          have iy:0≤(x4_1:Int):=of_decide_eq_true (by first | (with_reducible assumption) | assumption)
          have iC:x4_1<(aN.length:Int):=of_decide_eq_true (by first | (with_reducible assumption) | assumption)
          obtain⟨iF,nO,pY⟩:=Kd.cO (Kd.bJ bY.out).2.2 x4_1 iy iC
          cases nO
          replace iy:=eq_true iy
          replace iC:=eq_true iC
          go_wp2_with (first | ((with_reducible refine bn (f:=176) rfl ?_);refine dN (some 17) rfl rfl Tryz.func176 (by kernel_rfl) rfl #[.string (bW ByteArray.empty aN x4_1), .int .u8 43] rfl (by(try simp only [List.map_toArray,List.map_cons,List.map_nil]);first | done | rfl | (simp only [List.length_drop,List.length_take];rfl)) ?_;(with_reducible refine(aI.calls k1 (bW ByteArray.empty aN x4_1) 43 true _ A6.out).mono ?_);rintro e w' ⟨rfl,⟨nd,rfl⟩⟩;refine⟨_,rfl,?_⟩;have lW:0≤(x4_1:Int):=of_decide_eq_true (by first | (with_reducible assumption) | assumption);have lX:x4_1<(aN.length:Int):=of_decide_eq_true (by first | (with_reducible assumption) | assumption);obtain⟨uI,zW,Eu⟩:=Kd.cO (Kd.bJ bY.out).2.2 x4_1 lW lX;obtain rfl:iF=uI:=(by injection zW);replace lW:=eq_true lW;replace lX:=eq_true lX;have o7:0≤(x4_1:Int):=of_decide_eq_true (by first | (with_reducible assumption) | assumption);have o8:x4_1<(aN.length:Int):=of_decide_eq_true (by first | (with_reducible assumption) | assumption);obtain⟨zX,Gt,Ky⟩:=Kd.cO (Kd.bJ bY.out).2.2 x4_1 o7 o8;obtain rfl:iF=zX:=(by injection Gt);replace o7:=eq_true o7;replace o8:=eq_true o8) | (go_at_call 176;(with_reducible refine(aI.calls k1 (bW ByteArray.empty aN x4_1) 35 true _ A9.out).mono ?_);rintro e w' ⟨rfl,⟨nd,rfl⟩⟩;have wE:0≤(x4_1:Int):=of_decide_eq_true (by first | (with_reducible assumption) | assumption);have wF:x4_1<(aN.length:Int):=of_decide_eq_true (by first | (with_reducible assumption) | assumption);obtain⟨Jb,P8,SV⟩:=Kd.cO (Kd.bJ bY.out).2.2 x4_1 wE wF;obtain rfl:iF=Jb:=(by injection P8);replace wE:=eq_true wE;replace wF:=eq_true wF))
          go_ret
          exact⟨by first | rfl | (simp [aJ,aK]<;>rfl) | (simp [*,aJ,aK]<;>rfl),by repeat (first | (with_reducible first | exact HB.out | apply aj | apply ah | apply ak) | exact HB.out)⟩
        ·replace c10:=Bool.eq_false_iff.mpr c10
         subst c10
         have H1:(aT.l0 k1 a0 aN (wrap64 (x4_1+1)))=some r:=by rw [if_neg (show ¬(false=true) by decide)] at H;exact H
         clear H
         have H:=H1
         clear H1
         have H':=Aside0.mk H
         clear H
         obtain⟨afn,afo,aeI⟩:=Kd.jq bY.out
         subst aeI
         have iy:0≤(x4_1:Int):=of_decide_eq_true (by first | (with_reducible assumption) | assumption)
         have iC:x4_1<(aN.length:Int):=of_decide_eq_true (by first | (with_reducible assumption) | assumption)
         obtain⟨iF,nO,pY⟩:=Kd.cO (Kd.bJ bY.out).2.2 x4_1 iy iC
         cases nO
         replace iy:=eq_true iy
         replace iC:=eq_true iC
         go_wp2_with (first | ((with_reducible refine bn (f:=176) rfl ?_);refine dN (some 17) rfl rfl Tryz.func176 (by kernel_rfl) rfl #[.string (bW ByteArray.empty aN x4_1), .int .u8 43] rfl (by(try simp only [List.map_toArray,List.map_cons,List.map_nil]);first | done | rfl | (simp only [List.length_drop,List.length_take];rfl)) ?_;(with_reducible refine(aI.calls k1 (bW ByteArray.empty aN x4_1) 43 true _ A6.out).mono ?_);rintro e w' ⟨rfl,⟨nd,rfl⟩⟩;refine⟨_,rfl,?_⟩;have lW:0≤(x4_1:Int):=of_decide_eq_true (by first | (with_reducible assumption) | assumption);have lX:x4_1<(aN.length:Int):=of_decide_eq_true (by first | (with_reducible assumption) | assumption);obtain⟨uI,zW,Eu⟩:=Kd.cO (Kd.bJ bY.out).2.2 x4_1 lW lX;obtain rfl:iF=uI:=(by injection zW);replace lW:=eq_true lW;replace lX:=eq_true lX;have o7:0≤(x4_1:Int):=of_decide_eq_true (by first | (with_reducible assumption) | assumption);have o8:x4_1<(aN.length:Int):=of_decide_eq_true (by first | (with_reducible assumption) | assumption);obtain⟨zX,Gt,Ky⟩:=Kd.cO (Kd.bJ bY.out).2.2 x4_1 o7 o8;obtain rfl:iF=zX:=(by injection Gt);replace o7:=eq_true o7;replace o8:=eq_true o8) | (go_at_call 176;(with_reducible refine(aI.calls k1 (bW ByteArray.empty aN x4_1) 35 false _ A9.out).mono ?_);rintro e w' ⟨rfl,⟨nd,rfl⟩⟩))
         go_roundg k1
         case measure=>have:=oz.out;omega
         case rel=>exact⟨(wrap64 (x4_1+1)),(by first | rfl | (simp;done) | (simp [*];done)),H',⟨by have:=oz.out;omega⟩,⟨by(with_reducible repeat (first | apply Kd.dL | apply Kd.dM | apply Kd.eX));exact bY.out⟩,⟨by repeat (first | (with_reducible first | exact HB.out | apply aj | apply ah | apply ak) | exact HB.out)⟩⟩
       ·rw [if_neg c8] at H
        have Dw:((bW ByteArray.empty aN x4_1).toList==([43]:List UInt8))=false:=beq_eq_false_iff_ne.mpr c8
        have aeG:((bW ByteArray.empty aN x4_1).toList !=([43]:List UInt8))=true:=bne_iff_ne.mpr c8
        obtain rfl:=Option.some.inj H
        obtain⟨afp,afq,aeJ⟩:=Kd.jq bY.out
        subst aeJ
        have iy:0≤(x4_1:Int):=of_decide_eq_true (by first | (with_reducible assumption) | assumption)
        have iC:x4_1<(aN.length:Int):=of_decide_eq_true (by first | (with_reducible assumption) | assumption)
        obtain⟨iF,nO,pY⟩:=Kd.cO (Kd.bJ bY.out).2.2 x4_1 iy iC
        cases nO
        replace iy:=eq_true iy
        replace iC:=eq_true iC
        go_wp2_with (first | ((with_reducible refine bn (f:=176) rfl ?_);refine dN (some 17) rfl rfl Tryz.func176 (by kernel_rfl) rfl #[.string (bW ByteArray.empty aN x4_1), .int .u8 43] rfl (by(try simp only [List.map_toArray,List.map_cons,List.map_nil]);first | done | rfl | (simp only [List.length_drop,List.length_take];rfl)) ?_;(with_reducible refine(aI.calls k1 (bW ByteArray.empty aN x4_1) 43 true _ A6.out).mono ?_);rintro e w' ⟨rfl,⟨nd,rfl⟩⟩;refine⟨_,rfl,?_⟩;have lW:0≤(x4_1:Int):=of_decide_eq_true (by first | (with_reducible assumption) | assumption);have lX:x4_1<(aN.length:Int):=of_decide_eq_true (by first | (with_reducible assumption) | assumption);obtain⟨uI,zW,Eu⟩:=Kd.cO (Kd.bJ bY.out).2.2 x4_1 lW lX;obtain rfl:iF=uI:=(by injection zW);replace lW:=eq_true lW;replace lX:=eq_true lX))
        go_ret
        exact⟨by first | rfl | (simp [aJ,aK]<;>rfl) | (simp [*,aJ,aK]<;>rfl),by repeat (first | (with_reducible first | exact HB.out | apply aj | apply ah | apply ak) | exact HB.out)⟩
      ·replace c7:=Bool.eq_false_iff.mpr c7
       subst c7
       have H1:((aI.f k1 (bW ByteArray.empty aN x4_1) 35).bind fun t146=>(if t146=true then (if (bW ByteArray.empty aN x4_1).toList=([35]:List UInt8) then (if x4_1<(wrap64 ((aN.length:Int) - 1)) then (some false) else (aT.l0 k1 a0 aN (wrap64 (x4_1+1)))) else (some false)) else (aT.l0 k1 a0 aN (wrap64 (x4_1+1)))))=some r:=by rw [if_neg (show ¬(false=true) by decide)] at H;exact H
       clear H
       have H:=H1
       clear H1
       replace H:=Option.bind_eq_some_iff.mp H
       obtain⟨t146,acG,H⟩:=H
       replace H:(if t146=true then (if (bW ByteArray.empty aN x4_1).toList=([35]:List UInt8) then (if x4_1<(wrap64 ((aN.length:Int) - 1)) then (some false) else (aT.l0 k1 a0 aN (wrap64 (x4_1+1)))) else (some false)) else (aT.l0 k1 a0 aN (wrap64 (x4_1+1))))=some r:=H
       have ZT:=Aside0.mk acG
       clear acG
       by_cases c19:t146=true
       ·subst c19
        have H1:(if (bW ByteArray.empty aN x4_1).toList=([35]:List UInt8) then (if x4_1<(wrap64 ((aN.length:Int) - 1)) then (some false) else (aT.l0 k1 a0 aN (wrap64 (x4_1+1)))) else (some false))=some r:=by rw [if_pos rfl] at H;exact H
        clear H
        have H:=H1
        clear H1
        by_cases c20:(bW ByteArray.empty aN x4_1).toList=([35]:List UInt8)
        ·rw [if_pos c20] at H
         have adD:((bW ByteArray.empty aN x4_1).toList==([35]:List UInt8))=true:=beq_iff_eq.mpr c20
         have adE:((bW ByteArray.empty aN x4_1).toList !=([35]:List UInt8))=false:=bne_eq_false_iff_eq.mpr c20
         clear c20
         by_cases c21:x4_1<(wrap64 ((aN.length:Int) - 1))
         ·rw [if_pos c21] at H
          have ZU:decide (x4_1<(wrap64 ((aN.length:Int) - 1)))=true:=decide_eq_true c21
          clear c21
          obtain rfl:=Option.some.inj H
          obtain⟨afr,afs,aeK⟩:=Kd.jq bY.out
          subst aeK
          have iy:0≤(x4_1:Int):=of_decide_eq_true (by first | (with_reducible assumption) | assumption)
          have iC:x4_1<(aN.length:Int):=of_decide_eq_true (by first | (with_reducible assumption) | assumption)
          obtain⟨iF,nO,pY⟩:=Kd.cO (Kd.bJ bY.out).2.2 x4_1 iy iC
          cases nO
          replace iy:=eq_true iy
          replace iC:=eq_true iC
          go_wp2_with (first | ((with_reducible refine bn (f:=176) rfl ?_);refine dN (some 17) rfl rfl Tryz.func176 (by kernel_rfl) rfl #[.string (bW ByteArray.empty aN x4_1), .int .u8 43] rfl (by(try simp only [List.map_toArray,List.map_cons,List.map_nil]);first | done | rfl | (simp only [List.length_drop,List.length_take];rfl)) ?_;(with_reducible refine(aI.calls k1 (bW ByteArray.empty aN x4_1) 43 false _ A6.out).mono ?_);rintro e w' ⟨rfl,⟨nd,rfl⟩⟩;refine⟨_,rfl,?_⟩;have o9:0≤(x4_1:Int):=of_decide_eq_true (by first | (with_reducible assumption) | assumption);have pq:x4_1<(aN.length:Int):=of_decide_eq_true (by first | (with_reducible assumption) | assumption);obtain⟨zY,Gu,Kz⟩:=Kd.cO (Kd.bJ bY.out).2.2 x4_1 o9 pq;obtain rfl:iF=zY:=(by injection Gu);replace o9:=eq_true o9;replace pq:=eq_true pq) | (go_at_call 176;(with_reducible refine(aI.calls k1 (bW ByteArray.empty aN x4_1) 35 true _ ZT.out).mono ?_);rintro e w' ⟨rfl,⟨nd,rfl⟩⟩;have wG:0≤(x4_1:Int):=of_decide_eq_true (by first | (with_reducible assumption) | assumption);have wH:x4_1<(aN.length:Int):=of_decide_eq_true (by first | (with_reducible assumption) | assumption);obtain⟨Jc,P9,SX⟩:=Kd.cO (Kd.bJ bY.out).2.2 x4_1 wG wH;obtain rfl:iF=Jc:=(by injection P9);replace wG:=eq_true wG;replace wH:=eq_true wH))
          go_ret
          exact⟨by first | rfl | (simp [aJ,aK]<;>rfl) | (simp [*,aJ,aK]<;>rfl),by repeat (first | (with_reducible first | exact HB.out | apply aj | apply ah | apply ak) | exact HB.out)⟩
         ·rw [if_neg c21] at H
          have ZU:decide (x4_1<(wrap64 ((aN.length:Int) - 1)))=false:=decide_eq_false c21
          clear c21
          have H':=Aside0.mk H
          clear H
          obtain⟨aft,afu,aeL⟩:=Kd.jq bY.out
          subst aeL
          have iy:0≤(x4_1:Int):=of_decide_eq_true (by first | (with_reducible assumption) | assumption)
          have iC:x4_1<(aN.length:Int):=of_decide_eq_true (by first | (with_reducible assumption) | assumption)
          obtain⟨iF,nO,pY⟩:=Kd.cO (Kd.bJ bY.out).2.2 x4_1 iy iC
          cases nO
          replace iy:=eq_true iy
          replace iC:=eq_true iC
          go_wp2_with (first | ((with_reducible refine bn (f:=176) rfl ?_);refine dN (some 17) rfl rfl Tryz.func176 (by kernel_rfl) rfl #[.string (bW ByteArray.empty aN x4_1), .int .u8 43] rfl (by(try simp only [List.map_toArray,List.map_cons,List.map_nil]);first | done | rfl | (simp only [List.length_drop,List.length_take];rfl)) ?_;(with_reducible refine(aI.calls k1 (bW ByteArray.empty aN x4_1) 43 false _ A6.out).mono ?_);rintro e w' ⟨rfl,⟨nd,rfl⟩⟩;refine⟨_,rfl,?_⟩;have o9:0≤(x4_1:Int):=of_decide_eq_true (by first | (with_reducible assumption) | assumption);have pq:x4_1<(aN.length:Int):=of_decide_eq_true (by first | (with_reducible assumption) | assumption);obtain⟨zY,Gu,Kz⟩:=Kd.cO (Kd.bJ bY.out).2.2 x4_1 o9 pq;obtain rfl:iF=zY:=(by injection Gu);replace o9:=eq_true o9;replace pq:=eq_true pq) | (go_at_call 176;(with_reducible refine(aI.calls k1 (bW ByteArray.empty aN x4_1) 35 true _ ZT.out).mono ?_);rintro e w' ⟨rfl,⟨nd,rfl⟩⟩;have wG:0≤(x4_1:Int):=of_decide_eq_true (by first | (with_reducible assumption) | assumption);have wH:x4_1<(aN.length:Int):=of_decide_eq_true (by first | (with_reducible assumption) | assumption);obtain⟨Jc,P9,SX⟩:=Kd.cO (Kd.bJ bY.out).2.2 x4_1 wG wH;obtain rfl:iF=Jc:=(by injection P9);replace wG:=eq_true wG;replace wH:=eq_true wH))
          go_roundg k1
          case measure=>have:=oz.out;omega
          case rel=>exact⟨(wrap64 (x4_1+1)),(by first | rfl | (simp;done) | (simp [*];done)),H',⟨by have:=oz.out;omega⟩,⟨by(with_reducible repeat (first | apply Kd.dL | apply Kd.dM | apply Kd.eX));exact bY.out⟩,⟨by repeat (first | (with_reducible first | exact HB.out | apply aj | apply ah | apply ak) | exact HB.out)⟩⟩
        ·rw [if_neg c20] at H
         have adD:((bW ByteArray.empty aN x4_1).toList==([35]:List UInt8))=false:=beq_eq_false_iff_ne.mpr c20
         have adE:((bW ByteArray.empty aN x4_1).toList !=([35]:List UInt8))=true:=bne_iff_ne.mpr c20
         obtain rfl:=Option.some.inj H
         obtain⟨afv,afw,aeM⟩:=Kd.jq bY.out
         subst aeM
         have iy:0≤(x4_1:Int):=of_decide_eq_true (by first | (with_reducible assumption) | assumption)
         have iC:x4_1<(aN.length:Int):=of_decide_eq_true (by first | (with_reducible assumption) | assumption)
         obtain⟨iF,nO,pY⟩:=Kd.cO (Kd.bJ bY.out).2.2 x4_1 iy iC
         cases nO
         replace iy:=eq_true iy
         replace iC:=eq_true iC
         go_wp2_with (first | ((with_reducible refine bn (f:=176) rfl ?_);refine dN (some 17) rfl rfl Tryz.func176 (by kernel_rfl) rfl #[.string (bW ByteArray.empty aN x4_1), .int .u8 43] rfl (by(try simp only [List.map_toArray,List.map_cons,List.map_nil]);first | done | rfl | (simp only [List.length_drop,List.length_take];rfl)) ?_;(with_reducible refine(aI.calls k1 (bW ByteArray.empty aN x4_1) 43 false _ A6.out).mono ?_);rintro e w' ⟨rfl,⟨nd,rfl⟩⟩;refine⟨_,rfl,?_⟩;have o9:0≤(x4_1:Int):=of_decide_eq_true (by first | (with_reducible assumption) | assumption);have pq:x4_1<(aN.length:Int):=of_decide_eq_true (by first | (with_reducible assumption) | assumption);obtain⟨zY,Gu,Kz⟩:=Kd.cO (Kd.bJ bY.out).2.2 x4_1 o9 pq;obtain rfl:iF=zY:=(by injection Gu);replace o9:=eq_true o9;replace pq:=eq_true pq) | (go_at_call 176;(with_reducible refine(aI.calls k1 (bW ByteArray.empty aN x4_1) 35 true _ ZT.out).mono ?_);rintro e w' ⟨rfl,⟨nd,rfl⟩⟩;have wG:0≤(x4_1:Int):=of_decide_eq_true (by first | (with_reducible assumption) | assumption);have wH:x4_1<(aN.length:Int):=of_decide_eq_true (by first | (with_reducible assumption) | assumption);obtain⟨Jc,P9,SX⟩:=Kd.cO (Kd.bJ bY.out).2.2 x4_1 wG wH;obtain rfl:iF=Jc:=(by injection P9);replace wG:=eq_true wG;replace wH:=eq_true wH))
         go_ret
         exact⟨by first | rfl | (simp [aJ,aK]<;>rfl) | (simp [*,aJ,aK]<;>rfl),by repeat (first | (with_reducible first | exact HB.out | apply aj | apply ah | apply ak) | exact HB.out)⟩
       ·replace c19:=Bool.eq_false_iff.mpr c19
        subst c19
        have H1:(aT.l0 k1 a0 aN (wrap64 (x4_1+1)))=some r:=by rw [if_neg (show ¬(false=true) by decide)] at H;exact H
        clear H
        have H:=H1
        clear H1
        have H':=Aside0.mk H
        clear H
        obtain⟨afx,afy,aeN⟩:=Kd.jq bY.out
        subst aeN
        have iy:0≤(x4_1:Int):=of_decide_eq_true (by first | (with_reducible assumption) | assumption)
        have iC:x4_1<(aN.length:Int):=of_decide_eq_true (by first | (with_reducible assumption) | assumption)
        obtain⟨iF,nO,pY⟩:=Kd.cO (Kd.bJ bY.out).2.2 x4_1 iy iC
        cases nO
        replace iy:=eq_true iy
        replace iC:=eq_true iC
        go_wp2_with (first | ((with_reducible refine bn (f:=176) rfl ?_);refine dN (some 17) rfl rfl Tryz.func176 (by kernel_rfl) rfl #[.string (bW ByteArray.empty aN x4_1), .int .u8 43] rfl (by(try simp only [List.map_toArray,List.map_cons,List.map_nil]);first | done | rfl | (simp only [List.length_drop,List.length_take];rfl)) ?_;(with_reducible refine(aI.calls k1 (bW ByteArray.empty aN x4_1) 43 false _ A6.out).mono ?_);rintro e w' ⟨rfl,⟨nd,rfl⟩⟩;refine⟨_,rfl,?_⟩;have o9:0≤(x4_1:Int):=of_decide_eq_true (by first | (with_reducible assumption) | assumption);have pq:x4_1<(aN.length:Int):=of_decide_eq_true (by first | (with_reducible assumption) | assumption);obtain⟨zY,Gu,Kz⟩:=Kd.cO (Kd.bJ bY.out).2.2 x4_1 o9 pq;obtain rfl:iF=zY:=(by injection Gu);replace o9:=eq_true o9;replace pq:=eq_true pq) | (go_at_call 176;(with_reducible refine(aI.calls k1 (bW ByteArray.empty aN x4_1) 35 false _ ZT.out).mono ?_);rintro e w' ⟨rfl,⟨nd,rfl⟩⟩))
        go_roundg k1
        case measure=>have:=oz.out;omega
        case rel=>exact⟨(wrap64 (x4_1+1)),(by first | rfl | (simp;done) | (simp [*];done)),H',⟨by have:=oz.out;omega⟩,⟨by(with_reducible repeat (first | apply Kd.dL | apply Kd.dM | apply Kd.eX));exact bY.out⟩,⟨by repeat (first | (with_reducible first | exact HB.out | apply aj | apply ah | apply ak) | exact HB.out)⟩⟩
     ·rw [if_neg c5] at H
      exact absurd H (by simp)
    ·rw [if_neg c4] at H
     have kJ:decide (x4_1<(aN.length:Int))=false:=decide_eq_false c4
     clear c4
     replace H:=Option.bind_eq_some_iff.mp H
     obtain⟨t138,acH,H⟩:=H
     replace H:(if t138=true then (if a0.toList=([]:List UInt8) then (some false) else (some (decide ((aN.length:Int)≤6)))) else (some false))=some r:=H
     have A26:=Aside0.mk acH
     clear acH
     by_cases ZV:t138=true
     ·subst ZV
      have H1:(if a0.toList=([]:List UInt8) then (some false) else (some (decide ((aN.length:Int)≤6))))=some r:=by rw [if_pos rfl] at H;exact H
      clear H
      have H:=H1
      clear H1
      by_cases c28:a0.toList=([]:List UInt8)
      ·rw [if_pos c28] at H
       have adF:(a0.toList==([]:List UInt8))=true:=beq_iff_eq.mpr c28
       have adG:(a0.toList !=([]:List UInt8))=false:=bne_eq_false_iff_eq.mpr c28
       clear c28
       obtain rfl:=Option.some.inj H
       obtain⟨afz,afA,aeO⟩:=Kd.jq bY.out
       subst aeO
       go_wp2_with (first | ((with_reducible refine bn (f:=177) rfl ?_);refine dN (some 47) rfl rfl Tryz.func177 (by kernel_rfl) rfl #[.string a0] rfl (by(try simp only [List.map_toArray,List.map_cons,List.map_nil]);first | done | rfl | (simp only [List.length_drop,List.length_take];rfl)) ?_;(with_reducible refine(eP.calls k1 a0 true _ A26.out).mono ?_);rintro e w30 ⟨rfl,hb⟩;refine⟨_,rfl,?_⟩;have cZ:=Aside0.mk (Kd.iV (by(with_reducible repeat (first | apply Kd.dL | apply Kd.dM | apply Kd.eX));exact bY.out) hb);have iw:=Aside0.mk (bG (by repeat (first | (with_reducible first | exact HB.out | apply aj | apply ah | apply ak) | exact HB.out)) hb);clear bY;clear HB;have bY:=cZ;have HB:=iw;clear cZ iw;(try clear hb);(try clear hb2);(try clear hk);(try clear hi)))
       go_ret
       exact⟨by first | rfl | (simp [aJ,aK]<;>rfl) | (simp [*,aJ,aK]<;>rfl),by repeat (first | (with_reducible first | exact HB.out | apply aj | apply ah | apply ak) | exact HB.out)⟩
      ·rw [if_neg c28] at H
       have adF:(a0.toList==([]:List UInt8))=false:=beq_eq_false_iff_ne.mpr c28
       have adG:(a0.toList !=([]:List UInt8))=true:=bne_iff_ne.mpr c28
       obtain rfl:=Option.some.inj H
       obtain⟨afB,afC,aeP⟩:=Kd.jq bY.out
       subst aeP
       go_wp2_with (first | ((with_reducible refine bn (f:=177) rfl ?_);refine dN (some 47) rfl rfl Tryz.func177 (by kernel_rfl) rfl #[.string a0] rfl (by(try simp only [List.map_toArray,List.map_cons,List.map_nil]);first | done | rfl | (simp only [List.length_drop,List.length_take];rfl)) ?_;(with_reducible refine(eP.calls k1 a0 true _ A26.out).mono ?_);rintro e w32 ⟨rfl,hb⟩;refine⟨_,rfl,?_⟩;have cZ:=Aside0.mk (Kd.iV (by(with_reducible repeat (first | apply Kd.dL | apply Kd.dM | apply Kd.eX));exact bY.out) hb);have iw:=Aside0.mk (bG (by repeat (first | (with_reducible first | exact HB.out | apply aj | apply ah | apply ak) | exact HB.out)) hb);clear bY;clear HB;have bY:=cZ;have HB:=iw;clear cZ iw;(try clear hb);(try clear hb2);(try clear hk);(try clear hi)))
       go_ret
       exact⟨by first | rfl | (simp [aJ,aK]<;>rfl) | (simp [*,aJ,aK]<;>rfl),by repeat (first | (with_reducible first | exact HB.out | apply aj | apply ah | apply ak) | exact HB.out)⟩
     ·replace ZV:=Bool.eq_false_iff.mpr ZV
      subst ZV
      have H1:(some false)=some r:=by rw [if_neg (show ¬(false=true) by decide)] at H;exact H
      clear H
      have H:=H1
      clear H1
      obtain rfl:=Option.some.inj H
      obtain⟨afD,afE,aeQ⟩:=Kd.jq bY.out
      subst aeQ
      go_wp2_with (first | ((with_reducible refine bn (f:=177) rfl ?_);refine dN (some 47) rfl rfl Tryz.func177 (by kernel_rfl) rfl #[.string a0] rfl (by(try simp only [List.map_toArray,List.map_cons,List.map_nil]);first | done | rfl | (simp only [List.length_drop,List.length_take];rfl)) ?_;(with_reducible refine(eP.calls k1 a0 false _ A26.out).mono ?_);rintro e w34 ⟨rfl,hb⟩;refine⟨_,rfl,?_⟩;have cZ:=Aside0.mk (Kd.iV (by(with_reducible repeat (first | apply Kd.dL | apply Kd.dM | apply Kd.eX));exact bY.out) hb);have iw:=Aside0.mk (bG (by repeat (first | (with_reducible first | exact HB.out | apply aj | apply ah | apply ak) | exact HB.out)) hb);clear bY;clear HB;have bY:=cZ;have HB:=iw;clear cZ iw;(try clear hb);(try clear hb2);(try clear hk);(try clear hi)))
      go_ret
      exact⟨by first | rfl | (simp [aJ,aK]<;>rfl) | (simp [*,aJ,aK]<;>rfl),by repeat (first | (with_reducible first | exact HB.out | apply aj | apply ah | apply ak) | exact HB.out)⟩
end Go.Proofs.YtcnfgfomholheaaGreatDoor.P
