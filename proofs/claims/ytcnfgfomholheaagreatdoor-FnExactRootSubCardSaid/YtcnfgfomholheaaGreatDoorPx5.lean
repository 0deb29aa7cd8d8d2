import Derived.Test.YtcnfgfomholheaaGreatDoorPx0
import Derived.Test.YtcnfgfomholheaaGreatDoorPx2
import Derived.Test.YtcnfgfomholheaaGreatDoorPx3
import Derived.Test.YtcnfgfomholheaaGreatDoorX7
namespace Go.Proofs.YtcnfgfomholheaaGreatDoor.P
open Go.RowKit Go.Proofs.YtcnfgfomholheaaGreatDoor.X Go.Proofs.YtcnfgfomholheaaGreatDoorW.PrintWords Go.Proofs.YtcnfgfomholheaaGreatDoorW.PrintLast Go.Proofs.YtcnfgfomholheaaGreatDoorW.PrintMore
attribute [local go_sem] oJ oK qU qV mX mY oL oM
set_option linter.unusedVariables false
set_option linter.unusedSimpArgs false
def fD.f (k:Nat) (a0:ByteArray):Option (Bool):=(aV.f k a0).bind fun Nc=>(some (decide (Nc≥0)))
set_option maxHeartbeats 8000000 in
set_option maxRecDepth 100000 in
theorem fD.calls (k:Nat) (a0:ByteArray) (r:Bool) (w:World) (h:fD.f k a0=some r):
  Calls Tryz.prog 177 #[.string a0] w fun e w'=>e= .returned (.bool r)∧Below w.heap.size w w':=by
 have HB:=Aside0.mk (Below.refl w.heap.size w)
 have H:((aV.f k a0).bind fun Nc=>(some (decide (Nc≥0))))=some r:=h
 clear h
 replace H:=Option.bind_eq_some_iff.mp H
 obtain⟨Nc,rG,H⟩:=H
 replace H:(some (decide (Nc≥0)))=some r:=H
 have A2:=Aside0.mk rG
 clear rG
 obtain rfl:=Option.some.inj H
 go_enter Tryz.func177,Tryz.ntmps177
 go_wp2_with (first | ((with_reducible refine bH (f:=208) rfl ?_);refine dS (some 4) rfl rfl Tryz.func208 (by kernel_rfl) rfl #[.string a0] rfl (by(try simp only [List.map_toArray,List.map_cons,List.map_nil]);first | done | rfl | (simp only [List.length_drop,List.length_take];rfl)) ?_;(with_reducible refine(aV.calls k a0 Nc _ A2.out).mono ?_);rintro e w3 ⟨rfl,hb⟩;refine⟨_,rfl,?_⟩;have dB:=Aside0.mk (bM (by repeat (first | (with_reducible first | exact HB.out | apply aj | apply ah | apply au) | exact HB.out)) hb);clear HB;have HB:=dB;clear dB;(try clear hb);(try clear hb2);(try clear hk);(try clear hi)))
 go_ret
 exact⟨by first | rfl | (simp [aJ,aK]<;>rfl) | (simp [*,aJ,aK]<;>rfl),by repeat (first | (with_reducible first | exact HB.out | apply aj | apply ah | apply au) | exact HB.out)⟩
def pF.f (k:Nat) (a0:ByteArray):Option (Bool):=(fD.f k a0).bind fun Nh=>(if Nh=true then (if a0.toList=([]:List UInt8) then (some false) else ((aI.f k a0 43).bind fun t130=>(if t130=true then (some false) else ((aI.f k a0 35).bind fun t131=>(if t131=true then (some false) else ((bK.f k a0).bind fun oD=>(some (decide ((oD.length:Int)≤6))))))))) else (some false))
set_option maxHeartbeats 8000000 in
set_option maxRecDepth 100000 in
theorem pF.calls (k:Nat) (a0:ByteArray) (r:Bool) (w:World) (h:pF.f k a0=some r):
  Calls Tryz.prog 181 #[.string a0] w fun e w'=>e= .returned (.bool r)∧Below w.heap.size w w':=by
 have HB:=Aside0.mk (Below.refl w.heap.size w)
 have H:((fD.f k a0).bind fun Nh=>(if Nh=true then (if a0.toList=([]:List UInt8) then (some false) else ((aI.f k a0 43).bind fun t130=>(if t130=true then (some false) else ((aI.f k a0 35).bind fun t131=>(if t131=true then (some false) else ((bK.f k a0).bind fun oD=>(some (decide ((oD.length:Int)≤6))))))))) else (some false)))=some r:=h
 clear h
 replace H:=Option.bind_eq_some_iff.mp H
 obtain⟨Nh,rG,H⟩:=H
 replace H:(if Nh=true then (if a0.toList=([]:List UInt8) then (some false) else ((aI.f k a0 43).bind fun t130=>(if t130=true then (some false) else ((aI.f k a0 35).bind fun t131=>(if t131=true then (some false) else ((bK.f k a0).bind fun oD=>(some (decide ((oD.length:Int)≤6))))))))) else (some false))=some r:=H
 have A2:=Aside0.mk rG
 clear rG
 by_cases c3:Nh=true
 ·subst c3
  have H1:(if a0.toList=([]:List UInt8) then (some false) else ((aI.f k a0 43).bind fun t130=>(if t130=true then (some false) else ((aI.f k a0 35).bind fun t131=>(if t131=true then (some false) else ((bK.f k a0).bind fun oD=>(some (decide ((oD.length:Int)≤6)))))))))=some r:=by rw [if_pos rfl] at H;exact H
  clear H
  have H:=H1
  clear H1
  by_cases c4:a0.toList=([]:List UInt8)
  ·rw [if_pos c4] at H
   have lV:(a0.toList==([]:List UInt8))=true:=beq_iff_eq.mpr c4
   have abq:(a0.toList !=([]:List UInt8))=false:=bne_eq_false_iff_eq.mpr c4
   clear c4
   obtain rfl:=Option.some.inj H
   go_enter Tryz.func181,Tryz.ntmps181
   go_wp2_with (first | ((with_reducible refine bH (f:=177) rfl ?_);refine dS (some 4) rfl rfl Tryz.func177 (by kernel_rfl) rfl #[.string a0] rfl (by(try simp only [List.map_toArray,List.map_cons,List.map_nil]);first | done | rfl | (simp only [List.length_drop,List.length_take];rfl)) ?_;(with_reducible refine(fD.calls k a0 true _ A2.out).mono ?_);rintro e w5 ⟨rfl,hb⟩;refine⟨_,rfl,?_⟩;have dB:=Aside0.mk (bM (by repeat (first | (with_reducible first | exact HB.out | apply aj | apply ah | apply au) | exact HB.out)) hb);clear HB;have HB:=dB;clear dB;(try clear hb);(try clear hb2);(try clear hk);(try clear hi)))
   go_ret
   exact⟨by first | rfl | (simp [aJ,aK]<;>rfl) | (simp [*,aJ,aK]<;>rfl),by repeat (first | (with_reducible first | exact HB.out | apply aj | apply ah | apply au) | exact HB.out)⟩
  ·rw [if_neg c4] at H
   have lV:(a0.toList==([]:List UInt8))=false:=beq_eq_false_iff_ne.mpr c4
   have abq:(a0.toList !=([]:List UInt8))=true:=bne_iff_ne.mpr c4
   replace H:=Option.bind_eq_some_iff.mp H
   obtain⟨t130,OL,H⟩:=H
   replace H:(if t130=true then (some false) else ((aI.f k a0 35).bind fun t131=>(if t131=true then (some false) else ((bK.f k a0).bind fun oD=>(some (decide ((oD.length:Int)≤6)))))))=some r:=H
   have A6:=Aside0.mk OL
   clear OL
   by_cases c7:t130=true
   ·subst c7
    have H1:(some false)=some r:=by rw [if_pos rfl] at H;exact H
    clear H
    have H:=H1
    clear H1
    obtain rfl:=Option.some.inj H
    go_enter Tryz.func181,Tryz.ntmps181
    go_wp2_with (first | ((with_reducible refine bH (f:=177) rfl ?_);refine dS (some 4) rfl rfl Tryz.func177 (by kernel_rfl) rfl #[.string a0] rfl (by(try simp only [List.map_toArray,List.map_cons,List.map_nil]);first | done | rfl | (simp only [List.length_drop,List.length_take];rfl)) ?_;(with_reducible refine(fD.calls k a0 true _ A2.out).mono ?_);rintro e w8 ⟨rfl,hb⟩;refine⟨_,rfl,?_⟩;have dB:=Aside0.mk (bM (by repeat (first | (with_reducible first | exact HB.out | apply aj | apply ah | apply au) | exact HB.out)) hb);clear HB;have HB:=dB;clear dB;(try clear hb);(try clear hb2);(try clear hk);(try clear hi)) | (go_at_call 176;(with_reducible refine(aI.calls k a0 43 true _ A6.out).mono ?_);rintro e w' ⟨rfl,⟨nd,rfl⟩⟩))
    go_ret
    exact⟨by first | rfl | (simp [aJ,aK]<;>rfl) | (simp [*,aJ,aK]<;>rfl),by repeat (first | (with_reducible first | exact HB.out | apply aj | apply ah | apply au) | exact HB.out)⟩
   ·replace c7:=Bool.eq_false_iff.mpr c7
    subst c7
    have H1:((aI.f k a0 35).bind fun t131=>(if t131=true then (some false) else ((bK.f k a0).bind fun oD=>(some (decide ((oD.length:Int)≤6))))))=some r:=by rw [if_neg (show ¬(false=true) by decide)] at H;exact H
    clear H
    have H:=H1
    clear H1
    replace H:=Option.bind_eq_some_iff.mp H
    obtain⟨t131,Z4,H⟩:=H
    replace H:(if t131=true then (some false) else ((bK.f k a0).bind fun oD=>(some (decide ((oD.length:Int)≤6)))))=some r:=H
    have A9:=Aside0.mk Z4
    clear Z4
    by_cases c10:t131=true
    ·subst c10
     have H1:(some false)=some r:=by rw [if_pos rfl] at H;exact H
     clear H
     have H:=H1
     clear H1
     obtain rfl:=Option.some.inj H
     go_enter Tryz.func181,Tryz.ntmps181
     go_wp2_with (first | ((with_reducible refine bH (f:=177) rfl ?_);refine dS (some 4) rfl rfl Tryz.func177 (by kernel_rfl) rfl #[.string a0] rfl (by(try simp only [List.map_toArray,List.map_cons,List.map_nil]);first | done | rfl | (simp only [List.length_drop,List.length_take];rfl)) ?_;(with_reducible refine(fD.calls k a0 true _ A2.out).mono ?_);rintro e w11 ⟨rfl,hb⟩;refine⟨_,rfl,?_⟩;have dB:=Aside0.mk (bM (by repeat (first | (with_reducible first | exact HB.out | apply aj | apply ah | apply au) | exact HB.out)) hb);clear HB;have HB:=dB;clear dB;(try clear hb);(try clear hb2);(try clear hk);(try clear hi)) | (go_at_call 176;(with_reducible refine(aI.calls k a0 43 false _ A6.out).mono ?_);rintro e w' ⟨rfl,⟨nd,rfl⟩⟩) | (go_at_call 176;(with_reducible refine(aI.calls k a0 35 true _ A9.out).mono ?_);rintro e w' ⟨rfl,⟨nd,rfl⟩⟩))
     go_ret
     exact⟨by first | rfl | (simp [aJ,aK]<;>rfl) | (simp [*,aJ,aK]<;>rfl),by repeat (first | (with_reducible first | exact HB.out | apply aj | apply ah | apply au) | exact HB.out)⟩
    ·replace c10:=Bool.eq_false_iff.mpr c10
     subst c10
     have H1:((bK.f k a0).bind fun oD=>(some (decide ((oD.length:Int)≤6))))=some r:=by rw [if_neg (show ¬(false=true) by decide)] at H;exact H
     clear H
     have H:=H1
     clear H1
     replace H:=Option.bind_eq_some_iff.mp H
     obtain⟨oD,SX,H⟩:=H
     replace H:(some (decide ((oD.length:Int)≤6)))=some r:=H
     have ZX:=Aside0.mk SX
     clear SX
     obtain rfl:=Option.some.inj H
     go_enter Tryz.func181,Tryz.ntmps181
     go_wp2_with (first | ((with_reducible refine bH (f:=177) rfl ?_);refine dS (some 4) rfl rfl Tryz.func177 (by kernel_rfl) rfl #[.string a0] rfl (by(try simp only [List.map_toArray,List.map_cons,List.map_nil]);first | done | rfl | (simp only [List.length_drop,List.length_take];rfl)) ?_;(with_reducible refine(fD.calls k a0 true _ A2.out).mono ?_);rintro e w13 ⟨rfl,hb⟩;refine⟨_,rfl,?_⟩;have dB:=Aside0.mk (bM (by repeat (first | (with_reducible first | exact HB.out | apply aj | apply ah | apply au) | exact HB.out)) hb);clear HB;have HB:=dB;clear dB;(try clear hb);(try clear hb2);(try clear hk);(try clear hi)) | (go_at_call 176;(with_reducible refine(aI.calls k a0 43 false _ A6.out).mono ?_);rintro e w' ⟨rfl,⟨nd,rfl⟩⟩) | (go_at_call 176;(with_reducible refine(aI.calls k a0 35 false _ A9.out).mono ?_);rintro e w' ⟨rfl,⟨nd,rfl⟩⟩) | (go_at_call 108;(with_reducible refine(bK.calls k a0 oD _ ZX.out).mono ?_);rintro e w14 ⟨ahu,rfl,ho0,hb⟩;have dB:=Aside0.mk (Kd.sV ho0 (lu (by repeat (first | (with_reducible first | exact HB.out | apply aj | apply ah | apply au) | exact HB.out))));have iW:=Aside0.mk (bM (by repeat (first | (with_reducible first | exact HB.out | apply aj | apply ah | apply au) | exact HB.out)) hb);clear HB;have afG:=dB;have HB:=iW;clear dB iW;(try clear hb);(try clear hb2);(try clear hk);(try clear hi);(try clear ho0);obtain⟨agM,agN,abx⟩:=Kd.jV afG.out;subst abx))
     go_ret
     exact⟨by first | rfl | (simp [aJ,aK]<;>rfl) | (simp [*,aJ,aK]<;>rfl),by repeat (first | (with_reducible first | exact HB.out | apply aj | apply ah | apply au) | exact HB.out)⟩
 ·replace c3:=Bool.eq_false_iff.mpr c3
  subst c3
  have H1:(some false)=some r:=by rw [if_neg (show ¬(false=true) by decide)] at H;exact H
  clear H
  have H:=H1
  clear H1
  obtain rfl:=Option.some.inj H
  go_enter Tryz.func181,Tryz.ntmps181
  go_wp2_with (first | ((with_reducible refine bH (f:=177) rfl ?_);refine dS (some 4) rfl rfl Tryz.func177 (by kernel_rfl) rfl #[.string a0] rfl (by(try simp only [List.map_toArray,List.map_cons,List.map_nil]);first | done | rfl | (simp only [List.length_drop,List.length_take];rfl)) ?_;(with_reducible refine(fD.calls k a0 false _ A2.out).mono ?_);rintro e w16 ⟨rfl,hb⟩;refine⟨_,rfl,?_⟩;have dB:=Aside0.mk (bM (by repeat (first | (with_reducible first | exact HB.out | apply aj | apply ah | apply au) | exact HB.out)) hb);clear HB;have HB:=dB;clear dB;(try clear hb);(try clear hb2);(try clear hk);(try clear hi)))
  go_ret
  exact⟨by first | rfl | (simp [aJ,aK]<;>rfl) | (simp [*,aJ,aK]<;>rfl),by repeat (first | (with_reducible first | exact HB.out | apply aj | apply ah | apply au) | exact HB.out)⟩
def aU.l0:Nat→ByteArray→List ByteArray→Int→Option (Bool)
 | 0,_,_,_=>none
 | k+1,x0,x3,x4=>if x4<(x3.length:Int) then (if 0≤x4 then ((aI.f k (cZ ByteArray.empty x3 x4) 43).bind fun XC=>(if XC=true then (if (cZ ByteArray.empty x3 x4).toList=([43]:List UInt8) then ((aI.f k (cZ ByteArray.empty x3 x4) 35).bind fun t143=>(if t143=true then (if (cZ ByteArray.empty x3 x4).toList=([35]:List UInt8) then (if x4<(wrap64 ((x3.length:Int) - 1)) then (some false) else (aU.l0 k x0 x3 (wrap64 (x4+1)))) else (some false)) else (aU.l0 k x0 x3 (wrap64 (x4+1))))) else (some false)) else ((aI.f k (cZ ByteArray.empty x3 x4) 35).bind fun t146=>(if t146=true then (if (cZ ByteArray.empty x3 x4).toList=([35]:List UInt8) then (if x4<(wrap64 ((x3.length:Int) - 1)) then (some false) else (aU.l0 k x0 x3 (wrap64 (x4+1)))) else (some false)) else (aU.l0 k x0 x3 (wrap64 (x4+1))))))) else (none)) else ((fD.f k x0).bind fun t138=>(if t138=true then (if x0.toList=([]:List UInt8) then (some false) else (some (decide ((x3.length:Int)≤6)))) else (some false)))
def aU.f (k:Nat) (a0:ByteArray):Option (Bool):=(bK.f k a0).bind fun aQ=>(aU.l0 k a0 aQ 0)
set_option maxHeartbeats 8000000 in
set_option maxRecDepth 100000 in
theorem aU.calls (k:Nat) (a0:ByteArray) (r:Bool) (w:World) (h:aU.f k a0=some r):
  Calls Tryz.prog 106 #[.string a0] w fun e w'=>e= .returned (.bool r)∧Below w.heap.size w w':=by
 have HB:=Aside0.mk (Below.refl w.heap.size w)
 have H:((bK.f k a0).bind fun aQ=>(aU.l0 k a0 aQ 0))=some r:=h
 clear h
 replace H:=Option.bind_eq_some_iff.mp H
 obtain⟨aQ,rG,H⟩:=H
 replace H:(aU.l0 k a0 aQ 0)=some r:=H
 have A2:=Aside0.mk rG
 clear rG
 have H':=Aside0.mk H
 clear H
 go_enter Tryz.func106,Tryz.ntmps106
 go_wp2_with (first | ((with_reducible refine bH (f:=108) rfl ?_);refine dS (some 6) rfl rfl Tryz.func108 (by kernel_rfl) rfl #[.string a0] rfl (by(try simp only [List.map_toArray,List.map_cons,List.map_nil]);first | done | rfl | (simp only [List.length_drop,List.length_take];rfl)) ?_;(with_reducible refine(bK.calls k a0 aQ _ A2.out).mono ?_);rintro e w3 ⟨agO,rfl,ho0,hb⟩;refine⟨_,rfl,?_⟩;have dB:=Aside0.mk (Kd.sV ho0 (lu (by repeat (first | (with_reducible first | exact HB.out | apply aj | apply ah | apply au) | exact HB.out))));have iW:=Aside0.mk (bM (by repeat (first | (with_reducible first | exact HB.out | apply aj | apply ah | apply au) | exact HB.out)) hb);clear HB;have afH:=dB;have HB:=iW;clear dB iW;(try clear hb);(try clear hb2);(try clear hk);(try clear hi);(try clear ho0)))
 go_loopg [4] k (fun kq v4 w'=>∃(x4_1:Int),v4= .int .i64 x4_1∧Aside0 (aU.l0 kq a0 aQ x4_1=some r)∧Aside0 (kq≤k)∧Aside0 (Kd.R Kd.string 9 w' w.heap.size (fun _=>True) agO aQ)∧Aside0 (Below w.heap.size w w'))
 case atStart=>exact⟨(0),(by first | rfl | (simp;done) | (simp [*];done)),H',⟨Nat.le_refl _⟩,⟨by(with_reducible repeat (first | apply Kd.dQ | apply Kd.dR | apply Kd.fF));exact afH.out⟩,⟨by repeat (first | (with_reducible first | exact HB.out | apply aj | apply ah | apply au) | exact HB.out)⟩⟩
 case round=>
  clear H'
  try clear c1
  try clear p2
  obtain⟨x4_1,rfl,HA,ql,dh,HB⟩:=hrel
  cases gk with
  | zero=>exact absurd HA.out (by simp [aU.l0])
  | succ k1=>
    have H:=HA.out
    clear HA
    simp only [aU.l0] at H
    by_cases c4:x4_1<(aQ.length:Int)
    ·rw [if_pos c4] at H
     have lV:decide (x4_1<(aQ.length:Int))=true:=decide_eq_true c4
     clear c4
     by_cases c5:0≤x4_1
     ·rw [if_pos c5] at H
      have MX:decide (0≤x4_1)=true:=decide_eq_true c5
      clear c5
      replace H:=Option.bind_eq_some_iff.mp H
      obtain⟨XC,OL,H⟩:=H
      replace H:(if XC=true then (if (cZ ByteArray.empty aQ x4_1).toList=([43]:List UInt8) then ((aI.f k1 (cZ ByteArray.empty aQ x4_1) 35).bind fun t143=>(if t143=true then (if (cZ ByteArray.empty aQ x4_1).toList=([35]:List UInt8) then (if x4_1<(wrap64 ((aQ.length:Int) - 1)) then (some false) else (aU.l0 k1 a0 aQ (wrap64 (x4_1+1)))) else (some false)) else (aU.l0 k1 a0 aQ (wrap64 (x4_1+1))))) else (some false)) else ((aI.f k1 (cZ ByteArray.empty aQ x4_1) 35).bind fun t146=>(if t146=true then (if (cZ ByteArray.empty aQ x4_1).toList=([35]:List UInt8) then (if x4_1<(wrap64 ((aQ.length:Int) - 1)) then (some false) else (aU.l0 k1 a0 aQ (wrap64 (x4_1+1)))) else (some false)) else (aU.l0 k1 a0 aQ (wrap64 (x4_1+1))))))=some r:=H
      have A6:=Aside0.mk OL
      clear OL
      by_cases c7:XC=true
      ·subst c7
       have H1:(if (cZ ByteArray.empty aQ x4_1).toList=([43]:List UInt8) then ((aI.f k1 (cZ ByteArray.empty aQ x4_1) 35).bind fun t143=>(if t143=true then (if (cZ ByteArray.empty aQ x4_1).toList=([35]:List UInt8) then (if x4_1<(wrap64 ((aQ.length:Int) - 1)) then (some false) else (aU.l0 k1 a0 aQ (wrap64 (x4_1+1)))) else (some false)) else (aU.l0 k1 a0 aQ (wrap64 (x4_1+1))))) else (some false))=some r:=by rw [if_pos rfl] at H;exact H
       clear H
       have H:=H1
       clear H1
       by_cases c8:(cZ ByteArray.empty aQ x4_1).toList=([43]:List UInt8)
       ·rw [if_pos c8] at H
        have E5:((cZ ByteArray.empty aQ x4_1).toList==([43]:List UInt8))=true:=beq_iff_eq.mpr c8
        have agP:((cZ ByteArray.empty aQ x4_1).toList !=([43]:List UInt8))=false:=bne_eq_false_iff_eq.mpr c8
        clear c8
        replace H:=Option.bind_eq_some_iff.mp H
        obtain⟨t143,Z4,H⟩:=H
        replace H:(if t143=true then (if (cZ ByteArray.empty aQ x4_1).toList=([35]:List UInt8) then (if x4_1<(wrap64 ((aQ.length:Int) - 1)) then (some false) else (aU.l0 k1 a0 aQ (wrap64 (x4_1+1)))) else (some false)) else (aU.l0 k1 a0 aQ (wrap64 (x4_1+1))))=some r:=H
        have A9:=Aside0.mk Z4
        clear Z4
        by_cases c10:t143=true
        ·subst c10
         have H1:(if (cZ ByteArray.empty aQ x4_1).toList=([35]:List UInt8) then (if x4_1<(wrap64 ((aQ.length:Int) - 1)) then (some false) else (aU.l0 k1 a0 aQ (wrap64 (x4_1+1)))) else (some false))=some r:=by rw [if_pos rfl] at H;exact H
         clear H
         have H:=H1
         clear H1
         by_cases c11:(cZ ByteArray.empty aQ x4_1).toList=([35]:List UInt8)
         ·rw [if_pos c11] at H
          have qB:((cZ ByteArray.empty aQ x4_1).toList==([35]:List UInt8))=true:=beq_iff_eq.mpr c11
          have afI:((cZ ByteArray.empty aQ x4_1).toList !=([35]:List UInt8))=false:=bne_eq_false_iff_eq.mpr c11
          clear c11
          by_cases c12:x4_1<(wrap64 ((aQ.length:Int) - 1))
          ·rw [if_pos c12] at H
           have abX:decide (x4_1<(wrap64 ((aQ.length:Int) - 1)))=true:=decide_eq_true c12
           clear c12
           obtain rfl:=Option.some.inj H
           obtain⟨ahv,ahw,agQ⟩:=Kd.jV dh.out
           subst agQ
           have iY:0≤(x4_1:Int):=of_decide_eq_true (by first | (with_reducible assumption) | assumption)
           have iZ:x4_1<(aQ.length:Int):=of_decide_eq_true (by first | (with_reducible assumption) | assumption)
           obtain⟨jh,pG,rH⟩:=Kd.dA (Kd.bn dh.out).2.2 x4_1 iY iZ
           cases pG
           replace iY:=eq_true iY
           replace iZ:=eq_true iZ
           go_wp2_with (first | ((with_reducible refine bH (f:=176) rfl ?_);refine dS (some 17) rfl rfl Tryz.func176 (by kernel_rfl) rfl #[.string (cZ ByteArray.empty aQ x4_1), .int .u8 43] rfl (by(try simp only [List.map_toArray,List.map_cons,List.map_nil]);first | done | rfl | (simp only [List.length_drop,List.length_take];rfl)) ?_;(with_reducible refine(aI.calls k1 (cZ ByteArray.empty aQ x4_1) 43 true _ A6.out).mono ?_);rintro e w' ⟨rfl,⟨nd,rfl⟩⟩;refine⟨_,rfl,?_⟩;have nP:0≤(x4_1:Int):=of_decide_eq_true (by first | (with_reducible assumption) | assumption);have nR:x4_1<(aQ.length:Int):=of_decide_eq_true (by first | (with_reducible assumption) | assumption);obtain⟨wG,CS,Gp⟩:=Kd.dA (Kd.bn dh.out).2.2 x4_1 nP nR;obtain rfl:jh=wG:=(by injection CS);replace nP:=eq_true nP;replace nR:=eq_true nR;have qO:0≤(x4_1:Int):=of_decide_eq_true (by first | (with_reducible assumption) | assumption);have qP:x4_1<(aQ.length:Int):=of_decide_eq_true (by first | (with_reducible assumption) | assumption);obtain⟨CU,IL,Nl⟩:=Kd.dA (Kd.bn dh.out).2.2 x4_1 qO qP;obtain rfl:jh=CU:=(by injection IL);replace qO:=eq_true qO;replace qP:=eq_true qP) | (go_at_call 176;(with_reducible refine(aI.calls k1 (cZ ByteArray.empty aQ x4_1) 35 true _ A9.out).mono ?_);rintro e w' ⟨rfl,⟨nd,rfl⟩⟩;have yg:0≤(x4_1:Int):=of_decide_eq_true (by first | (with_reducible assumption) | assumption);have yh:x4_1<(aQ.length:Int):=of_decide_eq_true (by first | (with_reducible assumption) | assumption);obtain⟨KL,SY,Vx⟩:=Kd.dA (Kd.bn dh.out).2.2 x4_1 yg yh;obtain rfl:jh=KL:=(by injection SY);replace yg:=eq_true yg;replace yh:=eq_true yh))
           go_ret
           exact⟨by first | rfl | (simp [aJ,aK]<;>rfl) | (simp [*,aJ,aK]<;>rfl),by repeat (first | (with_reducible first | exact HB.out | apply aj | apply ah | apply au) | exact HB.out)⟩
          ·rw [if_neg c12] at H
           have abX:decide (x4_1<(wrap64 ((aQ.length:Int) - 1)))=false:=decide_eq_false c12
           clear c12
           have H':=Aside0.mk H
           clear H
           obtain⟨agI,agJ,abr⟩:=Kd.jV dh.out
           subst abr
           have iY:0≤(x4_1:Int):=of_decide_eq_true (by first | (with_reducible assumption) | assumption)
           have iZ:x4_1<(aQ.length:Int):=of_decide_eq_true (by first | (with_reducible assumption) | assumption)
           obtain⟨jh,pG,rH⟩:=Kd.dA (Kd.bn dh.out).2.2 x4_1 iY iZ
           cases pG
           replace iY:=eq_true iY
           replace iZ:=eq_true iZ
           go_wp2_with (first | ((with_reducible refine bH (f:=176) rfl ?_);refine dS (some 17) rfl rfl Tryz.func176 (by kernel_rfl) rfl #[.string (cZ ByteArray.empty aQ x4_1), .int .u8 43] rfl (by(try simp only [List.map_toArray,List.map_cons,List.map_nil]);first | done | rfl | (simp only [List.length_drop,List.length_take];rfl)) ?_;(with_reducible refine(aI.calls k1 (cZ ByteArray.empty aQ x4_1) 43 true _ A6.out).mono ?_);rintro e w' ⟨rfl,⟨nd,rfl⟩⟩;refine⟨_,rfl,?_⟩;have nP:0≤(x4_1:Int):=of_decide_eq_true (by first | (with_reducible assumption) | assumption);have nR:x4_1<(aQ.length:Int):=of_decide_eq_true (by first | (with_reducible assumption) | assumption);obtain⟨wG,CS,Gp⟩:=Kd.dA (Kd.bn dh.out).2.2 x4_1 nP nR;obtain rfl:jh=wG:=(by injection CS);replace nP:=eq_true nP;replace nR:=eq_true nR;have qO:0≤(x4_1:Int):=of_decide_eq_true (by first | (with_reducible assumption) | assumption);have qP:x4_1<(aQ.length:Int):=of_decide_eq_true (by first | (with_reducible assumption) | assumption);obtain⟨CU,IL,Nl⟩:=Kd.dA (Kd.bn dh.out).2.2 x4_1 qO qP;obtain rfl:jh=CU:=(by injection IL);replace qO:=eq_true qO;replace qP:=eq_true qP) | (go_at_call 176;(with_reducible refine(aI.calls k1 (cZ ByteArray.empty aQ x4_1) 35 true _ A9.out).mono ?_);rintro e w' ⟨rfl,⟨nd,rfl⟩⟩;have yg:0≤(x4_1:Int):=of_decide_eq_true (by first | (with_reducible assumption) | assumption);have yh:x4_1<(aQ.length:Int):=of_decide_eq_true (by first | (with_reducible assumption) | assumption);obtain⟨KL,SY,Vx⟩:=Kd.dA (Kd.bn dh.out).2.2 x4_1 yg yh;obtain rfl:jh=KL:=(by injection SY);replace yg:=eq_true yg;replace yh:=eq_true yh))
           go_roundg k1
           case measure=>have:=ql.out;omega
           case rel=>exact⟨(wrap64 (x4_1+1)),(by first | rfl | (simp;done) | (simp [*];done)),H',⟨by have:=ql.out;omega⟩,⟨by(with_reducible repeat (first | apply Kd.dQ | apply Kd.dR | apply Kd.fF));exact dh.out⟩,⟨by repeat (first | (with_reducible first | exact HB.out | apply aj | apply ah | apply au) | exact HB.out)⟩⟩
         ·rw [if_neg c11] at H
          have qB:((cZ ByteArray.empty aQ x4_1).toList==([35]:List UInt8))=false:=beq_eq_false_iff_ne.mpr c11
          have afI:((cZ ByteArray.empty aQ x4_1).toList !=([35]:List UInt8))=true:=bne_iff_ne.mpr c11
          obtain rfl:=Option.some.inj H
          obtain⟨agM,agN,abx⟩:=Kd.jV dh.out
          subst abx
          have iY:0≤(x4_1:Int):=of_decide_eq_true (by first | (with_reducible assumption) | assumption)
          have iZ:x4_1<(aQ.length:Int):=of_decide_eq_true (by first | (with_reducible assumption) | assumption)
          obtain⟨jh,pG,rH⟩:=Kd.dA (Kd.bn dh.out).2.2 x4_1 iY iZ
          cases pG
          replace iY:=eq_true iY
          replace iZ:=eq_true iZ
          go_wp2_with (first | ((with_reducible refine bH (f:=176) rfl ?_);refine dS (some 17) rfl rfl Tryz.func176 (by kernel_rfl) rfl #[.string (cZ ByteArray.empty aQ x4_1), .int .u8 43] rfl (by(try simp only [List.map_toArray,List.map_cons,List.map_nil]);first | done | rfl | (simp only [List.length_drop,List.length_take];rfl)) ?_;(with_reducible refine(aI.calls k1 (cZ ByteArray.empty aQ x4_1) 43 true _ A6.out).mono ?_);rintro e w' ⟨rfl,⟨nd,rfl⟩⟩;refine⟨_,rfl,?_⟩;have nP:0≤(x4_1:Int):=of_decide_eq_true (by first | (with_reducible assumption) | assumption);have nR:x4_1<(aQ.length:Int):=of_decide_eq_true (by first | (with_reducible assumption) | assumption);obtain⟨wG,CS,Gp⟩:=Kd.dA (Kd.bn dh.out).2.2 x4_1 nP nR;obtain rfl:jh=wG:=(by injection CS);replace nP:=eq_true nP;replace nR:=eq_true nR;have qO:0≤(x4_1:Int):=of_decide_eq_true (by first | (with_reducible assumption) | assumption);have qP:x4_1<(aQ.length:Int):=of_decide_eq_true (by first | (with_reducible assumption) | assumption);obtain⟨CU,IL,Nl⟩:=Kd.dA (Kd.bn dh.out).2.2 x4_1 qO qP;obtain rfl:jh=CU:=(by injection IL);replace qO:=eq_true qO;replace qP:=eq_true qP) | (go_at_call 176;(with_reducible refine(aI.calls k1 (cZ ByteArray.empty aQ x4_1) 35 true _ A9.out).mono ?_);rintro e w' ⟨rfl,⟨nd,rfl⟩⟩;have yg:0≤(x4_1:Int):=of_decide_eq_true (by first | (with_reducible assumption) | assumption);have yh:x4_1<(aQ.length:Int):=of_decide_eq_true (by first | (with_reducible assumption) | assumption);obtain⟨KL,SY,Vx⟩:=Kd.dA (Kd.bn dh.out).2.2 x4_1 yg yh;obtain rfl:jh=KL:=(by injection SY);replace yg:=eq_true yg;replace yh:=eq_true yh))
          go_ret
          exact⟨by first | rfl | (simp [aJ,aK]<;>rfl) | (simp [*,aJ,aK]<;>rfl),by repeat (first | (with_reducible first | exact HB.out | apply aj | apply ah | apply au) | exact HB.out)⟩
        ·replace c10:=Bool.eq_false_iff.mpr c10
         subst c10
         have H1:(aU.l0 k1 a0 aQ (wrap64 (x4_1+1)))=some r:=by rw [if_neg (show ¬(false=true) by decide)] at H;exact H
         clear H
         have H:=H1
         clear H1
         have H':=Aside0.mk H
         clear H
         obtain⟨ahx,ahy,agR⟩:=Kd.jV dh.out
         subst agR
         have iY:0≤(x4_1:Int):=of_decide_eq_true (by first | (with_reducible assumption) | assumption)
         have iZ:x4_1<(aQ.length:Int):=of_decide_eq_true (by first | (with_reducible assumption) | assumption)
         obtain⟨jh,pG,rH⟩:=Kd.dA (Kd.bn dh.out).2.2 x4_1 iY iZ
         cases pG
         replace iY:=eq_true iY
         replace iZ:=eq_true iZ
         go_wp2_with (first | ((with_reducible refine bH (f:=176) rfl ?_);refine dS (some 17) rfl rfl Tryz.func176 (by kernel_rfl) rfl #[.string (cZ ByteArray.empty aQ x4_1), .int .u8 43] rfl (by(try simp only [List.map_toArray,List.map_cons,List.map_nil]);first | done | rfl | (simp only [List.length_drop,List.length_take];rfl)) ?_;(with_reducible refine(aI.calls k1 (cZ ByteArray.empty aQ x4_1) 43 true _ A6.out).mono ?_);rintro e w' ⟨rfl,⟨nd,rfl⟩⟩;refine⟨_,rfl,?_⟩;have nP:0≤(x4_1:Int):=of_decide_eq_true (by first | (with_reducible assumption) | assumption);have nR:x4_1<(aQ.length:Int):=of_decide_eq_true (by first | (with_reducible assumption) | assumption);obtain⟨wG,CS,Gp⟩:=Kd.dA (Kd.bn dh.out).2.2 x4_1 nP nR;obtain rfl:jh=wG:=(by injection CS);replace nP:=eq_true nP;replace nR:=eq_true nR;have qO:0≤(x4_1:Int):=of_decide_eq_true (by first | (with_reducible assumption) | assumption);have qP:x4_1<(aQ.length:Int):=of_decide_eq_true (by first | (with_reducible assumption) | assumption);obtain⟨CU,IL,Nl⟩:=Kd.dA (Kd.bn dh.out).2.2 x4_1 qO qP;obtain rfl:jh=CU:=(by injection IL);replace qO:=eq_true qO;replace qP:=eq_true qP) | (go_at_call 176;(with_reducible refine(aI.calls k1 (cZ ByteArray.empty aQ x4_1) 35 false _ A9.out).mono ?_);rintro e w' ⟨rfl,⟨nd,rfl⟩⟩))
         go_roundg k1
         case measure=>have:=ql.out;omega
         case rel=>exact⟨(wrap64 (x4_1+1)),(by first | rfl | (simp;done) | (simp [*];done)),H',⟨by have:=ql.out;omega⟩,⟨by(with_reducible repeat (first | apply Kd.dQ | apply Kd.dR | apply Kd.fF));exact dh.out⟩,⟨by repeat (first | (with_reducible first | exact HB.out | apply aj | apply ah | apply au) | exact HB.out)⟩⟩
       ·rw [if_neg c8] at H
        have E5:((cZ ByteArray.empty aQ x4_1).toList==([43]:List UInt8))=false:=beq_eq_false_iff_ne.mpr c8
        have agP:((cZ ByteArray.empty aQ x4_1).toList !=([43]:List UInt8))=true:=bne_iff_ne.mpr c8
        obtain rfl:=Option.some.inj H
        obtain⟨ahz,ahA,agS⟩:=Kd.jV dh.out
        subst agS
        have iY:0≤(x4_1:Int):=of_decide_eq_true (by first | (with_reducible assumption) | assumption)
        have iZ:x4_1<(aQ.length:Int):=of_decide_eq_true (by first | (with_reducible assumption) | assumption)
        obtain⟨jh,pG,rH⟩:=Kd.dA (Kd.bn dh.out).2.2 x4_1 iY iZ
        cases pG
        replace iY:=eq_true iY
        replace iZ:=eq_true iZ
        go_wp2_with (first | ((with_reducible refine bH (f:=176) rfl ?_);refine dS (some 17) rfl rfl Tryz.func176 (by kernel_rfl) rfl #[.string (cZ ByteArray.empty aQ x4_1), .int .u8 43] rfl (by(try simp only [List.map_toArray,List.map_cons,List.map_nil]);first | done | rfl | (simp only [List.length_drop,List.length_take];rfl)) ?_;(with_reducible refine(aI.calls k1 (cZ ByteArray.empty aQ x4_1) 43 true _ A6.out).mono ?_);rintro e w' ⟨rfl,⟨nd,rfl⟩⟩;refine⟨_,rfl,?_⟩;have nP:0≤(x4_1:Int):=of_decide_eq_true (by first | (with_reducible assumption) | assumption);have nR:x4_1<(aQ.length:Int):=of_decide_eq_true (by first | (with_reducible assumption) | assumption);obtain⟨wG,CS,Gp⟩:=Kd.dA (Kd.bn dh.out).2.2 x4_1 nP nR;obtain rfl:jh=wG:=(by injection CS);replace nP:=eq_true nP;replace nR:=eq_true nR))
        go_ret
        exact⟨by first | rfl | (simp [aJ,aK]<;>rfl) | (simp [*,aJ,aK]<;>rfl),by repeat (first | (with_reducible first | exact HB.out | apply aj | apply ah | apply au) | exact HB.out)⟩
      ·replace c7:=Bool.eq_false_iff.mpr c7
       subst c7
       have H1:((aI.f k1 (cZ ByteArray.empty aQ x4_1) 35).bind fun t146=>(if t146=true then (if (cZ ByteArray.empty aQ x4_1).toList=([35]:List UInt8) then (if x4_1<(wrap64 ((aQ.length:Int) - 1)) then (some false) else (aU.l0 k1 a0 aQ (wrap64 (x4_1+1)))) else (some false)) else (aU.l0 k1 a0 aQ (wrap64 (x4_1+1)))))=some r:=by rw [if_neg (show ¬(false=true) by decide)] at H;exact H
       clear H
       have H:=H1
       clear H1
       replace H:=Option.bind_eq_some_iff.mp H
       obtain⟨t146,aeO,H⟩:=H
       replace H:(if t146=true then (if (cZ ByteArray.empty aQ x4_1).toList=([35]:List UInt8) then (if x4_1<(wrap64 ((aQ.length:Int) - 1)) then (some false) else (aU.l0 k1 a0 aQ (wrap64 (x4_1+1)))) else (some false)) else (aU.l0 k1 a0 aQ (wrap64 (x4_1+1))))=some r:=H
       have A18:=Aside0.mk aeO
       clear aeO
       by_cases c19:t146=true
       ·subst c19
        have H1:(if (cZ ByteArray.empty aQ x4_1).toList=([35]:List UInt8) then (if x4_1<(wrap64 ((aQ.length:Int) - 1)) then (some false) else (aU.l0 k1 a0 aQ (wrap64 (x4_1+1)))) else (some false))=some r:=by rw [if_pos rfl] at H;exact H
        clear H
        have H:=H1
        clear H1
        by_cases c20:(cZ ByteArray.empty aQ x4_1).toList=([35]:List UInt8)
        ·rw [if_pos c20] at H
         have afJ:((cZ ByteArray.empty aQ x4_1).toList==([35]:List UInt8))=true:=beq_iff_eq.mpr c20
         have afK:((cZ ByteArray.empty aQ x4_1).toList !=([35]:List UInt8))=false:=bne_eq_false_iff_eq.mpr c20
         clear c20
         by_cases c21:x4_1<(wrap64 ((aQ.length:Int) - 1))
         ·rw [if_pos c21] at H
          have abY:decide (x4_1<(wrap64 ((aQ.length:Int) - 1)))=true:=decide_eq_true c21
          clear c21
          obtain rfl:=Option.some.inj H
          obtain⟨ahB,ahC,agT⟩:=Kd.jV dh.out
          subst agT
          have iY:0≤(x4_1:Int):=of_decide_eq_true (by first | (with_reducible assumption) | assumption)
          have iZ:x4_1<(aQ.length:Int):=of_decide_eq_true (by first | (with_reducible assumption) | assumption)
          obtain⟨jh,pG,rH⟩:=Kd.dA (Kd.bn dh.out).2.2 x4_1 iY iZ
          cases pG
          replace iY:=eq_true iY
          replace iZ:=eq_true iZ
          go_wp2_with (first | ((with_reducible refine bH (f:=176) rfl ?_);refine dS (some 17) rfl rfl Tryz.func176 (by kernel_rfl) rfl #[.string (cZ ByteArray.empty aQ x4_1), .int .u8 43] rfl (by(try simp only [List.map_toArray,List.map_cons,List.map_nil]);first | done | rfl | (simp only [List.length_drop,List.length_take];rfl)) ?_;(with_reducible refine(aI.calls k1 (cZ ByteArray.empty aQ x4_1) 43 false _ A6.out).mono ?_);rintro e w' ⟨rfl,⟨nd,rfl⟩⟩;refine⟨_,rfl,?_⟩;have qQ:0≤(x4_1:Int):=of_decide_eq_true (by first | (with_reducible assumption) | assumption);have qR:x4_1<(aQ.length:Int):=of_decide_eq_true (by first | (with_reducible assumption) | assumption);obtain⟨CW,IQ,Np⟩:=Kd.dA (Kd.bn dh.out).2.2 x4_1 qQ qR;obtain rfl:jh=CW:=(by injection IQ);replace qQ:=eq_true qQ;replace qR:=eq_true qR) | (go_at_call 176;(with_reducible refine(aI.calls k1 (cZ ByteArray.empty aQ x4_1) 35 true _ A18.out).mono ?_);rintro e w' ⟨rfl,⟨nd,rfl⟩⟩;have yj:0≤(x4_1:Int):=of_decide_eq_true (by first | (with_reducible assumption) | assumption);have yt:x4_1<(aQ.length:Int):=of_decide_eq_true (by first | (with_reducible assumption) | assumption);obtain⟨KN,S9,Vy⟩:=Kd.dA (Kd.bn dh.out).2.2 x4_1 yj yt;obtain rfl:jh=KN:=(by injection S9);replace yj:=eq_true yj;replace yt:=eq_true yt))
          go_ret
          exact⟨by first | rfl | (simp [aJ,aK]<;>rfl) | (simp [*,aJ,aK]<;>rfl),by repeat (first | (with_reducible first | exact HB.out | apply aj | apply ah | apply au) | exact HB.out)⟩
         ·rw [if_neg c21] at H
          have abY:decide (x4_1<(wrap64 ((aQ.length:Int) - 1)))=false:=decide_eq_false c21
          clear c21
          have H':=Aside0.mk H
          clear H
          obtain⟨ahD,ahE,agU⟩:=Kd.jV dh.out
          subst agU
          have iY:0≤(x4_1:Int):=of_decide_eq_true (by first | (with_reducible assumption) | assumption)
          have iZ:x4_1<(aQ.length:Int):=of_decide_eq_true (by first | (with_reducible assumption) | assumption)
          obtain⟨jh,pG,rH⟩:=Kd.dA (Kd.bn dh.out).2.2 x4_1 iY iZ
          cases pG
          replace iY:=eq_true iY
          replace iZ:=eq_true iZ
          go_wp2_with (first | ((with_reducible refine bH (f:=176) rfl ?_);refine dS (some 17) rfl rfl Tryz.func176 (by kernel_rfl) rfl #[.string (cZ ByteArray.empty aQ x4_1), .int .u8 43] rfl (by(try simp only [List.map_toArray,List.map_cons,List.map_nil]);first | done | rfl | (simp only [List.length_drop,List.length_take];rfl)) ?_;(with_reducible refine(aI.calls k1 (cZ ByteArray.empty aQ x4_1) 43 false _ A6.out).mono ?_);rintro e w' ⟨rfl,⟨nd,rfl⟩⟩;refine⟨_,rfl,?_⟩;have qQ:0≤(x4_1:Int):=of_decide_eq_true (by first | (with_reducible assumption) | assumption);have qR:x4_1<(aQ.length:Int):=of_decide_eq_true (by first | (with_reducible assumption) | assumption);obtain⟨CW,IQ,Np⟩:=Kd.dA (Kd.bn dh.out).2.2 x4_1 qQ qR;obtain rfl:jh=CW:=(by injection IQ);replace qQ:=eq_true qQ;replace qR:=eq_true qR) | (go_at_call 176;(with_reducible refine(aI.calls k1 (cZ ByteArray.empty aQ x4_1) 35 true _ A18.out).mono ?_);rintro e w' ⟨rfl,⟨nd,rfl⟩⟩;have yj:0≤(x4_1:Int):=of_decide_eq_true (by first | (with_reducible assumption) | assumption);have yt:x4_1<(aQ.length:Int):=of_decide_eq_true (by first | (with_reducible assumption) | assumption);obtain⟨KN,S9,Vy⟩:=Kd.dA (Kd.bn dh.out).2.2 x4_1 yj yt;obtain rfl:jh=KN:=(by injection S9);replace yj:=eq_true yj;replace yt:=eq_true yt))
          go_roundg k1
          case measure=>have:=ql.out;omega
          case rel=>exact⟨(wrap64 (x4_1+1)),(by first | rfl | (simp;done) | (simp [*];done)),H',⟨by have:=ql.out;omega⟩,⟨by(with_reducible repeat (first | apply Kd.dQ | apply Kd.dR | apply Kd.fF));exact dh.out⟩,⟨by repeat (first | (with_reducible first | exact HB.out | apply aj | apply ah | apply au) | exact HB.out)⟩⟩
        ·rw [if_neg c20] at H
         have afJ:((cZ ByteArray.empty aQ x4_1).toList==([35]:List UInt8))=false:=beq_eq_false_iff_ne.mpr c20
         have afK:((cZ ByteArray.empty aQ x4_1).toList !=([35]:List UInt8))=true:=bne_iff_ne.mpr c20
         obtain rfl:=Option.some.inj H
         obtain⟨ahF,ahG,agV⟩:=Kd.jV dh.out
         subst agV
         have iY:0≤(x4_1:Int):=of_decide_eq_true (by first | (with_reducible assumption) | assumption)
         have iZ:x4_1<(aQ.length:Int):=of_decide_eq_true (by first | (with_reducible assumption) | assumption)
         obtain⟨jh,pG,rH⟩:=Kd.dA (Kd.bn dh.out).2.2 x4_1 iY iZ
         cases pG
         replace iY:=eq_true iY
         replace iZ:=eq_true iZ
         go_wp2_with (first | ((with_reducible refine bH (f:=176) rfl ?_);refine dS (some 17) rfl rfl Tryz.func176 (by kernel_rfl) rfl #[.string (cZ ByteArray.empty aQ x4_1), .int .u8 43] rfl (by(try simp only [List.map_toArray,List.map_cons,List.map_nil]);first | done | rfl | (simp only [List.length_drop,List.length_take];rfl)) ?_;(with_reducible refine(aI.calls k1 (cZ ByteArray.empty aQ x4_1) 43 false _ A6.out).mono ?_);rintro e w' ⟨rfl,⟨nd,rfl⟩⟩;refine⟨_,rfl,?_⟩;have qQ:0≤(x4_1:Int):=of_decide_eq_true (by first | (with_reducible assumption) | assumption);have qR:x4_1<(aQ.length:Int):=of_decide_eq_true (by first | (with_reducible assumption) | assumption);obtain⟨CW,IQ,Np⟩:=Kd.dA (Kd.bn dh.out).2.2 x4_1 qQ qR;obtain rfl:jh=CW:=(by injection IQ);replace qQ:=eq_true qQ;replace qR:=eq_true qR) | (go_at_call 176;(with_reducible refine(aI.calls k1 (cZ ByteArray.empty aQ x4_1) 35 true _ A18.out).mono ?_);rintro e w' ⟨rfl,⟨nd,rfl⟩⟩;have yj:0≤(x4_1:Int):=of_decide_eq_true (by first | (with_reducible assumption) | assumption);have yt:x4_1<(aQ.length:Int):=of_decide_eq_true (by first | (with_reducible assumption) | assumption);obtain⟨KN,S9,Vy⟩:=Kd.dA (Kd.bn dh.out).2.2 x4_1 yj yt;obtain rfl:jh=KN:=(by injection S9);replace yj:=eq_true yj;replace yt:=eq_true yt))
         go_ret
         exact⟨by first | rfl | (simp [aJ,aK]<;>rfl) | (simp [*,aJ,aK]<;>rfl),by repeat (first | (with_reducible first | exact HB.out | apply aj | apply ah | apply au) | exact HB.out)⟩
       ·replace c19:=Bool.eq_false_iff.mpr c19
        subst c19
        have H1:(aU.l0 k1 a0 aQ (wrap64 (x4_1+1)))=some r:=by rw [if_neg (show ¬(false=true) by decide)] at H;exact H
        clear H
        have H:=H1
        clear H1
        have H':=Aside0.mk H
        clear H
        obtain⟨ahH,ahI,agW⟩:=Kd.jV dh.out
        subst agW
        have iY:0≤(x4_1:Int):=of_decide_eq_true (by first | (with_reducible assumption) | assumption)
        have iZ:x4_1<(aQ.length:Int):=of_decide_eq_true (by first | (with_reducible assumption) | assumption)
        obtain⟨jh,pG,rH⟩:=Kd.dA (Kd.bn dh.out).2.2 x4_1 iY iZ
        cases pG
        replace iY:=eq_true iY
        replace iZ:=eq_true iZ
        go_wp2_with (first | ((with_reducible refine bH (f:=176) rfl ?_);refine dS (some 17) rfl rfl Tryz.func176 (by kernel_rfl) rfl #[.string (cZ ByteArray.empty aQ x4_1), .int .u8 43] rfl (by(try simp only [List.map_toArray,List.map_cons,List.map_nil]);first | done | rfl | (simp only [List.length_drop,List.length_take];rfl)) ?_;(with_reducible refine(aI.calls k1 (cZ ByteArray.empty aQ x4_1) 43 false _ A6.out).mono ?_);rintro e w' ⟨rfl,⟨nd,rfl⟩⟩;refine⟨_,rfl,?_⟩;have qQ:0≤(x4_1:Int):=of_decide_eq_true (by first | (with_reducible assumption) | assumption);have qR:x4_1<(aQ.length:Int):=of_decide_eq_true (by first | (with_reducible assumption) | assumption);obtain⟨CW,IQ,Np⟩:=Kd.dA (Kd.bn dh.out).2.2 x4_1 qQ qR;obtain rfl:jh=CW:=(by injection IQ);replace qQ:=eq_true qQ;replace qR:=eq_true qR) | (go_at_call 176;(with_reducible refine(aI.calls k1 (cZ ByteArray.empty aQ x4_1) 35 false _ A18.out).mono ?_);rintro e w' ⟨rfl,⟨nd,rfl⟩⟩))
        go_roundg k1
        case measure=>have:=ql.out;omega
        case rel=>exact⟨(wrap64 (x4_1+1)),(by first | rfl | (simp;done) | (simp [*];done)),H',⟨by have:=ql.out;omega⟩,⟨by(with_reducible repeat (first | apply Kd.dQ | apply Kd.dR | apply Kd.fF));exact dh.out⟩,⟨by repeat (first | (with_reducible first | exact HB.out | apply aj | apply ah | apply au) | exact HB.out)⟩⟩
     ·rw [if_neg c5] at H
      exact absurd H (by simp)
    ·rw [if_neg c4] at H
     have lV:decide (x4_1<(aQ.length:Int))=false:=decide_eq_false c4
     clear c4
     replace H:=Option.bind_eq_some_iff.mp H
     obtain⟨t138,aeP,H⟩:=H
     replace H:(if t138=true then (if a0.toList=([]:List UInt8) then (some false) else (some (decide ((aQ.length:Int)≤6)))) else (some false))=some r:=H
     have A26:=Aside0.mk aeP
     clear aeP
     by_cases c27:t138=true
     ·subst c27
      have H1:(if a0.toList=([]:List UInt8) then (some false) else (some (decide ((aQ.length:Int)≤6))))=some r:=by rw [if_pos rfl] at H;exact H
      clear H
      have H:=H1
      clear H1
      by_cases c28:a0.toList=([]:List UInt8)
      ·rw [if_pos c28] at H
       have afL:(a0.toList==([]:List UInt8))=true:=beq_iff_eq.mpr c28
       have afM:(a0.toList !=([]:List UInt8))=false:=bne_eq_false_iff_eq.mpr c28
       clear c28
       obtain rfl:=Option.some.inj H
       obtain⟨ahJ,ahK,agX⟩:=Kd.jV dh.out
       subst agX
       go_wp2_with (first | ((with_reducible refine bH (f:=177) rfl ?_);refine dS (some 47) rfl rfl Tryz.func177 (by kernel_rfl) rfl #[.string a0] rfl (by(try simp only [List.map_toArray,List.map_cons,List.map_nil]);first | done | rfl | (simp only [List.length_drop,List.length_take];rfl)) ?_;(with_reducible refine(fD.calls k1 a0 true _ A26.out).mono ?_);rintro e w30 ⟨rfl,hb⟩;refine⟨_,rfl,?_⟩;have dB:=Aside0.mk (Kd.jC (by(with_reducible repeat (first | apply Kd.dQ | apply Kd.dR | apply Kd.fF));exact dh.out) hb);have iW:=Aside0.mk (bM (by repeat (first | (with_reducible first | exact HB.out | apply aj | apply ah | apply au) | exact HB.out)) hb);clear dh;clear HB;have dh:=dB;have HB:=iW;clear dB iW;(try clear hb);(try clear hb2);(try clear hk);(try clear hi)))
       go_ret
       exact⟨by first | rfl | (simp [aJ,aK]<;>rfl) | (simp [*,aJ,aK]<;>rfl),by repeat (first | (with_reducible first | exact HB.out | apply aj | apply ah | apply au) | exact HB.out)⟩
      ·rw [if_neg c28] at H
       have afL:(a0.toList==([]:List UInt8))=false:=beq_eq_false_iff_ne.mpr c28
       have afM:(a0.toList !=([]:List UInt8))=true:=bne_iff_ne.mpr c28
       obtain rfl:=Option.some.inj H
       obtain⟨ahL,ahM,agY⟩:=Kd.jV dh.out
       subst agY
       go_wp2_with (first | ((with_reducible refine bH (f:=177) rfl ?_);refine dS (some 47) rfl rfl Tryz.func177 (by kernel_rfl) rfl #[.string a0] rfl (by(try simp only [List.map_toArray,List.map_cons,List.map_nil]);first | done | rfl | (simp only [List.length_drop,List.length_take];rfl)) ?_;(with_reducible refine(fD.calls k1 a0 true _ A26.out).mono ?_);rintro e w32 ⟨rfl,hb⟩;refine⟨_,rfl,?_⟩;have dB:=Aside0.mk (Kd.jC (by(with_reducible repeat (first | apply Kd.dQ | apply Kd.dR | apply Kd.fF));exact dh.out) hb);have iW:=Aside0.mk (bM (by repeat (first | (with_reducible first | exact HB.out | apply aj | apply ah | apply au) | exact HB.out)) hb);clear dh;clear HB;have dh:=dB;have HB:=iW;clear dB iW;(try clear hb);(try clear hb2);(try clear hk);(try clear hi)))
       go_ret
       exact⟨by first | rfl | (simp [aJ,aK]<;>rfl) | (simp [*,aJ,aK]<;>rfl),by repeat (first | (with_reducible first | exact HB.out | apply aj | apply ah | apply au) | exact HB.out)⟩
     ·replace c27:=Bool.eq_false_iff.mpr c27
      subst c27
      have H1:(some false)=some r:=by rw [if_neg (show ¬(false=true) by decide)] at H;exact H
      clear H
      have H:=H1
      clear H1
      obtain rfl:=Option.some.inj H
      obtain⟨ahN,ahO,agZ⟩:=Kd.jV dh.out
      subst agZ
      go_wp2_with (first | ((with_reducible refine bH (f:=177) rfl ?_);refine dS (some 47) rfl rfl Tryz.func177 (by kernel_rfl) rfl #[.string a0] rfl (by(try simp only [List.map_toArray,List.map_cons,List.map_nil]);first | done | rfl | (simp only [List.length_drop,List.length_take];rfl)) ?_;(with_reducible refine(fD.calls k1 a0 false _ A26.out).mono ?_);rintro e w34 ⟨rfl,hb⟩;refine⟨_,rfl,?_⟩;have dB:=Aside0.mk (Kd.jC (by(with_reducible repeat (first | apply Kd.dQ | apply Kd.dR | apply Kd.fF));exact dh.out) hb);have iW:=Aside0.mk (bM (by repeat (first | (with_reducible first | exact HB.out | apply aj | apply ah | apply au) | exact HB.out)) hb);clear dh;clear HB;have dh:=dB;have HB:=iW;clear dB iW;(try clear hb);(try clear hb2);(try clear hk);(try clear hi)))
      go_ret
      exact⟨by first | rfl | (simp [aJ,aK]<;>rfl) | (simp [*,aJ,aK]<;>rfl),by repeat (first | (with_reducible first | exact HB.out | apply aj | apply ah | apply au) | exact HB.out)⟩
end Go.Proofs.YtcnfgfomholheaaGreatDoor.P
