import Derived.Test.YtcnfgfomholheaaGreatDoorPx0
import Derived.Test.YtcnfgfomholheaaGreatDoorPx1
import Derived.Test.YtcnfgfomholheaaGreatDoorX12
import Derived.Test.YtcnfgfomholheaaGreatDoorX5
namespace Go.Proofs.YtcnfgfomholheaaGreatDoor.P
open Go.RowKit Go.Proofs.YtcnfgfomholheaaGreatDoor.X Go.Proofs.YtcnfgfomholheaaGreatDoorW.PrintWords Go.Proofs.YtcnfgfomholheaaGreatDoorW.PrintLast Go.Proofs.YtcnfgfomholheaaGreatDoorW.PrintMore
attribute [local go_sem] mJ mM oM oN kW kX mO mP
set_option linter.unusedVariables false
set_option linter.unusedSimpArgs false
def jv.f (a0:ByteArray) (a1:Bool):Option (Bool):=(strings_ContainsAny.f a0 (⟨#[43,35]⟩:ByteArray)).bind fun t109=>(if t109=true then (if a0.toList=([43]:List UInt8) then (some true) else (if a0.toList=([35]:List UInt8) then (some a1) else (some false))) else (some true))
set_option maxHeartbeats 8000000 in
set_option maxRecDepth 100000 in
theorem jv.calls (a0:ByteArray) (a1:Bool) (r:Bool) (w:World) (h:jv.f a0 a1=some r):
  Calls Tryz.prog 146 #[.string a0, .bool a1] w fun e w'=>e= .returned (.bool r)∧Below w.heap.size w w':=by
 have HB:=Aside0.mk (Below.refl w.heap.size w)
 have H:((strings_ContainsAny.f a0 (⟨#[43,35]⟩:ByteArray)).bind fun t109=>(if t109=true then (if a0.toList=([43]:List UInt8) then (some true) else (if a0.toList=([35]:List UInt8) then (some a1) else (some false))) else (some true)))=some r:=h
 clear h
 replace H:=Option.bind_eq_some_iff.mp H
 obtain⟨t109,A30,H⟩:=H
 replace H:(if t109=true then (if a0.toList=([43]:List UInt8) then (some true) else (if a0.toList=([35]:List UInt8) then (some a1) else (some false))) else (some true))=some r:=H
 have A3:=Aside0.mk A30
 clear A30
 by_cases c4:t109=true
 ·subst c4
  have H1:(if a0.toList=([43]:List UInt8) then (some true) else (if a0.toList=([35]:List UInt8) then (some a1) else (some false)))=some r:=by rw [if_pos rfl] at H;exact H
  clear H
  have H:=H1
  clear H1
  by_cases c5:a0.toList=([43]:List UInt8)
  ·rw [if_pos c5] at H
   have I9:(a0.toList==([43]:List UInt8))=true:=beq_iff_eq.mpr c5
   have XT:(a0.toList !=([43]:List UInt8))=false:=bne_eq_false_iff_eq.mpr c5
   clear c5
   obtain rfl:=Option.some.inj H
   go_enter Tryz.func146,Tryz.ntmps146
   go_wp2_with (first | ((with_reducible refine bT (f:=193) rfl ?_);refine fJ (some 6) rfl rfl Tryz.func193 (by kernel_rfl) rfl #[.string a0, .string (⟨#[43,35]⟩:ByteArray)] rfl (by(try simp only [List.map_toArray,List.map_cons,List.map_nil]);first | done | rfl | (simp only [List.length_drop,List.length_take];rfl)) ?_;(with_reducible refine(strings_ContainsAny.calls a0 (⟨#[43,35]⟩:ByteArray) true _ A3.out).mono ?_);rintro e w6 ⟨rfl,hb⟩;refine⟨_,rfl,?_⟩;have eX:=Aside0.mk (dF (by repeat (first | (with_reducible first | exact HB.out | apply ak | apply aj | apply au) | exact HB.out)) hb);clear HB;have HB:=eX;clear eX;(try clear hb);(try clear hb2);(try clear hk);(try clear hi)))
   go_ret
   exact⟨by first | rfl | (simp [bf,bg]<;>rfl) | (simp [*,bf,bg]<;>rfl),by repeat (first | (with_reducible first | exact HB.out | apply ak | apply aj | apply au) | exact HB.out)⟩
  ·rw [if_neg c5] at H
   have I9:(a0.toList==([43]:List UInt8))=false:=beq_eq_false_iff_ne.mpr c5
   have XT:(a0.toList !=([43]:List UInt8))=true:=bne_iff_ne.mpr c5
   by_cases c7:a0.toList=([35]:List UInt8)
   ·rw [if_pos c7] at H
    have Bz:(a0.toList==([35]:List UInt8))=true:=beq_iff_eq.mpr c7
    have aa2:(a0.toList !=([35]:List UInt8))=false:=bne_eq_false_iff_eq.mpr c7
    clear c7
    obtain rfl:=Option.some.inj H
    go_enter Tryz.func146,Tryz.ntmps146
    go_wp2_with (first | ((with_reducible refine bT (f:=193) rfl ?_);refine fJ (some 6) rfl rfl Tryz.func193 (by kernel_rfl) rfl #[.string a0, .string (⟨#[43,35]⟩:ByteArray)] rfl (by(try simp only [List.map_toArray,List.map_cons,List.map_nil]);first | done | rfl | (simp only [List.length_drop,List.length_take];rfl)) ?_;(with_reducible refine(strings_ContainsAny.calls a0 (⟨#[43,35]⟩:ByteArray) true _ A3.out).mono ?_);rintro e w8 ⟨rfl,hb⟩;refine⟨_,rfl,?_⟩;have eX:=Aside0.mk (dF (by repeat (first | (with_reducible first | exact HB.out | apply ak | apply aj | apply au) | exact HB.out)) hb);clear HB;have HB:=eX;clear eX;(try clear hb);(try clear hb2);(try clear hk);(try clear hi)))
    go_ret
    exact⟨by first | rfl | (simp [bf,bg]<;>rfl) | (simp [*,bf,bg]<;>rfl),by repeat (first | (with_reducible first | exact HB.out | apply ak | apply aj | apply au) | exact HB.out)⟩
   ·rw [if_neg c7] at H
    have Bz:(a0.toList==([35]:List UInt8))=false:=beq_eq_false_iff_ne.mpr c7
    have aa2:(a0.toList !=([35]:List UInt8))=true:=bne_iff_ne.mpr c7
    obtain rfl:=Option.some.inj H
    go_enter Tryz.func146,Tryz.ntmps146
    go_wp2_with (first | ((with_reducible refine bT (f:=193) rfl ?_);refine fJ (some 6) rfl rfl Tryz.func193 (by kernel_rfl) rfl #[.string a0, .string (⟨#[43,35]⟩:ByteArray)] rfl (by(try simp only [List.map_toArray,List.map_cons,List.map_nil]);first | done | rfl | (simp only [List.length_drop,List.length_take];rfl)) ?_;(with_reducible refine(strings_ContainsAny.calls a0 (⟨#[43,35]⟩:ByteArray) true _ A3.out).mono ?_);rintro e w9 ⟨rfl,hb⟩;refine⟨_,rfl,?_⟩;have eX:=Aside0.mk (dF (by repeat (first | (with_reducible first | exact HB.out | apply ak | apply aj | apply au) | exact HB.out)) hb);clear HB;have HB:=eX;clear eX;(try clear hb);(try clear hb2);(try clear hk);(try clear hi)))
    go_ret
    exact⟨by first | rfl | (simp [bf,bg]<;>rfl) | (simp [*,bf,bg]<;>rfl),by repeat (first | (with_reducible first | exact HB.out | apply ak | apply aj | apply au) | exact HB.out)⟩
 ·replace c4:=Bool.eq_false_iff.mpr c4
  subst c4
  have H1:(some true)=some r:=by rw [if_neg (show ¬(false=true) by decide)] at H;exact H
  clear H
  have H:=H1
  clear H1
  obtain rfl:=Option.some.inj H
  go_enter Tryz.func146,Tryz.ntmps146
  go_wp2_with (first | ((with_reducible refine bT (f:=193) rfl ?_);refine fJ (some 6) rfl rfl Tryz.func193 (by kernel_rfl) rfl #[.string a0, .string (⟨#[43,35]⟩:ByteArray)] rfl (by(try simp only [List.map_toArray,List.map_cons,List.map_nil]);first | done | rfl | (simp only [List.length_drop,List.length_take];rfl)) ?_;(with_reducible refine(strings_ContainsAny.calls a0 (⟨#[43,35]⟩:ByteArray) false _ A3.out).mono ?_);rintro e w10 ⟨rfl,hb⟩;refine⟨_,rfl,?_⟩;have eX:=Aside0.mk (dF (by repeat (first | (with_reducible first | exact HB.out | apply ak | apply aj | apply au) | exact HB.out)) hb);clear HB;have HB:=eX;clear eX;(try clear hb);(try clear hb2);(try clear hk);(try clear hi)))
  go_ret
  exact⟨by first | rfl | (simp [bf,bg]<;>rfl) | (simp [*,bf,bg]<;>rfl),by repeat (first | (with_reducible first | exact HB.out | apply ak | apply aj | apply au) | exact HB.out)⟩
def dn.l0:Nat→ByteArray→List ByteArray→List ByteArray→Int→Int→Option (Bool)
 | 0,_,_,_,_,_=>none
 | k+1,x0,x3,x8,x9,x10=>if x10<x9 then (if 0≤x10 then (if x10<(x8.length:Int) then ((jv.f (bM ByteArray.empty x8 x10) (x10==(wrap64 ((x3.length:Int) - 1)))).bind fun TF=>(if TF=true then (dn.l0 k x0 x3 x8 x9 (wrap64 (x10+1))) else (some false))) else (none)) else (none)) else ((iT.f x0).bind fun TG=>(if TG=true then (if x0.toList=([]:List UInt8) then (some false) else (some (decide ((x3.length:Int)≤6)))) else (some false)))
def dn.f (k:Nat) (a0:ByteArray):Option (Bool):=(jH.f a0).bind fun fA=>(dn.l0 k a0 fA fA (fA.length:Int) 0)
set_option maxHeartbeats 8000000 in
set_option maxRecDepth 100000 in
theorem dn.calls (k:Nat) (a0:ByteArray) (r:Bool) (w:World) (hT:Tabs w) (h:dn.f k a0=some r):
  Calls Tryz.prog 77 #[.string a0] w fun e w'=>e= .returned (.bool r)∧Below w.heap.size w w':=by
 have HT:=Aside0.mk hT
 clear hT
 have HB:=Aside0.mk (Below.refl w.heap.size w)
 have H:((jH.f a0).bind fun fA=>(dn.l0 k a0 fA fA (fA.length:Int) 0))=some r:=h
 clear h
 replace H:=Option.bind_eq_some_iff.mp H
 obtain⟨fA,vN,H⟩:=H
 replace H:(dn.l0 k a0 fA fA (fA.length:Int) 0)=some r:=H
 have A2:=Aside0.mk vN
 clear vN
 have H':=Aside0.mk H
 clear H
 go_enter Tryz.func77,Tryz.ntmps77
 go_wp2_with (first | ((with_reducible refine bT (f:=101) rfl ?_);refine fJ (some 7) rfl rfl Tryz.func101 (by kernel_rfl) rfl #[.string a0] rfl (by(try simp only [List.map_toArray,List.map_cons,List.map_nil]);first | done | rfl | (simp only [List.length_drop,List.length_take];rfl)) ?_;(with_reducible refine(jH.calls a0 fA _ ?pR A2.out).mono ?_);(case pR=>exact Tabs.below HT.out (by repeat (first | (with_reducible first | exact HB.out | apply ak | apply aj | apply au) | exact HB.out)));rintro e w3 ⟨adW,rfl,ho0,hb⟩;refine⟨_,rfl,?_⟩;have eX:=Aside0.mk (Kd.wK ho0 (nJ (by repeat (first | (with_reducible first | exact HB.out | apply ak | apply aj | apply au) | exact HB.out))));have iK:=Aside0.mk (dF (by repeat (first | (with_reducible first | exact HB.out | apply ak | apply aj | apply au) | exact HB.out)) hb);clear HB;have TJ:=eX;have HB:=iK;clear eX iK;(try clear hb);(try clear hb2);(try clear hk);(try clear hi);(try clear ho0);obtain⟨Ao4,co4,eo4⟩:=Kd.jJ TJ.out;subst eo4))
 go_loopg [10] k (fun kq v10 w'=>∃(x10_1:Int),v10= .int .i64 x10_1∧Aside0 (dn.l0 kq a0 fA fA (fA.length:Int) x10_1=some r)∧Aside0 (kq≤k)∧Aside0 (Kd.R Kd.string 9 w' w.heap.size (fun _=>True) (.slice Ao4 fA.length co4) fA)∧Aside0 (Kd.R Kd.string 9 w' w.heap.size (fun _=>True) (.slice Ao4 fA.length co4) fA)∧Aside0 (Below w.heap.size w w'))
 case atStart=>exact⟨(0),(by first | rfl | (simp;done) | (simp [*];done)),H',⟨Nat.le_refl _⟩,⟨by(with_reducible repeat (first | apply Kd.dK | apply Kd.dL | apply Kd.dW));exact TJ.out⟩,⟨by(with_reducible repeat (first | apply Kd.dK | apply Kd.dL | apply Kd.dW));exact TJ.out⟩,⟨by repeat (first | (with_reducible first | exact HB.out | apply ak | apply aj | apply au) | exact HB.out)⟩⟩
 case round=>
  clear H'
  try clear c1
  try clear p2
  obtain⟨x10_1,rfl,HA,nT,bQ,lY,HB⟩:=hrel
  cases gk with
  | zero=>exact absurd HA.out (by simp [dn.l0])
  | succ k1=>
    have H:=HA.out
    clear HA
    simp only [dn.l0] at H
    by_cases c5:x10_1<(fA.length:Int)
    ·rw [if_pos c5] at H
     have I9:decide (x10_1<(fA.length:Int))=true:=decide_eq_true c5
     clear c5
     by_cases c6:0≤x10_1
     ·rw [if_pos c6] at H
      have BA:decide (0≤x10_1)=true:=decide_eq_true c6
      clear c6
      by_cases c7:x10_1<(fA.length:Int)
      ·rw [if_pos c7] at H
       have Bz:decide (x10_1<(fA.length:Int))=true:=decide_eq_true c7
       clear c7
       replace H:=Option.bind_eq_some_iff.mp H
       obtain⟨TF,A80,H⟩:=H
       replace H:(if TF=true then (dn.l0 k1 a0 fA fA (fA.length:Int) (wrap64 (x10_1+1))) else (some false))=some r:=H
       have A8:=Aside0.mk A80
       clear A80
       by_cases c9:TF=true
       ·subst c9
        have H1:(dn.l0 k1 a0 fA fA (fA.length:Int) (wrap64 (x10_1+1)))=some r:=by rw [if_pos rfl] at H;exact H
        clear H
        have H:=H1
        clear H1
        have H':=Aside0.mk H
        clear H
        have EU:0≤(x10_1:Int):=of_decide_eq_true (by first | (with_reducible assumption) | assumption)
        have EW:x10_1<(fA.length:Int):=of_decide_eq_true (by first | (with_reducible assumption) | assumption)
        obtain⟨ab5,XU,ZA⟩:=Kd.bU (Kd.bP lY.out).2.2 x10_1 EU EW
        cases XU
        replace EU:=eq_true EU
        replace EW:=eq_true EW
        go_wp2_with (first | ((with_reducible refine bT (f:=146) rfl ?_);refine fJ (some 21) rfl rfl Tryz.func146 (by kernel_rfl) rfl #[.string (bM ByteArray.empty fA x10_1), .bool (x10_1==(wrap64 ((fA.length:Int) - 1)))] rfl (by(try simp only [List.map_toArray,List.map_cons,List.map_nil]);first | done | rfl | (simp only [List.length_drop,List.length_take];rfl)) ?_;(with_reducible refine(jv.calls (bM ByteArray.empty fA x10_1) (x10_1==(wrap64 ((fA.length:Int) - 1))) true _ A8.out).mono ?_);rintro e w10 ⟨rfl,hb⟩;refine⟨_,rfl,?_⟩;have eX:=Aside0.mk (Kd.iG (by(with_reducible repeat (first | apply Kd.dK | apply Kd.dL | apply Kd.dW));exact bQ.out) hb);have iK:=Aside0.mk (Kd.iG (by(with_reducible repeat (first | apply Kd.dK | apply Kd.dL | apply Kd.dW));exact lY.out) hb);have vO:=Aside0.mk (dF (by repeat (first | (with_reducible first | exact HB.out | apply ak | apply aj | apply au) | exact HB.out)) hb);clear bQ;clear lY;clear HB;have bQ:=eX;have lY:=iK;have HB:=vO;clear eX iK vO;(try clear hb);(try clear hb2);(try clear hk);(try clear hi)))
        go_roundg k1
        case measure=>have:=nT.out;omega
        case rel=>exact⟨(wrap64 (x10_1+1)),(by first | rfl | (simp;done) | (simp [*];done)),H',⟨by have:=nT.out;omega⟩,⟨by(with_reducible repeat (first | apply Kd.dK | apply Kd.dL | apply Kd.dW));exact bQ.out⟩,⟨by(with_reducible repeat (first | apply Kd.dK | apply Kd.dL | apply Kd.dW));exact lY.out⟩,⟨by repeat (first | (with_reducible first | exact HB.out | apply ak | apply aj | apply au) | exact HB.out)⟩⟩
       ·replace c9:=Bool.eq_false_iff.mpr c9
        subst c9
        have H1:(some false)=some r:=by rw [if_neg (show ¬(false=true) by decide)] at H;exact H
        clear H
        have H:=H1
        clear H1
        obtain rfl:=Option.some.inj H
        have EU:0≤(x10_1:Int):=of_decide_eq_true (by first | (with_reducible assumption) | assumption)
        have EW:x10_1<(fA.length:Int):=of_decide_eq_true (by first | (with_reducible assumption) | assumption)
        obtain⟨ab5,XU,ZA⟩:=Kd.bU (Kd.bP lY.out).2.2 x10_1 EU EW
        cases XU
        replace EU:=eq_true EU
        replace EW:=eq_true EW
        go_wp2_with (first | ((with_reducible refine bT (f:=146) rfl ?_);refine fJ (some 21) rfl rfl Tryz.func146 (by kernel_rfl) rfl #[.string (bM ByteArray.empty fA x10_1), .bool (x10_1==(wrap64 ((fA.length:Int) - 1)))] rfl (by(try simp only [List.map_toArray,List.map_cons,List.map_nil]);first | done | rfl | (simp only [List.length_drop,List.length_take];rfl)) ?_;(with_reducible refine(jv.calls (bM ByteArray.empty fA x10_1) (x10_1==(wrap64 ((fA.length:Int) - 1))) false _ A8.out).mono ?_);rintro e w11 ⟨rfl,hb⟩;refine⟨_,rfl,?_⟩;have eX:=Aside0.mk (Kd.iG (by(with_reducible repeat (first | apply Kd.dK | apply Kd.dL | apply Kd.dW));exact bQ.out) hb);have iK:=Aside0.mk (Kd.iG (by(with_reducible repeat (first | apply Kd.dK | apply Kd.dL | apply Kd.dW));exact lY.out) hb);have vO:=Aside0.mk (dF (by repeat (first | (with_reducible first | exact HB.out | apply ak | apply aj | apply au) | exact HB.out)) hb);clear bQ;clear lY;clear HB;have bQ:=eX;have lY:=iK;have HB:=vO;clear eX iK vO;(try clear hb);(try clear hb2);(try clear hk);(try clear hi)))
        go_ret
        exact⟨by first | rfl | (simp [bf,bg]<;>rfl) | (simp [*,bf,bg]<;>rfl),by repeat (first | (with_reducible first | exact HB.out | apply ak | apply aj | apply au) | exact HB.out)⟩
      ·rw [if_neg c7] at H
       exact absurd H (by simp)
     ·rw [if_neg c6] at H
      exact absurd H (by simp)
    ·rw [if_neg c5] at H
     have I9:decide (x10_1<(fA.length:Int))=false:=decide_eq_false c5
     clear c5
     replace H:=Option.bind_eq_some_iff.mp H
     obtain⟨TG,aa3,H⟩:=H
     replace H:(if TG=true then (if a0.toList=([]:List UInt8) then (some false) else (some (decide ((fA.length:Int)≤6)))) else (some false))=some r:=H
     have A12:=Aside0.mk aa3
     clear aa3
     by_cases c13:TG=true
     ·subst c13
      have H1:(if a0.toList=([]:List UInt8) then (some false) else (some (decide ((fA.length:Int)≤6))))=some r:=by rw [if_pos rfl] at H;exact H
      clear H
      have H:=H1
      clear H1
      by_cases c14:a0.toList=([]:List UInt8)
      ·rw [if_pos c14] at H
       have nY:(a0.toList==([]:List UInt8))=true:=beq_iff_eq.mpr c14
       have TL:(a0.toList !=([]:List UInt8))=false:=bne_eq_false_iff_eq.mpr c14
       clear c14
       obtain rfl:=Option.some.inj H
       go_wp2_with (first | ((with_reducible refine bT (f:=147) rfl ?_);refine fJ (some 25) rfl rfl Tryz.func147 (by kernel_rfl) rfl #[.string a0] rfl (by(try simp only [List.map_toArray,List.map_cons,List.map_nil]);first | done | rfl | (simp only [List.length_drop,List.length_take];rfl)) ?_;(with_reducible refine(iT.calls a0 true _ ?pR A12.out).mono ?_);(case pR=>exact Tabs.below HT.out (by repeat (first | (with_reducible first | exact HB.out | apply ak | apply aj | apply au) | exact HB.out)));rintro e w15 ⟨rfl,hb⟩;refine⟨_,rfl,?_⟩;have eX:=Aside0.mk (Kd.iG (by(with_reducible repeat (first | apply Kd.dK | apply Kd.dL | apply Kd.dW));exact bQ.out) hb);have iK:=Aside0.mk (Kd.iG (by(with_reducible repeat (first | apply Kd.dK | apply Kd.dL | apply Kd.dW));exact lY.out) hb);have vO:=Aside0.mk (dF (by repeat (first | (with_reducible first | exact HB.out | apply ak | apply aj | apply au) | exact HB.out)) hb);clear bQ;clear lY;clear HB;have bQ:=eX;have lY:=iK;have HB:=vO;clear eX iK vO;(try clear hb);(try clear hb2);(try clear hk);(try clear hi)))
       go_ret
       exact⟨by first | rfl | (simp [bf,bg]<;>rfl) | (simp [*,bf,bg]<;>rfl),by repeat (first | (with_reducible first | exact HB.out | apply ak | apply aj | apply au) | exact HB.out)⟩
      ·rw [if_neg c14] at H
       have nY:(a0.toList==([]:List UInt8))=false:=beq_eq_false_iff_ne.mpr c14
       have TL:(a0.toList !=([]:List UInt8))=true:=bne_iff_ne.mpr c14
       obtain rfl:=Option.some.inj H
       go_wp2_with (first | ((with_reducible refine bT (f:=147) rfl ?_);refine fJ (some 25) rfl rfl Tryz.func147 (by kernel_rfl) rfl #[.string a0] rfl (by(try simp only [List.map_toArray,List.map_cons,List.map_nil]);first | done | rfl | (simp only [List.length_drop,List.length_take];rfl)) ?_;(with_reducible refine(iT.calls a0 true _ ?pR A12.out).mono ?_);(case pR=>exact Tabs.below HT.out (by repeat (first | (with_reducible first | exact HB.out | apply ak | apply aj | apply au) | exact HB.out)));rintro e w16 ⟨rfl,hb⟩;refine⟨_,rfl,?_⟩;have eX:=Aside0.mk (Kd.iG (by(with_reducible repeat (first | apply Kd.dK | apply Kd.dL | apply Kd.dW));exact bQ.out) hb);have iK:=Aside0.mk (Kd.iG (by(with_reducible repeat (first | apply Kd.dK | apply Kd.dL | apply Kd.dW));exact lY.out) hb);have vO:=Aside0.mk (dF (by repeat (first | (with_reducible first | exact HB.out | apply ak | apply aj | apply au) | exact HB.out)) hb);clear bQ;clear lY;clear HB;have bQ:=eX;have lY:=iK;have HB:=vO;clear eX iK vO;(try clear hb);(try clear hb2);(try clear hk);(try clear hi)))
       go_ret
       exact⟨by first | rfl | (simp [bf,bg]<;>rfl) | (simp [*,bf,bg]<;>rfl),by repeat (first | (with_reducible first | exact HB.out | apply ak | apply aj | apply au) | exact HB.out)⟩
     ·replace c13:=Bool.eq_false_iff.mpr c13
      subst c13
      have H1:(some false)=some r:=by rw [if_neg (show ¬(false=true) by decide)] at H;exact H
      clear H
      have H:=H1
      clear H1
      obtain rfl:=Option.some.inj H
      go_wp2_with (first | ((with_reducible refine bT (f:=147) rfl ?_);refine fJ (some 25) rfl rfl Tryz.func147 (by kernel_rfl) rfl #[.string a0] rfl (by(try simp only [List.map_toArray,List.map_cons,List.map_nil]);first | done | rfl | (simp only [List.length_drop,List.length_take];rfl)) ?_;(with_reducible refine(iT.calls a0 false _ ?pR A12.out).mono ?_);(case pR=>exact Tabs.below HT.out (by repeat (first | (with_reducible first | exact HB.out | apply ak | apply aj | apply au) | exact HB.out)));rintro e w17 ⟨rfl,hb⟩;refine⟨_,rfl,?_⟩;have eX:=Aside0.mk (Kd.iG (by(with_reducible repeat (first | apply Kd.dK | apply Kd.dL | apply Kd.dW));exact bQ.out) hb);have iK:=Aside0.mk (Kd.iG (by(with_reducible repeat (first | apply Kd.dK | apply Kd.dL | apply Kd.dW));exact lY.out) hb);have vO:=Aside0.mk (dF (by repeat (first | (with_reducible first | exact HB.out | apply ak | apply aj | apply au) | exact HB.out)) hb);clear bQ;clear lY;clear HB;have bQ:=eX;have lY:=iK;have HB:=vO;clear eX iK vO;(try clear hb);(try clear hb2);(try clear hk);(try clear hi)))
      go_ret
      exact⟨by first | rfl | (simp [bf,bg]<;>rfl) | (simp [*,bf,bg]<;>rfl),by repeat (first | (with_reducible first | exact HB.out | apply ak | apply aj | apply au) | exact HB.out)⟩
def bZ.l0:Nat→ByteArray→List ByteArray→Int→Int→Option (List ByteArray)
 | 0,_,_,_,_=>none
 | k+1,x0,x3,x4,x5=>if x5≤(x0.size:Int) then (if x5=(x0.size:Int) then (if 0≤x4 then (if x4≤x5 then (if x3.length<8796093022208 then (bZ.l0 k x0 (x3++[x0.extract (x4:Int).toNat (x5:Int).toNat]) (wrap64 (x5+1)) (wrap64 (x5+1))) else (none)) else (none)) else (none)) else (if 0≤x5 then (if x5<(x0.size:Int) then (if (bt x0 x5)=47 then (if 0≤x4 then (if x4≤x5 then (if x3.length<8796093022208 then (bZ.l0 k x0 (x3++[x0.extract (x4:Int).toNat (x5:Int).toNat]) (wrap64 (x5+1)) (wrap64 (x5+1))) else (none)) else (none)) else (none)) else (bZ.l0 k x0 x3 x4 (wrap64 (x5+1)))) else (none)) else (none))) else (some x3)
def bZ.f (k:Nat) (a0:ByteArray):Option (List ByteArray):=bZ.l0 k a0 (([]:List ByteArray)) 0 0
set_option maxHeartbeats 8000000 in
set_option maxRecDepth 100000 in
theorem bZ.calls (k:Nat) (a0:ByteArray) (r:List ByteArray) (w:World) (h:bZ.f k a0=some r):
  Calls Tryz.prog 108 #[.string a0] w fun e w'=>∃zO:Value,e= .returned (zO)∧Kd.R Kd.string 9 w' w.heap.size (fun _=>True) zO r∧Below w.heap.size w w':=by
 have HB:=Aside0.mk (Below.refl w.heap.size w)
 have H:(bZ.l0 k a0 (([]:List ByteArray)) 0 0)=some r:=h
 clear h
 obtain⟨aa4,Hg⟩:∃y_:List ByteArray,y_=(([]:List ByteArray)):=⟨_,rfl⟩
 replace H:(bZ.l0 k a0 aa4 0 0)=some r:=by first | (rw [Hg];with_reducible exact H) | (have BD:=(Option.bind_some _ _).symm.trans H;rw [Hg];with_reducible exact BD) | (have BD:=(Option.bind_some _ _).symm.trans H;with_reducible exact BD) | with_reducible exact H | (rw [Hg];exact H) | exact H
 have YE:=Aside0.mk Hg
 clear Hg
 have H':=Aside0.mk H
 clear H
 go_enter Tryz.func108,Tryz.ntmps108
 go_wp2_with (first | ((with_reducible refine Eb (N:=6) rfl ?_);refine Kd.abx Kd.string _ 9 ?hg (N:=6) ?hd (xs:=([]:List ByteArray)) (inner:=[]) (ok:=fun _=>True) (lZ:=fun _=>True) ?hr ?hp (fun _ hk=>hk) trivial (Below.refl _ _) (Nat.le_refl _) (by simp) ?_;(case hd=>rfl);(case hg=>rfl);(case hr=>first | (go_simp;done) | (go_simp;rfl));(case hp=>exact(cu.none _ _));intro v117 w2 ho3 hb hg_ ab6;clear hg_ ab6;(first | rw [←YE.out] at ho3 | (simp only [Int.reduceToNat] at ho3;rw [←YE.out] at ho3));have eX:=Aside0.mk (Kd.wK ho3 (nJ (by repeat (first | (with_reducible first | exact HB.out | apply ak | apply aj | apply au) | exact HB.out))));have iK:=Aside0.mk (dF (by repeat (first | (with_reducible first | exact HB.out | apply ak | apply aj | apply au) | exact HB.out)) hb);clear HB;have ab7:=eX;have HB:=iK;clear eX iK;clear hb ho3))
 go_loopg [3,4,5] k (fun kq v3 v4 v5 w'=>∃(x3_1:List ByteArray) (x4_1:Int) (x5_1:Int),v4= .int .i64 x4_1∧v5= .int .i64 x5_1∧Aside0 (bZ.l0 kq a0 x3_1 x4_1 x5_1=some r)∧Aside0 (kq≤k)∧Aside0 (Kd.R Kd.string 9 w' w.heap.size (fun _=>True) v3 x3_1)∧Aside0 (Below w.heap.size w w'))
 case atStart=>exact⟨(aa4),(0),(0),(by first | rfl | (simp;done) | (simp [*];done)),(by first | rfl | (simp;done) | (simp [*];done)),H',⟨Nat.le_refl _⟩,⟨by(with_reducible repeat (first | apply Kd.dK | apply Kd.dL | apply Kd.dW));exact ab7.out⟩,⟨by repeat (first | (with_reducible first | exact HB.out | apply ak | apply aj | apply au) | exact HB.out)⟩⟩
 case round=>
  clear H'
  try clear c1
  try clear p2
  obtain⟨x3_1,x4_1,x5_1,rfl,rfl,HA,nT,bQ,HB⟩:=hrel
  cases gk with
  | zero=>exact absurd HA.out (by simp [bZ.l0])
  | succ k1=>
    have H:=HA.out
    clear HA
    simp only [bZ.l0] at H
    by_cases c4:x5_1≤(a0.size:Int)
    ·rw [if_pos c4] at H
     have ny:decide (x5_1≤(a0.size:Int))=true:=decide_eq_true c4
     clear c4
     by_cases c5:x5_1=(a0.size:Int)
     ·rw [if_pos c5] at H
      have I9:(x5_1==(a0.size:Int))=true:=beq_iff_eq.mpr c5
      have XT:(x5_1 !=(a0.size:Int))=false:=bne_eq_false_iff_eq.mpr c5
      clear c5
      by_cases c6:0≤x4_1
      ·rw [if_pos c6] at H
       have BA:=eq_true c6
       have aa5:decide (0≤x4_1)=true:=decide_eq_true c6
       clear c6
       by_cases c7:x4_1≤x5_1
       ·rw [if_pos c7] at H
        have Bz:=eq_true c7
        have aa2:decide (x4_1≤x5_1)=true:=decide_eq_true c7
        clear c7
        have BF:=eq_true (of_decide_eq_true (by first | (with_reducible assumption) | assumption):x5_1≤(a0.size:Int))
        by_cases c9:x3_1.length<8796093022208
        ·rw [if_pos c9] at H
         have adb:=Aside0.mk c9
         clear c9
         obtain⟨aa6,Hl⟩:∃y_:List ByteArray,y_=(x3_1++[a0.extract (x4_1:Int).toNat (x5_1:Int).toNat]):=⟨_,rfl⟩
         replace H:(bZ.l0 k1 a0 aa6 (wrap64 (x5_1+1)) (wrap64 (x5_1+1)))=some r:=by first | (rw [Hl];with_reducible exact H) | (have BD:=(Option.bind_some _ _).symm.trans H;rw [Hl];with_reducible exact BD) | (have BD:=(Option.bind_some _ _).symm.trans H;with_reducible exact BD) | with_reducible exact H | (rw [Hl];exact H) | exact H
         have ab8:=Aside0.mk Hl
         clear Hl
         have H':=Aside0.mk H
         clear H
         go_wp2_with (first | ((with_reducible refine zx (b:= .append) (xs:=#[.tmp 23, .tmp 28]) rfl ?_);at_builtin;refine Kd.LG Kd.string (w0:=w) w.heap.size rfl (.tmp 23) (.tmp 28) 22 9 (.string ⟨#[]⟩) 16 rfl Tryz.underlying22 info9 rfl (by decide) (by omega) u3 x3_1 (a0.extract (x4_1:Int).toNat (x5_1:Int).toNat) [.string (a0.extract (x4_1:Int).toNat (x5_1:Int).toNat)] (fun _=>True) (fun _=>False) rfl rfl ?aP (fun _ hk=>hk.elim) ?aF ?aO ?aB ?aS ?aL ?_;(case aP=>exact rfl);(case aB=>exact(by repeat (first | (with_reducible first | exact HB.out | apply ak | apply aj | apply au) | exact HB.out)));(case aF=>exact(fun _ _=>trivial));(case aO=>exact(by(with_reducible repeat (first | apply Kd.dK | apply Kd.dL | apply Kd.dW));exact bQ.out));(case aS=>exact(nJ (by repeat (first | (with_reducible first | exact HB.out | apply ak | apply aj | apply au) | exact HB.out))));(case aL=>have:=adb.out;omega);intro adX w10 ho hb hg hat;rw [←ab8.out] at ho;have eX:=Aside0.mk (hb);have iK:=Aside0.mk (ho);clear HB;clear bQ;have HB:=eX;have ab9:=iK;clear eX iK;clear ho hb hg hat))
         go_roundg k1
         case measure=>have:=nT.out;omega
         case rel=>exact⟨(aa6),(wrap64 (x5_1+1)),(wrap64 (x5_1+1)),(by first | rfl | (simp;done) | (simp [*];done)),(by first | rfl | (simp;done) | (simp [*];done)),H',⟨by have:=nT.out;omega⟩,⟨by(with_reducible repeat (first | apply Kd.dK | apply Kd.dL | apply Kd.dW));exact ab9.out⟩,⟨by repeat (first | (with_reducible first | exact HB.out | apply ak | apply aj | apply au) | exact HB.out)⟩⟩
        ·rw [if_neg c9] at H
         exact absurd H (by simp)
       ·rw [if_neg c7] at H
        exact absurd H (by simp)
      ·rw [if_neg c6] at H
       exact absurd H (by simp)
     ·rw [if_neg c5] at H
      have I9:(x5_1==(a0.size:Int))=false:=beq_eq_false_iff_ne.mpr c5
      have XT:(x5_1 !=(a0.size:Int))=true:=bne_iff_ne.mpr c5
      by_cases c11:0≤x5_1
      ·rw [if_pos c11] at H
       have nZ:decide (0≤x5_1)=true:=decide_eq_true c11
       clear c11
       by_cases c12:x5_1<(a0.size:Int)
       ·rw [if_pos c12] at H
        have YF:decide (x5_1<(a0.size:Int))=true:=decide_eq_true c12
        clear c12
        by_cases c14:(bt a0 x5_1)=47
        ·rw [if_pos c14] at H
         have nY:((bt a0 x5_1)==47)=true:=beq_iff_eq.mpr c14
         have TL:((bt a0 x5_1) !=47)=false:=bne_eq_false_iff_eq.mpr c14
         clear c14
         by_cases c15:0≤x4_1
         ·rw [if_pos c15] at H
          have adL:=eq_true c15
          have adM:decide (0≤x4_1)=true:=decide_eq_true c15
          clear c15
          by_cases c16:x4_1≤x5_1
          ·rw [if_pos c16] at H
           have Lj:=eq_true c16
           have adN:decide (x4_1≤x5_1)=true:=decide_eq_true c16
           clear c16
           have Ll:=eq_true (of_decide_eq_true (by first | (with_reducible assumption) | assumption):x5_1≤(a0.size:Int))
           by_cases c18:x3_1.length<8796093022208
           ·rw [if_pos c18] at H
            have acd:=Aside0.mk c18
            clear c18
            obtain⟨aa7,Ho⟩:∃y_:List ByteArray,y_=(x3_1++[a0.extract (x4_1:Int).toNat (x5_1:Int).toNat]):=⟨_,rfl⟩
            replace H:(bZ.l0 k1 a0 aa7 (wrap64 (x5_1+1)) (wrap64 (x5_1+1)))=some r:=by first | (rw [Ho];with_reducible exact H) | (have BD:=(Option.bind_some _ _).symm.trans H;rw [Ho];with_reducible exact BD) | (have BD:=(Option.bind_some _ _).symm.trans H;with_reducible exact BD) | with_reducible exact H | (rw [Ho];exact H) | exact H
            have ace:=Aside0.mk Ho
            clear Ho
            have H':=Aside0.mk H
            clear H
            have p13:0≤(x5_1:Int):=of_decide_eq_true (by first | (with_reducible assumption) | assumption)
            have q13:x5_1<(a0.size:Int):=of_decide_eq_true (by first | (with_reducible assumption) | assumption)
            have ade:=E8 a0 x5_1
            replace p13:=eq_true p13
            replace q13:=eq_true q13
            go_wp2_with (first | ((with_reducible refine zx (b:= .append) (xs:=#[.tmp 23, .tmp 28]) rfl ?_);at_builtin;refine Kd.LG Kd.string (w0:=w) w.heap.size rfl (.tmp 23) (.tmp 28) 22 9 (.string ⟨#[]⟩) 16 rfl Tryz.underlying22 info9 rfl (by decide) (by omega) u3 x3_1 (a0.extract (x4_1:Int).toNat (x5_1:Int).toNat) [.string (a0.extract (x4_1:Int).toNat (x5_1:Int).toNat)] (fun _=>True) (fun _=>False) rfl rfl ?aP (fun _ hk=>hk.elim) ?aF ?aO ?aB ?aS ?aL ?_;(case aP=>exact rfl);(case aB=>exact(by repeat (first | (with_reducible first | exact HB.out | apply ak | apply aj | apply au) | exact HB.out)));(case aF=>exact(fun _ _=>trivial));(case aO=>exact(by(with_reducible repeat (first | apply Kd.dK | apply Kd.dL | apply Kd.dW));exact bQ.out));(case aS=>exact(nJ (by repeat (first | (with_reducible first | exact HB.out | apply ak | apply aj | apply au) | exact HB.out))));(case aL=>have:=acd.out;omega);intro adY w19 ho hb hg hat;rw [←ace.out] at ho;have eX:=Aside0.mk (hb);have iK:=Aside0.mk (ho);clear HB;clear bQ;have HB:=eX;have acf:=iK;clear eX iK;clear ho hb hg hat))
            go_roundg k1
            case measure=>have:=nT.out;omega
            case rel=>exact⟨(aa7),(wrap64 (x5_1+1)),(wrap64 (x5_1+1)),(by first | rfl | (simp;done) | (simp [*];done)),(by first | rfl | (simp;done) | (simp [*];done)),H',⟨by have:=nT.out;omega⟩,⟨by(with_reducible repeat (first | apply Kd.dK | apply Kd.dL | apply Kd.dW));exact acf.out⟩,⟨by repeat (first | (with_reducible first | exact HB.out | apply ak | apply aj | apply au) | exact HB.out)⟩⟩
           ·rw [if_neg c18] at H
            exact absurd H (by simp)
          ·rw [if_neg c16] at H
           exact absurd H (by simp)
         ·rw [if_neg c15] at H
          exact absurd H (by simp)
        ·rw [if_neg c14] at H
         have nY:((bt a0 x5_1)==47)=false:=beq_eq_false_iff_ne.mpr c14
         have TL:((bt a0 x5_1) !=47)=true:=bne_iff_ne.mpr c14
         have H':=Aside0.mk H
         clear H
         have p13:0≤(x5_1:Int):=of_decide_eq_true (by first | (with_reducible assumption) | assumption)
         have q13:x5_1<(a0.size:Int):=of_decide_eq_true (by first | (with_reducible assumption) | assumption)
         have ade:=E8 a0 x5_1
         replace p13:=eq_true p13
         replace q13:=eq_true q13
         go_wp2
         go_roundg k1
         case measure=>have:=nT.out;omega
         case rel=>exact⟨(x3_1),(x4_1),(wrap64 (x5_1+1)),(by first | rfl | (simp;done) | (simp [*];done)),(by first | rfl | (simp;done) | (simp [*];done)),H',⟨by have:=nT.out;omega⟩,⟨by(with_reducible repeat (first | apply Kd.dK | apply Kd.dL | apply Kd.dW));exact bQ.out⟩,⟨by repeat (first | (with_reducible first | exact HB.out | apply ak | apply aj | apply au) | exact HB.out)⟩⟩
       ·rw [if_neg c12] at H
        exact absurd H (by simp)
      ·rw [if_neg c11] at H
       exact absurd H (by simp)
    ·rw [if_neg c4] at H
     have ny:decide (x5_1≤(a0.size:Int))=false:=decide_eq_false c4
     clear c4
     obtain rfl:=Option.some.inj H
     go_wp2
     go_ret
     exact⟨_,by first | rfl | (simp [bf,bg]<;>rfl) | (simp [*,bf,bg]<;>rfl),by(with_reducible repeat (first | apply Kd.dK | apply Kd.dL | apply Kd.dW));exact bQ.out,by repeat (first | (with_reducible first | exact HB.out | apply ak | apply aj | apply au) | exact HB.out)⟩
end Go.Proofs.YtcnfgfomholheaaGreatDoor.P
