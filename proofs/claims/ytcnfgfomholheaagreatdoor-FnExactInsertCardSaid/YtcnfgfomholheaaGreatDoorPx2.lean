import Derived.Test.YtcnfgfomholheaaGreatDoorPx0
import Derived.Test.YtcnfgfomholheaaGreatDoorPx1
import Derived.Test.YtcnfgfomholheaaGreatDoorX12
import Derived.Test.YtcnfgfomholheaaGreatDoorX5
namespace Go.Proofs.YtcnfgfomholheaaGreatDoor.P
open Go.RowKit Go.Proofs.YtcnfgfomholheaaGreatDoor.X Go.Proofs.YtcnfgfomholheaaGreatDoorW.PrintWords Go.Proofs.YtcnfgfomholheaaGreatDoorW.PrintLast Go.Proofs.YtcnfgfomholheaaGreatDoorW.PrintMore
attribute [local go_sem] mP mQ oZ o7 lq lu mV mW
set_option linter.unusedVariables false
set_option linter.unusedSimpArgs false
def jo.f (a0:ByteArray) (a1:Bool):Option (Bool):=(strings_ContainsAny.f a0 (⟨#[43,35]⟩:ByteArray)).bind fun t109=>(if t109=true then (if a0.toList=([43]:List UInt8) then (some true) else (if a0.toList=([35]:List UInt8) then (some a1) else (some false))) else (some true))
set_option maxHeartbeats 8000000 in
set_option maxRecDepth 100000 in
theorem jo.calls (a0:ByteArray) (a1:Bool) (r:Bool) (w:World) (h:jo.f a0 a1=some r):
  Calls Tryz.prog 146 #[.string a0, .bool a1] w fun e w'=>e= .returned (.bool r)∧Below w.heap.size w w':=by
 have HB:=Aside0.mk (Below.refl w.heap.size w)
 have H:((strings_ContainsAny.f a0 (⟨#[43,35]⟩:ByteArray)).bind fun t109=>(if t109=true then (if a0.toList=([43]:List UInt8) then (some true) else (if a0.toList=([35]:List UInt8) then (some a1) else (some false))) else (some true)))=some r:=h
 clear h
 replace H:=Option.bind_eq_some_iff.mp H
 obtain⟨t109,A30,H⟩:=H
 replace H:(if t109=true then (if a0.toList=([43]:List UInt8) then (some true) else (if a0.toList=([35]:List UInt8) then (some a1) else (some false))) else (some true))=some r:=H
 have A3:=Aside0.mk A30
 clear A30
 by_cases c4:t109=true
 ·subst c4
  have H1:(if a0.toList=([43]:List UInt8) then (some true) else (if a0.toList=([35]:List UInt8) then (some a1) else (some false)))=some r:=by rw [if_pos rfl] at H;exact H
  clear H
  have H:=H1
  clear H1
  by_cases c5:a0.toList=([43]:List UInt8)
  ·rw [if_pos c5] at H
   have Jh:(a0.toList==([43]:List UInt8))=true:=beq_iff_eq.mpr c5
   have Yw:(a0.toList !=([43]:List UInt8))=false:=bne_eq_false_iff_eq.mpr c5
   clear c5
   obtain rfl:=Option.some.inj H
   go_enter Tryz.func146,Tryz.ntmps146
   go_wp2_with (first | ((with_reducible refine bU (f:=193) rfl ?_);refine fK (some 6) rfl rfl Tryz.func193 (by kernel_rfl) rfl #[.string a0, .string (⟨#[43,35]⟩:ByteArray)] rfl (by(try simp only [List.map_toArray,List.map_cons,List.map_nil]);first | done | rfl | (simp only [List.length_drop,List.length_take];rfl)) ?_;(with_reducible refine(strings_ContainsAny.calls a0 (⟨#[43,35]⟩:ByteArray) true _ A3.out).mono ?_);rintro e w6 ⟨rfl,hb⟩;refine⟨_,rfl,?_⟩;have eP:=Aside0.mk (dG (by repeat (first | (with_reducible first | exact HB.out | apply ak | apply aj | apply au) | exact HB.out)) hb);clear HB;have HB:=eP;clear eP;(try clear hb);(try clear hb2);(try clear hk);(try clear hi)))
   go_ret
   exact⟨by first | rfl | (simp [bC,bD]<;>rfl) | (simp [*,bC,bD]<;>rfl),by repeat (first | (with_reducible first | exact HB.out | apply ak | apply aj | apply au) | exact HB.out)⟩
  ·rw [if_neg c5] at H
   have Jh:(a0.toList==([43]:List UInt8))=false:=beq_eq_false_iff_ne.mpr c5
   have Yw:(a0.toList !=([43]:List UInt8))=true:=bne_iff_ne.mpr c5
   by_cases c7:a0.toList=([35]:List UInt8)
   ·rw [if_pos c7] at H
    have BJ:(a0.toList==([35]:List UInt8))=true:=beq_iff_eq.mpr c7
    have abO:(a0.toList !=([35]:List UInt8))=false:=bne_eq_false_iff_eq.mpr c7
    clear c7
    obtain rfl:=Option.some.inj H
    go_enter Tryz.func146,Tryz.ntmps146
    go_wp2_with (first | ((with_reducible refine bU (f:=193) rfl ?_);refine fK (some 6) rfl rfl Tryz.func193 (by kernel_rfl) rfl #[.string a0, .string (⟨#[43,35]⟩:ByteArray)] rfl (by(try simp only [List.map_toArray,List.map_cons,List.map_nil]);first | done | rfl | (simp only [List.length_drop,List.length_take];rfl)) ?_;(with_reducible refine(strings_ContainsAny.calls a0 (⟨#[43,35]⟩:ByteArray) true _ A3.out).mono ?_);rintro e w8 ⟨rfl,hb⟩;refine⟨_,rfl,?_⟩;have eP:=Aside0.mk (dG (by repeat (first | (with_reducible first | exact HB.out | apply ak | apply aj | apply au) | exact HB.out)) hb);clear HB;have HB:=eP;clear eP;(try clear hb);(try clear hb2);(try clear hk);(try clear hi)))
    go_ret
    exact⟨by first | rfl | (simp [bC,bD]<;>rfl) | (simp [*,bC,bD]<;>rfl),by repeat (first | (with_reducible first | exact HB.out | apply ak | apply aj | apply au) | exact HB.out)⟩
   ·rw [if_neg c7] at H
    have BJ:(a0.toList==([35]:List UInt8))=false:=beq_eq_false_iff_ne.mpr c7
    have abO:(a0.toList !=([35]:List UInt8))=true:=bne_iff_ne.mpr c7
    obtain rfl:=Option.some.inj H
    go_enter Tryz.func146,Tryz.ntmps146
    go_wp2_with (first | ((with_reducible refine bU (f:=193) rfl ?_);refine fK (some 6) rfl rfl Tryz.func193 (by kernel_rfl) rfl #[.string a0, .string (⟨#[43,35]⟩:ByteArray)] rfl (by(try simp only [List.map_toArray,List.map_cons,List.map_nil]);first | done | rfl | (simp only [List.length_drop,List.length_take];rfl)) ?_;(with_reducible refine(strings_ContainsAny.calls a0 (⟨#[43,35]⟩:ByteArray) true _ A3.out).mono ?_);rintro e w9 ⟨rfl,hb⟩;refine⟨_,rfl,?_⟩;have eP:=Aside0.mk (dG (by repeat (first | (with_reducible first | exact HB.out | apply ak | apply aj | apply au) | exact HB.out)) hb);clear HB;have HB:=eP;clear eP;(try clear hb);(try clear hb2);(try clear hk);(try clear hi)))
    go_ret
    exact⟨by first | rfl | (simp [bC,bD]<;>rfl) | (simp [*,bC,bD]<;>rfl),by repeat (first | (with_reducible first | exact HB.out | apply ak | apply aj | apply au) | exact HB.out)⟩
 ·replace c4:=Bool.eq_false_iff.mpr c4
  subst c4
  have H1:(some true)=some r:=by rw [if_neg (show ¬(false=true) by decide)] at H;exact H
  clear H
  have H:=H1
  clear H1
  obtain rfl:=Option.some.inj H
  go_enter Tryz.func146,Tryz.ntmps146
  go_wp2_with (first | ((with_reducible refine bU (f:=193) rfl ?_);refine fK (some 6) rfl rfl Tryz.func193 (by kernel_rfl) rfl #[.string a0, .string (⟨#[43,35]⟩:ByteArray)] rfl (by(try simp only [List.map_toArray,List.map_cons,List.map_nil]);first | done | rfl | (simp only [List.length_drop,List.length_take];rfl)) ?_;(with_reducible refine(strings_ContainsAny.calls a0 (⟨#[43,35]⟩:ByteArray) false _ A3.out).mono ?_);rintro e w10 ⟨rfl,hb⟩;refine⟨_,rfl,?_⟩;have eP:=Aside0.mk (dG (by repeat (first | (with_reducible first | exact HB.out | apply ak | apply aj | apply au) | exact HB.out)) hb);clear HB;have HB:=eP;clear eP;(try clear hb);(try clear hb2);(try clear hk);(try clear hi)))
  go_ret
  exact⟨by first | rfl | (simp [bC,bD]<;>rfl) | (simp [*,bC,bD]<;>rfl),by repeat (first | (with_reducible first | exact HB.out | apply ak | apply aj | apply au) | exact HB.out)⟩
def dn.l0:Nat→ByteArray→List ByteArray→List ByteArray→Int→Int→Option (Bool)
 | 0,_,_,_,_,_=>none
 | k+1,x0,x3,x8,x9,x10=>if x10<x9 then (if 0≤x10 then (if x10<(x8.length:Int) then ((jo.f (bP ByteArray.empty x8 x10) (x10==(wrap64 ((x3.length:Int) - 1)))).bind fun Uj=>(if Uj=true then (dn.l0 k x0 x3 x8 x9 (wrap64 (x10+1))) else (some false))) else (none)) else (none)) else ((iU.f x0).bind fun Uk=>(if Uk=true then (if x0.toList=([]:List UInt8) then (some false) else (some (decide ((x3.length:Int)≤6)))) else (some false)))
def dn.f (k:Nat) (a0:ByteArray):Option (Bool):=(jH.f a0).bind fun eY=>(dn.l0 k a0 eY eY (eY.length:Int) 0)
set_option maxHeartbeats 8000000 in
set_option maxRecDepth 100000 in
theorem dn.calls (k:Nat) (a0:ByteArray) (r:Bool) (w:World) (hT:Tabs w) (h:dn.f k a0=some r):
  Calls Tryz.prog 77 #[.string a0] w fun e w'=>e= .returned (.bool r)∧Below w.heap.size w w':=by
 have HT:=Aside0.mk hT
 clear hT
 have HB:=Aside0.mk (Below.refl w.heap.size w)
 have H:((jH.f a0).bind fun eY=>(dn.l0 k a0 eY eY (eY.length:Int) 0))=some r:=h
 clear h
 replace H:=Option.bind_eq_some_iff.mp H
 obtain⟨eY,vU,H⟩:=H
 replace H:(dn.l0 k a0 eY eY (eY.length:Int) 0)=some r:=H
 have A2:=Aside0.mk vU
 clear vU
 have H':=Aside0.mk H
 clear H
 go_enter Tryz.func77,Tryz.ntmps77
 go_wp2_with (first | ((with_reducible refine bU (f:=101) rfl ?_);refine fK (some 7) rfl rfl Tryz.func101 (by kernel_rfl) rfl #[.string a0] rfl (by(try simp only [List.map_toArray,List.map_cons,List.map_nil]);first | done | rfl | (simp only [List.length_drop,List.length_take];rfl)) ?_;(with_reducible refine(jH.calls a0 eY _ ?ql A2.out).mono ?_);(case ql=>exact Tabs.below HT.out (by repeat (first | (with_reducible first | exact HB.out | apply ak | apply aj | apply au) | exact HB.out)));rintro e w3 ⟨aey,rfl,ho0,hb⟩;refine⟨_,rfl,?_⟩;have eP:=Aside0.mk (Kd.wS ho0 (nN (by repeat (first | (with_reducible first | exact HB.out | apply ak | apply aj | apply au) | exact HB.out))));have iO:=Aside0.mk (dG (by repeat (first | (with_reducible first | exact HB.out | apply ak | apply aj | apply au) | exact HB.out)) hb);clear HB;have Ul:=eP;have HB:=iO;clear eP iO;(try clear hb);(try clear hb2);(try clear hk);(try clear hi);(try clear ho0);obtain⟨Ao4,co4,eo4⟩:=Kd.jJ Ul.out;subst eo4))
 go_loopg [10] k (fun kq v10 w'=>∃(x10_1:Int),v10= .int .i64 x10_1∧Aside0 (dn.l0 kq a0 eY eY (eY.length:Int) x10_1=some r)∧Aside0 (kq≤k)∧Aside0 (Kd.R Kd.string 9 w' w.heap.size (fun _=>True) (.slice Ao4 eY.length co4) eY)∧Aside0 (Kd.R Kd.string 9 w' w.heap.size (fun _=>True) (.slice Ao4 eY.length co4) eY)∧Aside0 (Below w.heap.size w w'))
 case atStart=>exact⟨(0),(by first | rfl | (simp;done) | (simp [*];done)),H',⟨Nat.le_refl _⟩,⟨by(with_reducible repeat (first | apply Kd.dK | apply Kd.dL | apply Kd.dX));exact Ul.out⟩,⟨by(with_reducible repeat (first | apply Kd.dK | apply Kd.dL | apply Kd.dX));exact Ul.out⟩,⟨by repeat (first | (with_reducible first | exact HB.out | apply ak | apply aj | apply au) | exact HB.out)⟩⟩
 case round=>
  clear H'
  try clear c1
  try clear p2
  obtain⟨x10_1,rfl,HA,ou,bQ,mD,HB⟩:=hrel
  cases gk with
  | zero=>exact absurd HA.out (by simp [dn.l0])
  | succ k1=>
    have H:=HA.out
    clear HA
    simp only [dn.l0] at H
    by_cases c5:x10_1<(eY.length:Int)
    ·rw [if_pos c5] at H
     have Jh:decide (x10_1<(eY.length:Int))=true:=decide_eq_true c5
     clear c5
     by_cases c6:0≤x10_1
     ·rw [if_pos c6] at H
      have BK:decide (0≤x10_1)=true:=decide_eq_true c6
      clear c6
      by_cases c7:x10_1<(eY.length:Int)
      ·rw [if_pos c7] at H
       have BJ:decide (x10_1<(eY.length:Int))=true:=decide_eq_true c7
       clear c7
       replace H:=Option.bind_eq_some_iff.mp H
       obtain⟨Uj,A80,H⟩:=H
       replace H:(if Uj=true then (dn.l0 k1 a0 eY eY (eY.length:Int) (wrap64 (x10_1+1))) else (some false))=some r:=H
       have A8:=Aside0.mk A80
       clear A80
       by_cases c9:Uj=true
       ·subst c9
        have H1:(dn.l0 k1 a0 eY eY (eY.length:Int) (wrap64 (x10_1+1)))=some r:=by rw [if_pos rfl] at H;exact H
        clear H
        have H:=H1
        clear H1
        have H':=Aside0.mk H
        clear H
        have Fb:0≤(x10_1:Int):=of_decide_eq_true (by first | (with_reducible assumption) | assumption)
        have Fe:x10_1<(eY.length:Int):=of_decide_eq_true (by first | (with_reducible assumption) | assumption)
        obtain⟨acN,Yx,aaq⟩:=Kd.bV (Kd.aY mD.out).2.2 x10_1 Fb Fe
        cases Yx
        replace Fb:=eq_true Fb
        replace Fe:=eq_true Fe
        go_wp2_with (first | ((with_reducible refine bU (f:=146) rfl ?_);refine fK (some 21) rfl rfl Tryz.func146 (by kernel_rfl) rfl #[.string (bP ByteArray.empty eY x10_1), .bool (x10_1==(wrap64 ((eY.length:Int) - 1)))] rfl (by(try simp only [List.map_toArray,List.map_cons,List.map_nil]);first | done | rfl | (simp only [List.length_drop,List.length_take];rfl)) ?_;(with_reducible refine(jo.calls (bP ByteArray.empty eY x10_1) (x10_1==(wrap64 ((eY.length:Int) - 1))) true _ A8.out).mono ?_);rintro e w10 ⟨rfl,hb⟩;refine⟨_,rfl,?_⟩;have eP:=Aside0.mk (Kd.iJ (by(with_reducible repeat (first | apply Kd.dK | apply Kd.dL | apply Kd.dX));exact bQ.out) hb);have iO:=Aside0.mk (Kd.iJ (by(with_reducible repeat (first | apply Kd.dK | apply Kd.dL | apply Kd.dX));exact mD.out) hb);have vV:=Aside0.mk (dG (by repeat (first | (with_reducible first | exact HB.out | apply ak | apply aj | apply au) | exact HB.out)) hb);clear bQ;clear mD;clear HB;have bQ:=eP;have mD:=iO;have HB:=vV;clear eP iO vV;(try clear hb);(try clear hb2);(try clear hk);(try clear hi)))
        go_roundg k1
        case measure=>have:=ou.out;omega
        case rel=>exact⟨(wrap64 (x10_1+1)),(by first | rfl | (simp;done) | (simp [*];done)),H',⟨by have:=ou.out;omega⟩,⟨by(with_reducible repeat (first | apply Kd.dK | apply Kd.dL | apply Kd.dX));exact bQ.out⟩,⟨by(with_reducible repeat (first | apply Kd.dK | apply Kd.dL | apply Kd.dX));exact mD.out⟩,⟨by repeat (first | (with_reducible first | exact HB.out | apply ak | apply aj | apply au) | exact HB.out)⟩⟩
       ·replace c9:=Bool.eq_false_iff.mpr c9
        subst c9
        have H1:(some false)=some r:=by rw [if_neg (show ¬(false=true) by decide)] at H;exact H
        clear H
        have H:=H1
        clear H1
        obtain rfl:=Option.some.inj H
        have Fb:0≤(x10_1:Int):=of_decide_eq_true (by first | (with_reducible assumption) | assumption)
        have Fe:x10_1<(eY.length:Int):=of_decide_eq_true (by first | (with_reducible assumption) | assumption)
        obtain⟨acN,Yx,aaq⟩:=Kd.bV (Kd.aY mD.out).2.2 x10_1 Fb Fe
        cases Yx
        replace Fb:=eq_true Fb
        replace Fe:=eq_true Fe
        go_wp2_with (first | ((with_reducible refine bU (f:=146) rfl ?_);refine fK (some 21) rfl rfl Tryz.func146 (by kernel_rfl) rfl #[.string (bP ByteArray.empty eY x10_1), .bool (x10_1==(wrap64 ((eY.length:Int) - 1)))] rfl (by(try simp only [List.map_toArray,List.map_cons,List.map_nil]);first | done | rfl | (simp only [List.length_drop,List.length_take];rfl)) ?_;(with_reducible refine(jo.calls (bP ByteArray.empty eY x10_1) (x10_1==(wrap64 ((eY.length:Int) - 1))) false _ A8.out).mono ?_);rintro e w11 ⟨rfl,hb⟩;refine⟨_,rfl,?_⟩;have eP:=Aside0.mk (Kd.iJ (by(with_reducible repeat (first | apply Kd.dK | apply Kd.dL | apply Kd.dX));exact bQ.out) hb);have iO:=Aside0.mk (Kd.iJ (by(with_reducible repeat (first | apply Kd.dK | apply Kd.dL | apply Kd.dX));exact mD.out) hb);have vV:=Aside0.mk (dG (by repeat (first | (with_reducible first | exact HB.out | apply ak | apply aj | apply au) | exact HB.out)) hb);clear bQ;clear mD;clear HB;have bQ:=eP;have mD:=iO;have HB:=vV;clear eP iO vV;(try clear hb);(try clear hb2);(try clear hk);(try clear hi)))
        go_ret
        exact⟨by first | rfl | (simp [bC,bD]<;>rfl) | (simp [*,bC,bD]<;>rfl),by repeat (first | (with_reducible first | exact HB.out | apply ak | apply aj | apply au) | exact HB.out)⟩
      ·rw [if_neg c7] at H
       exact absurd H (by simp)
     ·rw [if_neg c6] at H
      exact absurd H (by simp)
    ·rw [if_neg c5] at H
     have Jh:decide (x10_1<(eY.length:Int))=false:=decide_eq_false c5
     clear c5
     replace H:=Option.bind_eq_some_iff.mp H
     obtain⟨Uk,abP,H⟩:=H
     replace H:(if Uk=true then (if a0.toList=([]:List UInt8) then (some false) else (some (decide ((eY.length:Int)≤6)))) else (some false))=some r:=H
     have A12:=Aside0.mk abP
     clear abP
     by_cases c13:Uk=true
     ·subst c13
      have H1:(if a0.toList=([]:List UInt8) then (some false) else (some (decide ((eY.length:Int)≤6))))=some r:=by rw [if_pos rfl] at H;exact H
      clear H
      have H:=H1
      clear H1
      by_cases c14:a0.toList=([]:List UInt8)
      ·rw [if_pos c14] at H
       have oH:(a0.toList==([]:List UInt8))=true:=beq_iff_eq.mpr c14
       have Um:(a0.toList !=([]:List UInt8))=false:=bne_eq_false_iff_eq.mpr c14
       clear c14
       obtain rfl:=Option.some.inj H
       go_wp2_with (first | ((with_reducible refine bU (f:=147) rfl ?_);refine fK (some 25) rfl rfl Tryz.func147 (by kernel_rfl) rfl #[.string a0] rfl (by(try simp only [List.map_toArray,List.map_cons,List.map_nil]);first | done | rfl | (simp only [List.length_drop,List.length_take];rfl)) ?_;(with_reducible refine(iU.calls a0 true _ ?ql A12.out).mono ?_);(case ql=>exact Tabs.below HT.out (by repeat (first | (with_reducible first | exact HB.out | apply ak | apply aj | apply au) | exact HB.out)));rintro e w15 ⟨rfl,hb⟩;refine⟨_,rfl,?_⟩;have eP:=Aside0.mk (Kd.iJ (by(with_reducible repeat (first | apply Kd.dK | apply Kd.dL | apply Kd.dX));exact bQ.out) hb);have iO:=Aside0.mk (Kd.iJ (by(with_reducible repeat (first | apply Kd.dK | apply Kd.dL | apply Kd.dX));exact mD.out) hb);have vV:=Aside0.mk (dG (by repeat (first | (with_reducible first | exact HB.out | apply ak | apply aj | apply au) | exact HB.out)) hb);clear bQ;clear mD;clear HB;have bQ:=eP;have mD:=iO;have HB:=vV;clear eP iO vV;(try clear hb);(try clear hb2);(try clear hk);(try clear hi)))
       go_ret
       exact⟨by first | rfl | (simp [bC,bD]<;>rfl) | (simp [*,bC,bD]<;>rfl),by repeat (first | (with_reducible first | exact HB.out | apply ak | apply aj | apply au) | exact HB.out)⟩
      ·rw [if_neg c14] at H
       have oH:(a0.toList==([]:List UInt8))=false:=beq_eq_false_iff_ne.mpr c14
       have Um:(a0.toList !=([]:List UInt8))=true:=bne_iff_ne.mpr c14
       obtain rfl:=Option.some.inj H
       go_wp2_with (first | ((with_reducible refine bU (f:=147) rfl ?_);refine fK (some 25) rfl rfl Tryz.func147 (by kernel_rfl) rfl #[.string a0] rfl (by(try simp only [List.map_toArray,List.map_cons,List.map_nil]);first | done | rfl | (simp only [List.length_drop,List.length_take];rfl)) ?_;(with_reducible refine(iU.calls a0 true _ ?ql A12.out).mono ?_);(case ql=>exact Tabs.below HT.out (by repeat (first | (with_reducible first | exact HB.out | apply ak | apply aj | apply au) | exact HB.out)));rintro e w16 ⟨rfl,hb⟩;refine⟨_,rfl,?_⟩;have eP:=Aside0.mk (Kd.iJ (by(with_reducible repeat (first | apply Kd.dK | apply Kd.dL | apply Kd.dX));exact bQ.out) hb);have iO:=Aside0.mk (Kd.iJ (by(with_reducible repeat (first | apply Kd.dK | apply Kd.dL | apply Kd.dX));exact mD.out) hb);have vV:=Aside0.mk (dG (by repeat (first | (with_reducible first | exact HB.out | apply ak | apply aj | apply au) | exact HB.out)) hb);clear bQ;clear mD;clear HB;have bQ:=eP;have mD:=iO;have HB:=vV;clear eP iO vV;(try clear hb);(try clear hb2);(try clear hk);(try clear hi)))
       go_ret
       exact⟨by first | rfl | (simp [bC,bD]<;>rfl) | (simp [*,bC,bD]<;>rfl),by repeat (first | (with_reducible first | exact HB.out | apply ak | apply aj | apply au) | exact HB.out)⟩
     ·replace c13:=Bool.eq_false_iff.mpr c13
      subst c13
      have H1:(some false)=some r:=by rw [if_neg (show ¬(false=true) by decide)] at H;exact H
      clear H
      have H:=H1
      clear H1
      obtain rfl:=Option.some.inj H
      go_wp2_with (first | ((with_reducible refine bU (f:=147) rfl ?_);refine fK (some 25) rfl rfl Tryz.func147 (by kernel_rfl) rfl #[.string a0] rfl (by(try simp only [List.map_toArray,List.map_cons,List.map_nil]);first | done | rfl | (simp only [List.length_drop,List.length_take];rfl)) ?_;(with_reducible refine(iU.calls a0 false _ ?ql A12.out).mono ?_);(case ql=>exact Tabs.below HT.out (by repeat (first | (with_reducible first | exact HB.out | apply ak | apply aj | apply au) | exact HB.out)));rintro e w17 ⟨rfl,hb⟩;refine⟨_,rfl,?_⟩;have eP:=Aside0.mk (Kd.iJ (by(with_reducible repeat (first | apply Kd.dK | apply Kd.dL | apply Kd.dX));exact bQ.out) hb);have iO:=Aside0.mk (Kd.iJ (by(with_reducible repeat (first | apply Kd.dK | apply Kd.dL | apply Kd.dX));exact mD.out) hb);have vV:=Aside0.mk (dG (by repeat (first | (with_reducible first | exact HB.out | apply ak | apply aj | apply au) | exact HB.out)) hb);clear bQ;clear mD;clear HB;have bQ:=eP;have mD:=iO;have HB:=vV;clear eP iO vV;(try clear hb);(try clear hb2);(try clear hk);(try clear hi)))
      go_ret
      exact⟨by first | rfl | (simp [bC,bD]<;>rfl) | (simp [*,bC,bD]<;>rfl),by repeat (first | (with_reducible first | exact HB.out | apply ak | apply aj | apply au) | exact HB.out)⟩
def bZ.l0:Nat→ByteArray→List ByteArray→Int→Int→Option (List ByteArray)
 | 0,_,_,_,_=>none
 | k+1,x0,x3,x4,x5=>if x5≤(x0.size:Int) then (if x5=(x0.size:Int) then (if 0≤x4 then (if x4≤x5 then (if x3.length<8796093022208 then (bZ.l0 k x0 (x3++[x0.extract (x4:Int).toNat (x5:Int).toNat]) (wrap64 (x5+1)) (wrap64 (x5+1))) else (none)) else (none)) else (none)) else (if 0≤x5 then (if x5<(x0.size:Int) then (if (bt x0 x5)=47 then (if 0≤x4 then (if x4≤x5 then (if x3.length<8796093022208 then (bZ.l0 k x0 (x3++[x0.extract (x4:Int).toNat (x5:Int).toNat]) (wrap64 (x5+1)) (wrap64 (x5+1))) else (none)) else (none)) else (none)) else (bZ.l0 k x0 x3 x4 (wrap64 (x5+1)))) else (none)) else (none))) else (some x3)
def bZ.f (k:Nat) (a0:ByteArray):Option (List ByteArray):=bZ.l0 k a0 (([]:List ByteArray)) 0 0
set_option maxHeartbeats 8000000 in
set_option maxRecDepth 100000 in
theorem bZ.calls (k:Nat) (a0:ByteArray) (r:List ByteArray) (w:World) (h:bZ.f k a0=some r):
  Calls Tryz.prog 108 #[.string a0] w fun e w'=>∃zX:Value,e= .returned (zX)∧Kd.R Kd.string 9 w' w.heap.size (fun _=>True) zX r∧Below w.heap.size w w':=by
 have HB:=Aside0.mk (Below.refl w.heap.size w)
 have H:(bZ.l0 k a0 (([]:List ByteArray)) 0 0)=some r:=h
 clear h
 obtain⟨abQ,Hw⟩:∃y_:List ByteArray,y_=(([]:List ByteArray)):=⟨_,rfl⟩
 replace H:(bZ.l0 k a0 abQ 0 0)=some r:=by first | (rw [Hw];with_reducible exact H) | (have BL:=(Option.bind_some _ _).symm.trans H;rw [Hw];with_reducible exact BL) | (have BL:=(Option.bind_some _ _).symm.trans H;with_reducible exact BL) | with_reducible exact H | (rw [Hw];exact H) | exact H
 have Zg:=Aside0.mk Hw
 clear Hw
 have H':=Aside0.mk H
 clear H
 go_enter Tryz.func108,Tryz.ntmps108
 go_wp2_with (first | ((with_reducible refine En (N:=6) rfl ?_);refine Kd.ab9 Kd.string _ 9 ?hg (N:=6) ?hd (xs:=([]:List ByteArray)) (inner:=[]) (ok:=fun _=>True) (kN:=fun _=>True) ?hr ?hp (fun _ hk=>hk) trivial (Below.refl _ _) (Nat.le_refl _) (by simp) ?_;(case hd=>rfl);(case hg=>rfl);(case hr=>first | (go_simp;done) | (go_simp;rfl));(case hp=>exact(bT.none _ _));intro v117 w2 ho3 hb hg_ acO;clear hg_ acO;(first | rw [←Zg.out] at ho3 | (simp only [Int.reduceToNat] at ho3;rw [←Zg.out] at ho3));have eP:=Aside0.mk (Kd.wS ho3 (nN (by repeat (first | (with_reducible first | exact HB.out | apply ak | apply aj | apply au) | exact HB.out))));have iO:=Aside0.mk (dG (by repeat (first | (with_reducible first | exact HB.out | apply ak | apply aj | apply au) | exact HB.out)) hb);clear HB;have acP:=eP;have HB:=iO;clear eP iO;clear hb ho3))
 go_loopg [3,4,5] k (fun kq v3 v4 v5 w'=>∃(x3_1:List ByteArray) (x4_1:Int) (x5_1:Int),v4= .int .i64 x4_1∧v5= .int .i64 x5_1∧Aside0 (bZ.l0 kq a0 x3_1 x4_1 x5_1=some r)∧Aside0 (kq≤k)∧Aside0 (Kd.R Kd.string 9 w' w.heap.size (fun _=>True) v3 x3_1)∧Aside0 (Below w.heap.size w w'))
 case atStart=>exact⟨(abQ),(0),(0),(by first | rfl | (simp;done) | (simp [*];done)),(by first | rfl | (simp;done) | (simp [*];done)),H',⟨Nat.le_refl _⟩,⟨by(with_reducible repeat (first | apply Kd.dK | apply Kd.dL | apply Kd.dX));exact acP.out⟩,⟨by repeat (first | (with_reducible first | exact HB.out | apply ak | apply aj | apply au) | exact HB.out)⟩⟩
 case round=>
  clear H'
  try clear c1
  try clear p2
  obtain⟨x3_1,x4_1,x5_1,rfl,rfl,HA,ou,bQ,HB⟩:=hrel
  cases gk with
  | zero=>exact absurd HA.out (by simp [bZ.l0])
  | succ k1=>
    have H:=HA.out
    clear HA
    simp only [bZ.l0] at H
    by_cases c4:x5_1≤(a0.size:Int)
    ·rw [if_pos c4] at H
     have nG:decide (x5_1≤(a0.size:Int))=true:=decide_eq_true c4
     clear c4
     by_cases c5:x5_1=(a0.size:Int)
     ·rw [if_pos c5] at H
      have Jh:(x5_1==(a0.size:Int))=true:=beq_iff_eq.mpr c5
      have Yw:(x5_1 !=(a0.size:Int))=false:=bne_eq_false_iff_eq.mpr c5
      clear c5
      by_cases c6:0≤x4_1
      ·rw [if_pos c6] at H
       have BK:=eq_true c6
       have abR:decide (0≤x4_1)=true:=decide_eq_true c6
       clear c6
       by_cases c7:x4_1≤x5_1
       ·rw [if_pos c7] at H
        have BJ:=eq_true c7
        have abO:decide (x4_1≤x5_1)=true:=decide_eq_true c7
        clear c7
        have BM:=eq_true (of_decide_eq_true (by first | (with_reducible assumption) | assumption):x5_1≤(a0.size:Int))
        by_cases c9:x3_1.length<8796093022208
        ·rw [if_pos c9] at H
         have adO:=Aside0.mk c9
         clear c9
         obtain⟨abS,Hy⟩:∃y_:List ByteArray,y_=(x3_1++[a0.extract (x4_1:Int).toNat (x5_1:Int).toNat]):=⟨_,rfl⟩
         replace H:(bZ.l0 k1 a0 abS (wrap64 (x5_1+1)) (wrap64 (x5_1+1)))=some r:=by first | (rw [Hy];with_reducible exact H) | (have BL:=(Option.bind_some _ _).symm.trans H;rw [Hy];with_reducible exact BL) | (have BL:=(Option.bind_some _ _).symm.trans H;with_reducible exact BL) | with_reducible exact H | (rw [Hy];exact H) | exact H
         have acQ:=Aside0.mk Hy
         clear Hy
         have H':=Aside0.mk H
         clear H
         go_wp2_with (first | ((with_reducible refine zJ (b:= .append) (xs:=#[.tmp 23, .tmp 28]) rfl ?_);at_builtin;refine Kd.MJ Kd.string (w0:=w) w.heap.size rfl (.tmp 23) (.tmp 28) 22 9 (.string ⟨#[]⟩) 16 rfl Tryz.underlying22 info9 rfl (by decide) (by omega) u3 x3_1 (a0.extract (x4_1:Int).toNat (x5_1:Int).toNat) [.string (a0.extract (x4_1:Int).toNat (x5_1:Int).toNat)] (fun _=>True) (fun _=>False) rfl rfl ?aP (fun _ hk=>hk.elim) ?aF ?aO ?aB ?aS ?aL ?_;(case aP=>exact rfl);(case aB=>exact(by repeat (first | (with_reducible first | exact HB.out | apply ak | apply aj | apply au) | exact HB.out)));(case aF=>exact(fun _ _=>trivial));(case aO=>exact(by(with_reducible repeat (first | apply Kd.dK | apply Kd.dL | apply Kd.dX));exact bQ.out));(case aS=>exact(nN (by repeat (first | (with_reducible first | exact HB.out | apply ak | apply aj | apply au) | exact HB.out))));(case aL=>have:=adO.out;omega);intro aez w10 ho hb hg hat;rw [←acQ.out] at ho;have eP:=Aside0.mk (hb);have iO:=Aside0.mk (ho);clear HB;clear bQ;have HB:=eP;have acR:=iO;clear eP iO;clear ho hb hg hat))
         go_roundg k1
         case measure=>have:=ou.out;omega
         case rel=>exact⟨(abS),(wrap64 (x5_1+1)),(wrap64 (x5_1+1)),(by first | rfl | (simp;done) | (simp [*];done)),(by first | rfl | (simp;done) | (simp [*];done)),H',⟨by have:=ou.out;omega⟩,⟨by(with_reducible repeat (first | apply Kd.dK | apply Kd.dL | apply Kd.dX));exact acR.out⟩,⟨by repeat (first | (with_reducible first | exact HB.out | apply ak | apply aj | apply au) | exact HB.out)⟩⟩
        ·rw [if_neg c9] at H
         exact absurd H (by simp)
       ·rw [if_neg c7] at H
        exact absurd H (by simp)
      ·rw [if_neg c6] at H
       exact absurd H (by simp)
     ·rw [if_neg c5] at H
      have Jh:(x5_1==(a0.size:Int))=false:=beq_eq_false_iff_ne.mpr c5
      have Yw:(x5_1 !=(a0.size:Int))=true:=bne_iff_ne.mpr c5
      by_cases c11:0≤x5_1
      ·rw [if_pos c11] at H
       have oI:decide (0≤x5_1)=true:=decide_eq_true c11
       clear c11
       by_cases c12:x5_1<(a0.size:Int)
       ·rw [if_pos c12] at H
        have Zh:decide (x5_1<(a0.size:Int))=true:=decide_eq_true c12
        clear c12
        by_cases c14:(bt a0 x5_1)=47
        ·rw [if_pos c14] at H
         have oH:((bt a0 x5_1)==47)=true:=beq_iff_eq.mpr c14
         have Um:((bt a0 x5_1) !=47)=false:=bne_eq_false_iff_eq.mpr c14
         clear c14
         by_cases c15:0≤x4_1
         ·rw [if_pos c15] at H
          have ael:=eq_true c15
          have aem:decide (0≤x4_1)=true:=decide_eq_true c15
          clear c15
          by_cases c16:x4_1≤x5_1
          ·rw [if_pos c16] at H
           have Mc:=eq_true c16
           have aen:decide (x4_1≤x5_1)=true:=decide_eq_true c16
           clear c16
           have Md:=eq_true (of_decide_eq_true (by first | (with_reducible assumption) | assumption):x5_1≤(a0.size:Int))
           by_cases c18:x3_1.length<8796093022208
           ·rw [if_pos c18] at H
            have acS:=Aside0.mk c18
            clear c18
            obtain⟨abT,Hz⟩:∃y_:List ByteArray,y_=(x3_1++[a0.extract (x4_1:Int).toNat (x5_1:Int).toNat]):=⟨_,rfl⟩
            replace H:(bZ.l0 k1 a0 abT (wrap64 (x5_1+1)) (wrap64 (x5_1+1)))=some r:=by first | (rw [Hz];with_reducible exact H) | (have BL:=(Option.bind_some _ _).symm.trans H;rw [Hz];with_reducible exact BL) | (have BL:=(Option.bind_some _ _).symm.trans H;with_reducible exact BL) | with_reducible exact H | (rw [Hz];exact H) | exact H
            have acT:=Aside0.mk Hz
            clear Hz
            have H':=Aside0.mk H
            clear H
            have p13:0≤(x5_1:Int):=of_decide_eq_true (by first | (with_reducible assumption) | assumption)
            have q13:x5_1<(a0.size:Int):=of_decide_eq_true (by first | (with_reducible assumption) | assumption)
            have adP:=Fv a0 x5_1
            replace p13:=eq_true p13
            replace q13:=eq_true q13
            go_wp2_with (first | ((with_reducible refine zJ (b:= .append) (xs:=#[.tmp 23, .tmp 28]) rfl ?_);at_builtin;refine Kd.MJ Kd.string (w0:=w) w.heap.size rfl (.tmp 23) (.tmp 28) 22 9 (.string ⟨#[]⟩) 16 rfl Tryz.underlying22 info9 rfl (by decide) (by omega) u3 x3_1 (a0.extract (x4_1:Int).toNat (x5_1:Int).toNat) [.string (a0.extract (x4_1:Int).toNat (x5_1:Int).toNat)] (fun _=>True) (fun _=>False) rfl rfl ?aP (fun _ hk=>hk.elim) ?aF ?aO ?aB ?aS ?aL ?_;(case aP=>exact rfl);(case aB=>exact(by repeat (first | (with_reducible first | exact HB.out | apply ak | apply aj | apply au) | exact HB.out)));(case aF=>exact(fun _ _=>trivial));(case aO=>exact(by(with_reducible repeat (first | apply Kd.dK | apply Kd.dL | apply Kd.dX));exact bQ.out));(case aS=>exact(nN (by repeat (first | (with_reducible first | exact HB.out | apply ak | apply aj | apply au) | exact HB.out))));(case aL=>have:=acS.out;omega);intro aeA w19 ho hb hg hat;rw [←acT.out] at ho;have eP:=Aside0.mk (hb);have iO:=Aside0.mk (ho);clear HB;clear bQ;have HB:=eP;have acU:=iO;clear eP iO;clear ho hb hg hat))
            go_roundg k1
            case measure=>have:=ou.out;omega
            case rel=>exact⟨(abT),(wrap64 (x5_1+1)),(wrap64 (x5_1+1)),(by first | rfl | (simp;done) | (simp [*];done)),(by first | rfl | (simp;done) | (simp [*];done)),H',⟨by have:=ou.out;omega⟩,⟨by(with_reducible repeat (first | apply Kd.dK | apply Kd.dL | apply Kd.dX));exact acU.out⟩,⟨by repeat (first | (with_reducible first | exact HB.out | apply ak | apply aj | apply au) | exact HB.out)⟩⟩
           ·rw [if_neg c18] at H
            exact absurd H (by simp)
          ·rw [if_neg c16] at H
           exact absurd H (by simp)
         ·rw [if_neg c15] at H
          exact absurd H (by simp)
        ·rw [if_neg c14] at H
         have oH:((bt a0 x5_1)==47)=false:=beq_eq_false_iff_ne.mpr c14
         have Um:((bt a0 x5_1) !=47)=true:=bne_iff_ne.mpr c14
         have H':=Aside0.mk H
         clear H
         have p13:0≤(x5_1:Int):=of_decide_eq_true (by first | (with_reducible assumption) | assumption)
         have q13:x5_1<(a0.size:Int):=of_decide_eq_true (by first | (with_reducible assumption) | assumption)
         have adP:=Fv a0 x5_1
         replace p13:=eq_true p13
         replace q13:=eq_true q13
         go_wp2
         go_roundg k1
         case measure=>have:=ou.out;omega
         case rel=>exact⟨(x3_1),(x4_1),(wrap64 (x5_1+1)),(by first | rfl | (simp;done) | (simp [*];done)),(by first | rfl | (simp;done) | (simp [*];done)),H',⟨by have:=ou.out;omega⟩,⟨by(with_reducible repeat (first | apply Kd.dK | apply Kd.dL | apply Kd.dX));exact bQ.out⟩,⟨by repeat (first | (with_reducible first | exact HB.out | apply ak | apply aj | apply au) | exact HB.out)⟩⟩
       ·rw [if_neg c12] at H
        exact absurd H (by simp)
      ·rw [if_neg c11] at H
       exact absurd H (by simp)
    ·rw [if_neg c4] at H
     have nG:decide (x5_1≤(a0.size:Int))=false:=decide_eq_false c4
     clear c4
     obtain rfl:=Option.some.inj H
     go_wp2
     go_ret
     exact⟨_,by first | rfl | (simp [bC,bD]<;>rfl) | (simp [*,bC,bD]<;>rfl),by(with_reducible repeat (first | apply Kd.dK | apply Kd.dL | apply Kd.dX));exact bQ.out,by repeat (first | (with_reducible first | exact HB.out | apply ak | apply aj | apply au) | exact HB.out)⟩
end Go.Proofs.YtcnfgfomholheaaGreatDoor.P
