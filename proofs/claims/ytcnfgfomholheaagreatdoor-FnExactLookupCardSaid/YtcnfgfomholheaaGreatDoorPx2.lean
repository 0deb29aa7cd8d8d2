import Derived.Test.YtcnfgfomholheaaGreatDoorPx0
import Derived.Test.YtcnfgfomholheaaGreatDoorPx1
import Derived.Test.YtcnfgfomholheaaGreatDoorX12
import Derived.Test.YtcnfgfomholheaaGreatDoorX5
namespace Go.Proofs.YtcnfgfomholheaaGreatDoor.P
open Go.RowKit Go.Proofs.YtcnfgfomholheaaGreatDoor.X Go.Proofs.YtcnfgfomholheaaGreatDoorW.PrintWords Go.Proofs.YtcnfgfomholheaaGreatDoorW.PrintLast Go.Proofs.YtcnfgfomholheaaGreatDoorW.PrintMore
attribute [local go_sem] lU lV oC oD kF kG lW lX
set_option linter.unusedVariables false
set_option linter.unusedSimpArgs false
def iE.f (a0:ByteArray):Option (Bool):=(eP.f a0).bind fun Ko=>(if Ko=true then (if a0.toList=([]:List UInt8) then (some false) else ((strings_ContainsAny.f a0 (⟨#[43,35]⟩:ByteArray)).bind fun t105=>(if t105=true then (some false) else ((dB.f a0).bind fun qR=>(some (decide ((qR.length:Int)≤6))))))) else (some false))
set_option maxHeartbeats 8000000 in
set_option maxRecDepth 100000 in
theorem iE.calls (a0:ByteArray) (r:Bool) (w:World) (hT:Tabs w) (h:iE.f a0=some r):
  Calls Tryz.prog 149 #[.string a0] w fun e w'=>e= .returned (.bool r)∧Below w.heap.size w w':=by
 have HT:=Aside0.mk hT
 clear hT
 have HB:=Aside0.mk (Below.refl w.heap.size w)
 have H:((eP.f a0).bind fun Ko=>(if Ko=true then (if a0.toList=([]:List UInt8) then (some false) else ((strings_ContainsAny.f a0 (⟨#[43,35]⟩:ByteArray)).bind fun t105=>(if t105=true then (some false) else ((dB.f a0).bind fun qR=>(some (decide ((qR.length:Int)≤6))))))) else (some false)))=some r:=h
 clear h
 replace H:=Option.bind_eq_some_iff.mp H
 obtain⟨Ko,lK,H⟩:=H
 replace H:(if Ko=true then (if a0.toList=([]:List UInt8) then (some false) else ((strings_ContainsAny.f a0 (⟨#[43,35]⟩:ByteArray)).bind fun t105=>(if t105=true then (some false) else ((dB.f a0).bind fun qR=>(some (decide ((qR.length:Int)≤6))))))) else (some false))=some r:=H
 have A2:=Aside0.mk lK
 clear lK
 by_cases c3:Ko=true
 ·subst c3
  have H1:(if a0.toList=([]:List UInt8) then (some false) else ((strings_ContainsAny.f a0 (⟨#[43,35]⟩:ByteArray)).bind fun t105=>(if t105=true then (some false) else ((dB.f a0).bind fun qR=>(some (decide ((qR.length:Int)≤6)))))))=some r:=by rw [if_pos rfl] at H;exact H
  clear H
  have H:=H1
  clear H1
  by_cases c4:a0.toList=([]:List UInt8)
  ·rw [if_pos c4] at H
   have jD:(a0.toList==([]:List UInt8))=true:=beq_iff_eq.mpr c4
   have Kq:(a0.toList !=([]:List UInt8))=false:=bne_eq_false_iff_eq.mpr c4
   clear c4
   obtain rfl:=Option.some.inj H
   go_enter Tryz.func149,Tryz.ntmps149
   go_wp2_with (first | ((with_reducible refine aH (f:=147) rfl ?_);refine bW (some 4) rfl rfl Tryz.func147 (by kernel_rfl) rfl #[.string a0] rfl (by(try simp only [List.map_toArray,List.map_cons,List.map_nil]);first | done | rfl | (simp only [List.length_drop,List.length_take];rfl)) ?_;(with_reducible refine(eP.calls a0 true _ ?dP A2.out).mono ?_);(case dP=>exact Tabs.below HT.out (by repeat (first | (with_reducible first | exact HB.out | apply aj | apply ah | apply ak) | exact HB.out)));rintro e w5 ⟨rfl,hb⟩;refine⟨_,rfl,?_⟩;have aY:=Aside0.mk (aJ (by repeat (first | (with_reducible first | exact HB.out | apply aj | apply ah | apply ak) | exact HB.out)) hb);clear HB;have HB:=aY;clear aY;(try clear hb);(try clear hb2);(try clear hk);(try clear hi)))
   go_ret
   exact⟨by first | rfl | (simp [aA,aC]<;>rfl) | (simp [*,aA,aC]<;>rfl),by repeat (first | (with_reducible first | exact HB.out | apply aj | apply ah | apply ak) | exact HB.out)⟩
  ·rw [if_neg c4] at H
   have jD:(a0.toList==([]:List UInt8))=false:=beq_eq_false_iff_ne.mpr c4
   have Kq:(a0.toList !=([]:List UInt8))=true:=bne_iff_ne.mpr c4
   replace H:=Option.bind_eq_some_iff.mp H
   obtain⟨t105,xk,H⟩:=H
   replace H:(if t105=true then (some false) else ((dB.f a0).bind fun qR=>(some (decide ((qR.length:Int)≤6)))))=some r:=H
   have A6:=Aside0.mk xk
   clear xk
   by_cases c7:t105=true
   ·subst c7
    have H1:(some false)=some r:=by rw [if_pos rfl] at H;exact H
    clear H
    have H:=H1
    clear H1
    obtain rfl:=Option.some.inj H
    go_enter Tryz.func149,Tryz.ntmps149
    go_wp2_with (first | ((with_reducible refine aH (f:=147) rfl ?_);refine bW (some 4) rfl rfl Tryz.func147 (by kernel_rfl) rfl #[.string a0] rfl (by(try simp only [List.map_toArray,List.map_cons,List.map_nil]);first | done | rfl | (simp only [List.length_drop,List.length_take];rfl)) ?_;(with_reducible refine(eP.calls a0 true _ ?dP A2.out).mono ?_);(case dP=>exact Tabs.below HT.out (by repeat (first | (with_reducible first | exact HB.out | apply aj | apply ah | apply ak) | exact HB.out)));rintro e w8 ⟨rfl,hb⟩;refine⟨_,rfl,?_⟩;have aY:=Aside0.mk (aJ (by repeat (first | (with_reducible first | exact HB.out | apply aj | apply ah | apply ak) | exact HB.out)) hb);clear HB;have HB:=aY;clear aY;(try clear hb);(try clear hb2);(try clear hk);(try clear hi)) | (go_at_call 193;(with_reducible refine(strings_ContainsAny.calls a0 (⟨#[43,35]⟩:ByteArray) true _ A6.out).mono ?_);rintro e w9 ⟨rfl,hb⟩;have aY:=Aside0.mk (aJ (by repeat (first | (with_reducible first | exact HB.out | apply aj | apply ah | apply ak) | exact HB.out)) hb);clear HB;have HB:=aY;clear aY;(try clear hb);(try clear hb2);(try clear hk);(try clear hi)))
    go_ret
    exact⟨by first | rfl | (simp [aA,aC]<;>rfl) | (simp [*,aA,aC]<;>rfl),by repeat (first | (with_reducible first | exact HB.out | apply aj | apply ah | apply ak) | exact HB.out)⟩
   ·replace c7:=Bool.eq_false_iff.mpr c7
    subst c7
    have H1:((dB.f a0).bind fun qR=>(some (decide ((qR.length:Int)≤6))))=some r:=by rw [if_neg (show ¬(false=true) by decide)] at H;exact H
    clear H
    have H:=H1
    clear H1
    replace H:=Option.bind_eq_some_iff.mp H
    obtain⟨qR,Dh,H⟩:=H
    replace H:(some (decide ((qR.length:Int)≤6)))=some r:=H
    have X8:=Aside0.mk Dh
    clear Dh
    obtain rfl:=Option.some.inj H
    go_enter Tryz.func149,Tryz.ntmps149
    go_wp2_with (first | ((with_reducible refine aH (f:=147) rfl ?_);refine bW (some 4) rfl rfl Tryz.func147 (by kernel_rfl) rfl #[.string a0] rfl (by(try simp only [List.map_toArray,List.map_cons,List.map_nil]);first | done | rfl | (simp only [List.length_drop,List.length_take];rfl)) ?_;(with_reducible refine(eP.calls a0 true _ ?dP A2.out).mono ?_);(case dP=>exact Tabs.below HT.out (by repeat (first | (with_reducible first | exact HB.out | apply aj | apply ah | apply ak) | exact HB.out)));rintro e w11 ⟨rfl,hb⟩;refine⟨_,rfl,?_⟩;have aY:=Aside0.mk (aJ (by repeat (first | (with_reducible first | exact HB.out | apply aj | apply ah | apply ak) | exact HB.out)) hb);clear HB;have HB:=aY;clear aY;(try clear hb);(try clear hb2);(try clear hk);(try clear hi)) | (go_at_call 193;(with_reducible refine(strings_ContainsAny.calls a0 (⟨#[43,35]⟩:ByteArray) false _ A6.out).mono ?_);rintro e w12 ⟨rfl,hb⟩;have aY:=Aside0.mk (aJ (by repeat (first | (with_reducible first | exact HB.out | apply aj | apply ah | apply ak) | exact HB.out)) hb);clear HB;have HB:=aY;clear aY;(try clear hb);(try clear hb2);(try clear hk);(try clear hi)) | (go_at_call 101;(with_reducible refine(dB.calls a0 qR _ ?dP X8.out).mono ?_);(case dP=>exact Tabs.below HT.out (by repeat (first | (with_reducible first | exact HB.out | apply aj | apply ah | apply ak) | exact HB.out)));rintro e w13 ⟨v107,rfl,ho0,hb⟩;have aY:=Aside0.mk (Kd.lu ho0 (iQ (by repeat (first | (with_reducible first | exact HB.out | apply aj | apply ah | apply ak) | exact HB.out))));have fK:=Aside0.mk (aJ (by repeat (first | (with_reducible first | exact HB.out | apply aj | apply ah | apply ak) | exact HB.out)) hb);clear HB;have adv:=aY;have HB:=fK;clear aY fK;(try clear hb);(try clear hb2);(try clear hk);(try clear hi);(try clear ho0);obtain⟨aeA,aeB,Zq⟩:=Kd.iJ adv.out;subst Zq))
    go_ret
    exact⟨by first | rfl | (simp [aA,aC]<;>rfl) | (simp [*,aA,aC]<;>rfl),by repeat (first | (with_reducible first | exact HB.out | apply aj | apply ah | apply ak) | exact HB.out)⟩
 ·replace c3:=Bool.eq_false_iff.mpr c3
  subst c3
  have H1:(some false)=some r:=by rw [if_neg (show ¬(false=true) by decide)] at H;exact H
  clear H
  have H:=H1
  clear H1
  obtain rfl:=Option.some.inj H
  go_enter Tryz.func149,Tryz.ntmps149
  go_wp2_with (first | ((with_reducible refine aH (f:=147) rfl ?_);refine bW (some 4) rfl rfl Tryz.func147 (by kernel_rfl) rfl #[.string a0] rfl (by(try simp only [List.map_toArray,List.map_cons,List.map_nil]);first | done | rfl | (simp only [List.length_drop,List.length_take];rfl)) ?_;(with_reducible refine(eP.calls a0 false _ ?dP A2.out).mono ?_);(case dP=>exact Tabs.below HT.out (by repeat (first | (with_reducible first | exact HB.out | apply aj | apply ah | apply ak) | exact HB.out)));rintro e w15 ⟨rfl,hb⟩;refine⟨_,rfl,?_⟩;have aY:=Aside0.mk (aJ (by repeat (first | (with_reducible first | exact HB.out | apply aj | apply ah | apply ak) | exact HB.out)) hb);clear HB;have HB:=aY;clear aY;(try clear hb);(try clear hb2);(try clear hk);(try clear hi)))
  go_ret
  exact⟨by first | rfl | (simp [aA,aC]<;>rfl) | (simp [*,aA,aC]<;>rfl),by repeat (first | (with_reducible first | exact HB.out | apply aj | apply ah | apply ak) | exact HB.out)⟩
def jE.f (a0:ByteArray) (a1:Bool):Option (Bool):=(strings_ContainsAny.f a0 (⟨#[43,35]⟩:ByteArray)).bind fun t109=>(if t109=true then (if a0.toList=([43]:List UInt8) then (some true) else (if a0.toList=([35]:List UInt8) then (some a1) else (some false))) else (some true))
set_option maxHeartbeats 8000000 in
set_option maxRecDepth 100000 in
theorem jE.calls (a0:ByteArray) (a1:Bool) (r:Bool) (w:World) (h:jE.f a0 a1=some r):
  Calls Tryz.prog 146 #[.string a0, .bool a1] w fun e w'=>e= .returned (.bool r)∧Below w.heap.size w w':=by
 have HB:=Aside0.mk (Below.refl w.heap.size w)
 have H:((strings_ContainsAny.f a0 (⟨#[43,35]⟩:ByteArray)).bind fun t109=>(if t109=true then (if a0.toList=([43]:List UInt8) then (some true) else (if a0.toList=([35]:List UInt8) then (some a1) else (some false))) else (some true)))=some r:=h
 clear h
 replace H:=Option.bind_eq_some_iff.mp H
 obtain⟨t109,X9,H⟩:=H
 replace H:(if t109=true then (if a0.toList=([43]:List UInt8) then (some true) else (if a0.toList=([35]:List UInt8) then (some a1) else (some false))) else (some true))=some r:=H
 have A3:=Aside0.mk X9
 clear X9
 by_cases c4:t109=true
 ·subst c4
  have H1:(if a0.toList=([43]:List UInt8) then (some true) else (if a0.toList=([35]:List UInt8) then (some a1) else (some false)))=some r:=by rw [if_pos rfl] at H;exact H
  clear H
  have H:=H1
  clear H1
  by_cases c5:a0.toList=([43]:List UInt8)
  ·rw [if_pos c5] at H
   have rV:(a0.toList==([43]:List UInt8))=true:=beq_iff_eq.mpr c5
   have Di:(a0.toList !=([43]:List UInt8))=false:=bne_eq_false_iff_eq.mpr c5
   clear c5
   obtain rfl:=Option.some.inj H
   go_enter Tryz.func146,Tryz.ntmps146
   go_wp2_with (first | ((with_reducible refine aH (f:=193) rfl ?_);refine bW (some 6) rfl rfl Tryz.func193 (by kernel_rfl) rfl #[.string a0, .string (⟨#[43,35]⟩:ByteArray)] rfl (by(try simp only [List.map_toArray,List.map_cons,List.map_nil]);first | done | rfl | (simp only [List.length_drop,List.length_take];rfl)) ?_;(with_reducible refine(strings_ContainsAny.calls a0 (⟨#[43,35]⟩:ByteArray) true _ A3.out).mono ?_);rintro e w6 ⟨rfl,hb⟩;refine⟨_,rfl,?_⟩;have aY:=Aside0.mk (aJ (by repeat (first | (with_reducible first | exact HB.out | apply aj | apply ah | apply ak) | exact HB.out)) hb);clear HB;have HB:=aY;clear aY;(try clear hb);(try clear hb2);(try clear hk);(try clear hi)))
   go_ret
   exact⟨by first | rfl | (simp [aA,aC]<;>rfl) | (simp [*,aA,aC]<;>rfl),by repeat (first | (with_reducible first | exact HB.out | apply aj | apply ah | apply ak) | exact HB.out)⟩
  ·rw [if_neg c5] at H
   have rV:(a0.toList==([43]:List UInt8))=false:=beq_eq_false_iff_ne.mpr c5
   have Di:(a0.toList !=([43]:List UInt8))=true:=bne_iff_ne.mpr c5
   by_cases c7:a0.toList=([35]:List UInt8)
   ·rw [if_pos c7] at H
    have rW:(a0.toList==([35]:List UInt8))=true:=beq_iff_eq.mpr c7
    have Gl:(a0.toList !=([35]:List UInt8))=false:=bne_eq_false_iff_eq.mpr c7
    clear c7
    obtain rfl:=Option.some.inj H
    go_enter Tryz.func146,Tryz.ntmps146
    go_wp2_with (first | ((with_reducible refine aH (f:=193) rfl ?_);refine bW (some 6) rfl rfl Tryz.func193 (by kernel_rfl) rfl #[.string a0, .string (⟨#[43,35]⟩:ByteArray)] rfl (by(try simp only [List.map_toArray,List.map_cons,List.map_nil]);first | done | rfl | (simp only [List.length_drop,List.length_take];rfl)) ?_;(with_reducible refine(strings_ContainsAny.calls a0 (⟨#[43,35]⟩:ByteArray) true _ A3.out).mono ?_);rintro e w8 ⟨rfl,hb⟩;refine⟨_,rfl,?_⟩;have aY:=Aside0.mk (aJ (by repeat (first | (with_reducible first | exact HB.out | apply aj | apply ah | apply ak) | exact HB.out)) hb);clear HB;have HB:=aY;clear aY;(try clear hb);(try clear hb2);(try clear hk);(try clear hi)))
    go_ret
    exact⟨by first | rfl | (simp [aA,aC]<;>rfl) | (simp [*,aA,aC]<;>rfl),by repeat (first | (with_reducible first | exact HB.out | apply aj | apply ah | apply ak) | exact HB.out)⟩
   ·rw [if_neg c7] at H
    have rW:(a0.toList==([35]:List UInt8))=false:=beq_eq_false_iff_ne.mpr c7
    have Gl:(a0.toList !=([35]:List UInt8))=true:=bne_iff_ne.mpr c7
    obtain rfl:=Option.some.inj H
    go_enter Tryz.func146,Tryz.ntmps146
    go_wp2_with (first | ((with_reducible refine aH (f:=193) rfl ?_);refine bW (some 6) rfl rfl Tryz.func193 (by kernel_rfl) rfl #[.string a0, .string (⟨#[43,35]⟩:ByteArray)] rfl (by(try simp only [List.map_toArray,List.map_cons,List.map_nil]);first | done | rfl | (simp only [List.length_drop,List.length_take];rfl)) ?_;(with_reducible refine(strings_ContainsAny.calls a0 (⟨#[43,35]⟩:ByteArray) true _ A3.out).mono ?_);rintro e w9 ⟨rfl,hb⟩;refine⟨_,rfl,?_⟩;have aY:=Aside0.mk (aJ (by repeat (first | (with_reducible first | exact HB.out | apply aj | apply ah | apply ak) | exact HB.out)) hb);clear HB;have HB:=aY;clear aY;(try clear hb);(try clear hb2);(try clear hk);(try clear hi)))
    go_ret
    exact⟨by first | rfl | (simp [aA,aC]<;>rfl) | (simp [*,aA,aC]<;>rfl),by repeat (first | (with_reducible first | exact HB.out | apply aj | apply ah | apply ak) | exact HB.out)⟩
 ·replace c4:=Bool.eq_false_iff.mpr c4
  subst c4
  have H1:(some true)=some r:=by rw [if_neg (show ¬(false=true) by decide)] at H;exact H
  clear H
  have H:=H1
  clear H1
  obtain rfl:=Option.some.inj H
  go_enter Tryz.func146,Tryz.ntmps146
  go_wp2_with (first | ((with_reducible refine aH (f:=193) rfl ?_);refine bW (some 6) rfl rfl Tryz.func193 (by kernel_rfl) rfl #[.string a0, .string (⟨#[43,35]⟩:ByteArray)] rfl (by(try simp only [List.map_toArray,List.map_cons,List.map_nil]);first | done | rfl | (simp only [List.length_drop,List.length_take];rfl)) ?_;(with_reducible refine(strings_ContainsAny.calls a0 (⟨#[43,35]⟩:ByteArray) false _ A3.out).mono ?_);rintro e w10 ⟨rfl,hb⟩;refine⟨_,rfl,?_⟩;have aY:=Aside0.mk (aJ (by repeat (first | (with_reducible first | exact HB.out | apply aj | apply ah | apply ak) | exact HB.out)) hb);clear HB;have HB:=aY;clear aY;(try clear hb);(try clear hb2);(try clear hk);(try clear hi)))
  go_ret
  exact⟨by first | rfl | (simp [aA,aC]<;>rfl) | (simp [*,aA,aC]<;>rfl),by repeat (first | (with_reducible first | exact HB.out | apply aj | apply ah | apply ak) | exact HB.out)⟩
def bQ.l0:Nat→ByteArray→List ByteArray→List ByteArray→Int→Int→Option (Bool)
 | 0,_,_,_,_,_=>none
 | k+1,x0,x3,x8,x9,x10=>if x10<x9 then (if 0≤x10 then (if x10<(x8.length:Int) then ((jE.f (aK ByteArray.empty x8 x10) (x10==(wrap64 ((x3.length:Int) - 1)))).bind fun U7=>(if U7=true then (bQ.l0 k x0 x3 x8 x9 (wrap64 (x10+1))) else (some false))) else (none)) else (none)) else ((eP.f x0).bind fun U9=>(if U9=true then (if x0.toList=([]:List UInt8) then (some false) else (some (decide ((x3.length:Int)≤6)))) else (some false)))
def bQ.f (k:Nat) (a0:ByteArray):Option (Bool):=(dB.f a0).bind fun fO=>(bQ.l0 k a0 fO fO (fO.length:Int) 0)
set_option maxHeartbeats 8000000 in
set_option maxRecDepth 100000 in
theorem bQ.calls (k:Nat) (a0:ByteArray) (r:Bool) (w:World) (hT:Tabs w) (h:bQ.f k a0=some r):
  Calls Tryz.prog 77 #[.string a0] w fun e w'=>e= .returned (.bool r)∧Below w.heap.size w w':=by
 have HT:=Aside0.mk hT
 clear hT
 have HB:=Aside0.mk (Below.refl w.heap.size w)
 have H:((dB.f a0).bind fun fO=>(bQ.l0 k a0 fO fO (fO.length:Int) 0))=some r:=h
 clear h
 replace H:=Option.bind_eq_some_iff.mp H
 obtain⟨fO,lK,H⟩:=H
 replace H:(bQ.l0 k a0 fO fO (fO.length:Int) 0)=some r:=H
 have A2:=Aside0.mk lK
 clear lK
 have H':=Aside0.mk H
 clear H
 go_enter Tryz.func77,Tryz.ntmps77
 go_wp2_with (first | ((with_reducible refine aH (f:=101) rfl ?_);refine bW (some 7) rfl rfl Tryz.func101 (by kernel_rfl) rfl #[.string a0] rfl (by(try simp only [List.map_toArray,List.map_cons,List.map_nil]);first | done | rfl | (simp only [List.length_drop,List.length_take];rfl)) ?_;(with_reducible refine(dB.calls a0 fO _ ?dP A2.out).mono ?_);(case dP=>exact Tabs.below HT.out (by repeat (first | (with_reducible first | exact HB.out | apply aj | apply ah | apply ak) | exact HB.out)));rintro e w3 ⟨afh,rfl,ho0,hb⟩;refine⟨_,rfl,?_⟩;have aY:=Aside0.mk (Kd.lu ho0 (iQ (by repeat (first | (with_reducible first | exact HB.out | apply aj | apply ah | apply ak) | exact HB.out))));have fK:=Aside0.mk (aJ (by repeat (first | (with_reducible first | exact HB.out | apply aj | apply ah | apply ak) | exact HB.out)) hb);clear HB;have Va:=aY;have HB:=fK;clear aY fK;(try clear hb);(try clear hb2);(try clear hk);(try clear hi);(try clear ho0);obtain⟨Ao4,co4,eo4⟩:=Kd.iJ Va.out;subst eo4))
 go_loopg [10] k (fun kq v10 w'=>∃(x10_1:Int),v10= .int .i64 x10_1∧Aside0 (bQ.l0 kq a0 fO fO (fO.length:Int) x10_1=some r)∧Aside0 (kq≤k)∧Aside0 (Kd.R Kd.string 9 w' w.heap.size (fun _=>True) (.slice Ao4 fO.length co4) fO)∧Aside0 (Kd.R Kd.string 9 w' w.heap.size (fun _=>True) (.slice Ao4 fO.length co4) fO)∧Aside0 (Below w.heap.size w w'))
 case atStart=>exact⟨(0),(by first | rfl | (simp;done) | (simp [*];done)),H',⟨Nat.le_refl _⟩,⟨by(with_reducible repeat (first | apply Kd.dI | apply Kd.dJ | apply Kd.dR));exact Va.out⟩,⟨by(with_reducible repeat (first | apply Kd.dI | apply Kd.dJ | apply Kd.dR));exact Va.out⟩,⟨by repeat (first | (with_reducible first | exact HB.out | apply aj | apply ah | apply ak) | exact HB.out)⟩⟩
 case round=>
  clear H'
  try clear c1
  try clear p2
  obtain⟨x10_1,rfl,HA,jM,bY,nH,HB⟩:=hrel
  cases gk with
  | zero=>exact absurd HA.out (by simp [bQ.l0])
  | succ k1=>
    have H:=HA.out
    clear HA
    simp only [bQ.l0] at H
    by_cases c5:x10_1<(fO.length:Int)
    ·rw [if_pos c5] at H
     have rV:decide (x10_1<(fO.length:Int))=true:=decide_eq_true c5
     clear c5
     by_cases c6:0≤x10_1
     ·rw [if_pos c6] at H
      have rX:decide (0≤x10_1)=true:=decide_eq_true c6
      clear c6
      by_cases c7:x10_1<(fO.length:Int)
      ·rw [if_pos c7] at H
       have rW:decide (x10_1<(fO.length:Int))=true:=decide_eq_true c7
       clear c7
       replace H:=Option.bind_eq_some_iff.mp H
       obtain⟨U7,LP,H⟩:=H
       replace H:(if U7=true then (bQ.l0 k1 a0 fO fO (fO.length:Int) (wrap64 (x10_1+1))) else (some false))=some r:=H
       have A8:=Aside0.mk LP
       clear LP
       by_cases c9:U7=true
       ·subst c9
        have H1:(bQ.l0 k1 a0 fO fO (fO.length:Int) (wrap64 (x10_1+1)))=some r:=by rw [if_pos rfl] at H;exact H
        clear H
        have H:=H1
        clear H1
        have H':=Aside0.mk H
        clear H
        have Gm:0≤(x10_1:Int):=of_decide_eq_true (by first | (with_reducible assumption) | assumption)
        have Gn:x10_1<(fO.length:Int):=of_decide_eq_true (by first | (with_reducible assumption) | assumption)
        obtain⟨adw,Zr,aa3⟩:=Kd.aQ (Kd.bD nH.out).2.2 x10_1 Gm Gn
        cases Zr
        replace Gm:=eq_true Gm
        replace Gn:=eq_true Gn
        go_wp2_with (first | ((with_reducible refine aH (f:=146) rfl ?_);refine bW (some 21) rfl rfl Tryz.func146 (by kernel_rfl) rfl #[.string (aK ByteArray.empty fO x10_1), .bool (x10_1==(wrap64 ((fO.length:Int) - 1)))] rfl (by(try simp only [List.map_toArray,List.map_cons,List.map_nil]);first | done | rfl | (simp only [List.length_drop,List.length_take];rfl)) ?_;(with_reducible refine(jE.calls (aK ByteArray.empty fO x10_1) (x10_1==(wrap64 ((fO.length:Int) - 1))) true _ A8.out).mono ?_);rintro e w10 ⟨rfl,hb⟩;refine⟨_,rfl,?_⟩;have aY:=Aside0.mk (Kd.iZ (by(with_reducible repeat (first | apply Kd.dI | apply Kd.dJ | apply Kd.dR));exact bY.out) hb);have fK:=Aside0.mk (Kd.iZ (by(with_reducible repeat (first | apply Kd.dI | apply Kd.dJ | apply Kd.dR));exact nH.out) hb);have qA:=Aside0.mk (aJ (by repeat (first | (with_reducible first | exact HB.out | apply aj | apply ah | apply ak) | exact HB.out)) hb);clear bY;clear nH;clear HB;have bY:=aY;have nH:=fK;have HB:=qA;clear aY fK qA;(try clear hb);(try clear hb2);(try clear hk);(try clear hi)))
        go_roundg k1
        case measure=>have:=jM.out;omega
        case rel=>exact⟨(wrap64 (x10_1+1)),(by first | rfl | (simp;done) | (simp [*];done)),H',⟨by have:=jM.out;omega⟩,⟨by(with_reducible repeat (first | apply Kd.dI | apply Kd.dJ | apply Kd.dR));exact bY.out⟩,⟨by(with_reducible repeat (first | apply Kd.dI | apply Kd.dJ | apply Kd.dR));exact nH.out⟩,⟨by repeat (first | (with_reducible first | exact HB.out | apply aj | apply ah | apply ak) | exact HB.out)⟩⟩
       ·replace c9:=Bool.eq_false_iff.mpr c9
        subst c9
        have H1:(some false)=some r:=by rw [if_neg (show ¬(false=true) by decide)] at H;exact H
        clear H
        have H:=H1
        clear H1
        obtain rfl:=Option.some.inj H
        have Gm:0≤(x10_1:Int):=of_decide_eq_true (by first | (with_reducible assumption) | assumption)
        have Gn:x10_1<(fO.length:Int):=of_decide_eq_true (by first | (with_reducible assumption) | assumption)
        obtain⟨adw,Zr,aa3⟩:=Kd.aQ (Kd.bD nH.out).2.2 x10_1 Gm Gn
        cases Zr
        replace Gm:=eq_true Gm
        replace Gn:=eq_true Gn
        go_wp2_with (first | ((with_reducible refine aH (f:=146) rfl ?_);refine bW (some 21) rfl rfl Tryz.func146 (by kernel_rfl) rfl #[.string (aK ByteArray.empty fO x10_1), .bool (x10_1==(wrap64 ((fO.length:Int) - 1)))] rfl (by(try simp only [List.map_toArray,List.map_cons,List.map_nil]);first | done | rfl | (simp only [List.length_drop,List.length_take];rfl)) ?_;(with_reducible refine(jE.calls (aK ByteArray.empty fO x10_1) (x10_1==(wrap64 ((fO.length:Int) - 1))) false _ A8.out).mono ?_);rintro e w11 ⟨rfl,hb⟩;refine⟨_,rfl,?_⟩;have aY:=Aside0.mk (Kd.iZ (by(with_reducible repeat (first | apply Kd.dI | apply Kd.dJ | apply Kd.dR));exact bY.out) hb);have fK:=Aside0.mk (Kd.iZ (by(with_reducible repeat (first | apply Kd.dI | apply Kd.dJ | apply Kd.dR));exact nH.out) hb);have qA:=Aside0.mk (aJ (by repeat (first | (with_reducible first | exact HB.out | apply aj | apply ah | apply ak) | exact HB.out)) hb);clear bY;clear nH;clear HB;have bY:=aY;have nH:=fK;have HB:=qA;clear aY fK qA;(try clear hb);(try clear hb2);(try clear hk);(try clear hi)))
        go_ret
        exact⟨by first | rfl | (simp [aA,aC]<;>rfl) | (simp [*,aA,aC]<;>rfl),by repeat (first | (with_reducible first | exact HB.out | apply aj | apply ah | apply ak) | exact HB.out)⟩
      ·rw [if_neg c7] at H
       exact absurd H (by simp)
     ·rw [if_neg c6] at H
      exact absurd H (by simp)
    ·rw [if_neg c5] at H
     have rV:decide (x10_1<(fO.length:Int))=false:=decide_eq_false c5
     clear c5
     replace H:=Option.bind_eq_some_iff.mp H
     obtain⟨U9,P6,H⟩:=H
     replace H:(if U9=true then (if a0.toList=([]:List UInt8) then (some false) else (some (decide ((fO.length:Int)≤6)))) else (some false))=some r:=H
     have Ya:=Aside0.mk P6
     clear P6
     by_cases c13:U9=true
     ·subst c13
      have H1:(if a0.toList=([]:List UInt8) then (some false) else (some (decide ((fO.length:Int)≤6))))=some r:=by rw [if_pos rfl] at H;exact H
      clear H
      have H:=H1
      clear H1
      by_cases c14:a0.toList=([]:List UInt8)
      ·rw [if_pos c14] at H
       have oI:(a0.toList==([]:List UInt8))=true:=beq_iff_eq.mpr c14
       have Vb:(a0.toList !=([]:List UInt8))=false:=bne_eq_false_iff_eq.mpr c14
       clear c14
       obtain rfl:=Option.some.inj H
       go_wp2_with (first | ((with_reducible refine aH (f:=147) rfl ?_);refine bW (some 25) rfl rfl Tryz.func147 (by kernel_rfl) rfl #[.string a0] rfl (by(try simp only [List.map_toArray,List.map_cons,List.map_nil]);first | done | rfl | (simp only [List.length_drop,List.length_take];rfl)) ?_;(with_reducible refine(eP.calls a0 true _ ?dP Ya.out).mono ?_);(case dP=>exact Tabs.below HT.out (by repeat (first | (with_reducible first | exact HB.out | apply aj | apply ah | apply ak) | exact HB.out)));rintro e w15 ⟨rfl,hb⟩;refine⟨_,rfl,?_⟩;have aY:=Aside0.mk (Kd.iZ (by(with_reducible repeat (first | apply Kd.dI | apply Kd.dJ | apply Kd.dR));exact bY.out) hb);have fK:=Aside0.mk (Kd.iZ (by(with_reducible repeat (first | apply Kd.dI | apply Kd.dJ | apply Kd.dR));exact nH.out) hb);have qA:=Aside0.mk (aJ (by repeat (first | (with_reducible first | exact HB.out | apply aj | apply ah | apply ak) | exact HB.out)) hb);clear bY;clear nH;clear HB;have bY:=aY;have nH:=fK;have HB:=qA;clear aY fK qA;(try clear hb);(try clear hb2);(try clear hk);(try clear hi)))
       go_ret
       exact⟨by first | rfl | (simp [aA,aC]<;>rfl) | (simp [*,aA,aC]<;>rfl),by repeat (first | (with_reducible first | exact HB.out | apply aj | apply ah | apply ak) | exact HB.out)⟩
      ·rw [if_neg c14] at H
       have oI:(a0.toList==([]:List UInt8))=false:=beq_eq_false_iff_ne.mpr c14
       have Vb:(a0.toList !=([]:List UInt8))=true:=bne_iff_ne.mpr c14
       obtain rfl:=Option.some.inj H
       go_wp2_with (first | ((with_reducible refine aH (f:=147) rfl ?_);refine bW (some 25) rfl rfl Tryz.func147 (by kernel_rfl) rfl #[.string a0] rfl (by(try simp only [List.map_toArray,List.map_cons,List.map_nil]);first | done | rfl | (simp only [List.length_drop,List.length_take];rfl)) ?_;(with_reducible refine(eP.calls a0 true _ ?dP Ya.out).mono ?_);(case dP=>exact Tabs.below HT.out (by repeat (first | (with_reducible first | exact HB.out | apply aj | apply ah | apply ak) | exact HB.out)));rintro e w16 ⟨rfl,hb⟩;refine⟨_,rfl,?_⟩;have aY:=Aside0.mk (Kd.iZ (by(with_reducible repeat (first | apply Kd.dI | apply Kd.dJ | apply Kd.dR));exact bY.out) hb);have fK:=Aside0.mk (Kd.iZ (by(with_reducible repeat (first | apply Kd.dI | apply Kd.dJ | apply Kd.dR));exact nH.out) hb);have qA:=Aside0.mk (aJ (by repeat (first | (with_reducible first | exact HB.out | apply aj | apply ah | apply ak) | exact HB.out)) hb);clear bY;clear nH;clear HB;have bY:=aY;have nH:=fK;have HB:=qA;clear aY fK qA;(try clear hb);(try clear hb2);(try clear hk);(try clear hi)))
       go_ret
       exact⟨by first | rfl | (simp [aA,aC]<;>rfl) | (simp [*,aA,aC]<;>rfl),by repeat (first | (with_reducible first | exact HB.out | apply aj | apply ah | apply ak) | exact HB.out)⟩
     ·replace c13:=Bool.eq_false_iff.mpr c13
      subst c13
      have H1:(some false)=some r:=by rw [if_neg (show ¬(false=true) by decide)] at H;exact H
      clear H
      have H:=H1
      clear H1
      obtain rfl:=Option.some.inj H
      go_wp2_with (first | ((with_reducible refine aH (f:=147) rfl ?_);refine bW (some 25) rfl rfl Tryz.func147 (by kernel_rfl) rfl #[.string a0] rfl (by(try simp only [List.map_toArray,List.map_cons,List.map_nil]);first | done | rfl | (simp only [List.length_drop,List.length_take];rfl)) ?_;(with_reducible refine(eP.calls a0 false _ ?dP Ya.out).mono ?_);(case dP=>exact Tabs.below HT.out (by repeat (first | (with_reducible first | exact HB.out | apply aj | apply ah | apply ak) | exact HB.out)));rintro e w17 ⟨rfl,hb⟩;refine⟨_,rfl,?_⟩;have aY:=Aside0.mk (Kd.iZ (by(with_reducible repeat (first | apply Kd.dI | apply Kd.dJ | apply Kd.dR));exact bY.out) hb);have fK:=Aside0.mk (Kd.iZ (by(with_reducible repeat (first | apply Kd.dI | apply Kd.dJ | apply Kd.dR));exact nH.out) hb);have qA:=Aside0.mk (aJ (by repeat (first | (with_reducible first | exact HB.out | apply aj | apply ah | apply ak) | exact HB.out)) hb);clear bY;clear nH;clear HB;have bY:=aY;have nH:=fK;have HB:=qA;clear aY fK qA;(try clear hb);(try clear hb2);(try clear hk);(try clear hi)))
      go_ret
      exact⟨by first | rfl | (simp [aA,aC]<;>rfl) | (simp [*,aA,aC]<;>rfl),by repeat (first | (with_reducible first | exact HB.out | apply aj | apply ah | apply ak) | exact HB.out)⟩
def bf.l0:Nat→ByteArray→List ByteArray→Int→Int→Option (List ByteArray)
 | 0,_,_,_,_=>none
 | k+1,x0,x3,x4,x5=>if x5≤(x0.size:Int) then (if x5=(x0.size:Int) then (if 0≤x4 then (if x4≤x5 then (if x3.length<8796093022208 then (bf.l0 k x0 (x3++[x0.extract (x4:Int).toNat (x5:Int).toNat]) (wrap64 (x5+1)) (wrap64 (x5+1))) else (none)) else (none)) else (none)) else (if 0≤x5 then (if x5<(x0.size:Int) then (if (bt x0 x5)=47 then (if 0≤x4 then (if x4≤x5 then (if x3.length<8796093022208 then (bf.l0 k x0 (x3++[x0.extract (x4:Int).toNat (x5:Int).toNat]) (wrap64 (x5+1)) (wrap64 (x5+1))) else (none)) else (none)) else (none)) else (bf.l0 k x0 x3 x4 (wrap64 (x5+1)))) else (none)) else (none))) else (some x3)
def bf.f (k:Nat) (a0:ByteArray):Option (List ByteArray):=bf.l0 k a0 (([]:List ByteArray)) 0 0
set_option maxHeartbeats 8000000 in
set_option maxRecDepth 100000 in
theorem bf.calls (k:Nat) (a0:ByteArray) (r:List ByteArray) (w:World) (h:bf.f k a0=some r):
  Calls Tryz.prog 108 #[.string a0] w fun e w'=>∃Bf:Value,e= .returned (Bf)∧Kd.R Kd.string 9 w' w.heap.size (fun _=>True) Bf r∧Below w.heap.size w w':=by
 have HB:=Aside0.mk (Below.refl w.heap.size w)
 have H:(bf.l0 k a0 (([]:List ByteArray)) 0 0)=some r:=h
 clear h
 obtain⟨acD,I7⟩:∃y_:List ByteArray,y_=(([]:List ByteArray)):=⟨_,rfl⟩
 replace H:(bf.l0 k a0 acD 0 0)=some r:=by first | (rw [I7];with_reducible exact H) | (have Dj:=(Option.bind_some _ _).symm.trans H;rw [I7];with_reducible exact Dj) | (have Dj:=(Option.bind_some _ _).symm.trans H;with_reducible exact Dj) | with_reducible exact H | (rw [I7];exact H) | exact H
 have aaf:=Aside0.mk I7
 clear I7
 have H':=Aside0.mk H
 clear H
 go_enter Tryz.func108,Tryz.ntmps108
 go_wp2_with (first | ((with_reducible refine Fa (N:=6) rfl ?_);refine Kd.acV Kd.string _ 9 ?hg (N:=6) ?hd (xs:=([]:List ByteArray)) (inner:=[]) (ok:=fun _=>True) (kU:=fun _=>True) ?hr ?hp (fun _ hk=>hk) trivial (Below.refl _ _) (Nat.le_refl _) (by simp) ?_;(case hd=>rfl);(case hg=>rfl);(case hr=>first | (go_simp;done) | (go_simp;rfl));(case hp=>exact(cO.none _ _));intro v117 w2 ho3 hb hg_ adx;clear hg_ adx;(first | rw [←aaf.out] at ho3 | (simp only [Int.reduceToNat] at ho3;rw [←aaf.out] at ho3));have aY:=Aside0.mk (Kd.lu ho3 (iQ (by repeat (first | (with_reducible first | exact HB.out | apply aj | apply ah | apply ak) | exact HB.out))));have fK:=Aside0.mk (aJ (by repeat (first | (with_reducible first | exact HB.out | apply aj | apply ah | apply ak) | exact HB.out)) hb);clear HB;have ady:=aY;have HB:=fK;clear aY fK;clear hb ho3))
 go_loopg [3,4,5] k (fun kq v3 v4 v5 w'=>∃(x3_1:List ByteArray) (x4_1:Int) (x5_1:Int),v4= .int .i64 x4_1∧v5= .int .i64 x5_1∧Aside0 (bf.l0 kq a0 x3_1 x4_1 x5_1=some r)∧Aside0 (kq≤k)∧Aside0 (Kd.R Kd.string 9 w' w.heap.size (fun _=>True) v3 x3_1)∧Aside0 (Below w.heap.size w w'))
 case atStart=>exact⟨(acD),(0),(0),(by first | rfl | (simp;done) | (simp [*];done)),(by first | rfl | (simp;done) | (simp [*];done)),H',⟨Nat.le_refl _⟩,⟨by(with_reducible repeat (first | apply Kd.dI | apply Kd.dJ | apply Kd.dR));exact ady.out⟩,⟨by repeat (first | (with_reducible first | exact HB.out | apply aj | apply ah | apply ak) | exact HB.out)⟩⟩
 case round=>
  clear H'
  try clear c1
  try clear p2
  obtain⟨x3_1,x4_1,x5_1,rfl,rfl,HA,jM,bY,HB⟩:=hrel
  cases gk with
  | zero=>exact absurd HA.out (by simp [bf.l0])
  | succ k1=>
    have H:=HA.out
    clear HA
    simp only [bf.l0] at H
    by_cases c4:x5_1≤(a0.size:Int)
    ·rw [if_pos c4] at H
     have jD:decide (x5_1≤(a0.size:Int))=true:=decide_eq_true c4
     clear c4
     by_cases c5:x5_1=(a0.size:Int)
     ·rw [if_pos c5] at H
      have rV:(x5_1==(a0.size:Int))=true:=beq_iff_eq.mpr c5
      have Di:(x5_1 !=(a0.size:Int))=false:=bne_eq_false_iff_eq.mpr c5
      clear c5
      by_cases c6:0≤x4_1
      ·rw [if_pos c6] at H
       have rX:=eq_true c6
       have P7:decide (0≤x4_1)=true:=decide_eq_true c6
       clear c6
       by_cases c7:x4_1≤x5_1
       ·rw [if_pos c7] at H
        have rW:=eq_true c7
        have Gl:decide (x4_1≤x5_1)=true:=decide_eq_true c7
        clear c7
        have zK:=eq_true (of_decide_eq_true (by first | (with_reducible assumption) | assumption):x5_1≤(a0.size:Int))
        by_cases c9:x3_1.length<8796093022208
        ·rw [if_pos c9] at H
         have aeC:=Aside0.mk c9
         clear c9
         obtain⟨acE,I8⟩:∃y_:List ByteArray,y_=(x3_1++[a0.extract (x4_1:Int).toNat (x5_1:Int).toNat]):=⟨_,rfl⟩
         replace H:(bf.l0 k1 a0 acE (wrap64 (x5_1+1)) (wrap64 (x5_1+1)))=some r:=by first | (rw [I8];with_reducible exact H) | (have Dj:=(Option.bind_some _ _).symm.trans H;rw [I8];with_reducible exact Dj) | (have Dj:=(Option.bind_some _ _).symm.trans H;with_reducible exact Dj) | with_reducible exact H | (rw [I8];exact H) | exact H
         have adz:=Aside0.mk I8
         clear I8
         have H':=Aside0.mk H
         clear H
         go_wp2_with (first | ((with_reducible refine Au (b:= .append) (xs:=#[.tmp 23, .tmp 28]) rfl ?_);at_builtin;refine Kd.NP Kd.string (w0:=w) w.heap.size rfl (.tmp 23) (.tmp 28) 22 9 (.string ⟨#[]⟩) 16 rfl Tryz.underlying22 info9 rfl (by decide) (by omega) u3 x3_1 (a0.extract (x4_1:Int).toNat (x5_1:Int).toNat) [.string (a0.extract (x4_1:Int).toNat (x5_1:Int).toNat)] (fun _=>True) (fun _=>False) rfl rfl ?aP (fun _ hk=>hk.elim) ?aF ?aO ?aB ?aS ?aL ?_;(case aP=>exact rfl);(case aB=>exact(by repeat (first | (with_reducible first | exact HB.out | apply aj | apply ah | apply ak) | exact HB.out)));(case aF=>exact(fun _ _=>trivial));(case aO=>exact(by(with_reducible repeat (first | apply Kd.dI | apply Kd.dJ | apply Kd.dR));exact bY.out));(case aS=>exact(iQ (by repeat (first | (with_reducible first | exact HB.out | apply aj | apply ah | apply ak) | exact HB.out))));(case aL=>have:=aeC.out;omega);intro afi w10 ho hb hg hat;rw [←adz.out] at ho;have aY:=Aside0.mk (hb);have fK:=Aside0.mk (ho);clear HB;clear bY;have HB:=aY;have adA:=fK;clear aY fK;clear ho hb hg hat))
         go_roundg k1
         case measure=>have:=jM.out;omega
         case rel=>exact⟨(acE),(wrap64 (x5_1+1)),(wrap64 (x5_1+1)),(by first | rfl | (simp;done) | (simp [*];done)),(by first | rfl | (simp;done) | (simp [*];done)),H',⟨by have:=jM.out;omega⟩,⟨by(with_reducible repeat (first | apply Kd.dI | apply Kd.dJ | apply Kd.dR));exact adA.out⟩,⟨by repeat (first | (with_reducible first | exact HB.out | apply aj | apply ah | apply ak) | exact HB.out)⟩⟩
        ·rw [if_neg c9] at H
         exact absurd H (by simp)
       ·rw [if_neg c7] at H
        exact absurd H (by simp)
      ·rw [if_neg c6] at H
       exact absurd H (by simp)
     ·rw [if_neg c5] at H
      have rV:(x5_1==(a0.size:Int))=false:=beq_eq_false_iff_ne.mpr c5
      have Di:(x5_1 !=(a0.size:Int))=true:=bne_iff_ne.mpr c5
      by_cases c11:0≤x5_1
      ·rw [if_pos c11] at H
       have nO:decide (0≤x5_1)=true:=decide_eq_true c11
       clear c11
       by_cases c12:x5_1<(a0.size:Int)
       ·rw [if_pos c12] at H
        have Ny:decide (x5_1<(a0.size:Int))=true:=decide_eq_true c12
        clear c12
        by_cases c14:(bt a0 x5_1)=47
        ·rw [if_pos c14] at H
         have oI:((bt a0 x5_1)==47)=true:=beq_iff_eq.mpr c14
         have Vb:((bt a0 x5_1) !=47)=false:=bne_eq_false_iff_eq.mpr c14
         clear c14
         by_cases c15:0≤x4_1
         ·rw [if_pos c15] at H
          have aag:=eq_true c15
          have aah:decide (0≤x4_1)=true:=decide_eq_true c15
          clear c15
          by_cases c16:x4_1≤x5_1
          ·rw [if_pos c16] at H
           have Nz:=eq_true c16
           have ae6:decide (x4_1≤x5_1)=true:=decide_eq_true c16
           clear c16
           have NC:=eq_true (of_decide_eq_true (by first | (with_reducible assumption) | assumption):x5_1≤(a0.size:Int))
           by_cases c18:x3_1.length<8796093022208
           ·rw [if_pos c18] at H
            have adB:=Aside0.mk c18
            clear c18
            obtain⟨acF,I9⟩:∃y_:List ByteArray,y_=(x3_1++[a0.extract (x4_1:Int).toNat (x5_1:Int).toNat]):=⟨_,rfl⟩
            replace H:(bf.l0 k1 a0 acF (wrap64 (x5_1+1)) (wrap64 (x5_1+1)))=some r:=by first | (rw [I9];with_reducible exact H) | (have Dj:=(Option.bind_some _ _).symm.trans H;rw [I9];with_reducible exact Dj) | (have Dj:=(Option.bind_some _ _).symm.trans H;with_reducible exact Dj) | with_reducible exact H | (rw [I9];exact H) | exact H
            have adC:=Aside0.mk I9
            clear I9
            have H':=Aside0.mk H
            clear H
            have p13:0≤(x5_1:Int):=of_decide_eq_true (by first | (with_reducible assumption) | assumption)
            have q13:x5_1<(a0.size:Int):=of_decide_eq_true (by first | (with_reducible assumption) | assumption)
            have aeD:=o7 a0 x5_1
            replace p13:=eq_true p13
            replace q13:=eq_true q13
            go_wp2_with (first | ((with_reducible refine Au (b:= .append) (xs:=#[.tmp 23, .tmp 28]) rfl ?_);at_builtin;refine Kd.NP Kd.string (w0:=w) w.heap.size rfl (.tmp 23) (.tmp 28) 22 9 (.string ⟨#[]⟩) 16 rfl Tryz.underlying22 info9 rfl (by decide) (by omega) u3 x3_1 (a0.extract (x4_1:Int).toNat (x5_1:Int).toNat) [.string (a0.extract (x4_1:Int).toNat (x5_1:Int).toNat)] (fun _=>True) (fun _=>False) rfl rfl ?aP (fun _ hk=>hk.elim) ?aF ?aO ?aB ?aS ?aL ?_;(case aP=>exact rfl);(case aB=>exact(by repeat (first | (with_reducible first | exact HB.out | apply aj | apply ah | apply ak) | exact HB.out)));(case aF=>exact(fun _ _=>trivial));(case aO=>exact(by(with_reducible repeat (first | apply Kd.dI | apply Kd.dJ | apply Kd.dR));exact bY.out));(case aS=>exact(iQ (by repeat (first | (with_reducible first | exact HB.out | apply aj | apply ah | apply ak) | exact HB.out))));(case aL=>have:=adB.out;omega);intro afj w19 ho hb hg hat;rw [←adC.out] at ho;have aY:=Aside0.mk (hb);have fK:=Aside0.mk (ho);clear HB;clear bY;have HB:=aY;have adD:=fK;clear aY fK;clear ho hb hg hat))
            go_roundg k1
            case measure=>have:=jM.out;omega
            case rel=>exact⟨(acF),(wrap64 (x5_1+1)),(wrap64 (x5_1+1)),(by first | rfl | (simp;done) | (simp [*];done)),(by first | rfl | (simp;done) | (simp [*];done)),H',⟨by have:=jM.out;omega⟩,⟨by(with_reducible repeat (first | apply Kd.dI | apply Kd.dJ | apply Kd.dR));exact adD.out⟩,⟨by repeat (first | (with_reducible first | exact HB.out | apply aj | apply ah | apply ak) | exact HB.out)⟩⟩
           ·rw [if_neg c18] at H
            exact absurd H (by simp)
          ·rw [if_neg c16] at H
           exact absurd H (by simp)
         ·rw [if_neg c15] at H
          exact absurd H (by simp)
        ·rw [if_neg c14] at H
         have oI:((bt a0 x5_1)==47)=false:=beq_eq_false_iff_ne.mpr c14
         have Vb:((bt a0 x5_1) !=47)=true:=bne_iff_ne.mpr c14
         have H':=Aside0.mk H
         clear H
         have p13:0≤(x5_1:Int):=of_decide_eq_true (by first | (with_reducible assumption) | assumption)
         have q13:x5_1<(a0.size:Int):=of_decide_eq_true (by first | (with_reducible assumption) | assumption)
         have aeD:=o7 a0 x5_1
         replace p13:=eq_true p13
         replace q13:=eq_true q13
         go_wp2
         go_roundg k1
         case measure=>have:=jM.out;omega
         case rel=>exact⟨(x3_1),(x4_1),(wrap64 (x5_1+1)),(by first | rfl | (simp;done) | (simp [*];done)),(by first | rfl | (simp;done) | (simp [*];done)),H',⟨by have:=jM.out;omega⟩,⟨by(with_reducible repeat (first | apply Kd.dI | apply Kd.dJ | apply Kd.dR));exact bY.out⟩,⟨by repeat (first | (with_reducible first | exact HB.out | apply aj | apply ah | apply ak) | exact HB.out)⟩⟩
       ·rw [if_neg c12] at H
        exact absurd H (by simp)
      ·rw [if_neg c11] at H
       exact absurd H (by simp)
    ·rw [if_neg c4] at H
     have jD:decide (x5_1≤(a0.size:Int))=false:=decide_eq_false c4
     clear c4
     obtain rfl:=Option.some.inj H
     go_wp2
     go_ret
     exact⟨_,by first | rfl | (simp [aA,aC]<;>rfl) | (simp [*,aA,aC]<;>rfl),by(with_reducible repeat (first | apply Kd.dI | apply Kd.dJ | apply Kd.dR));exact bY.out,by repeat (first | (with_reducible first | exact HB.out | apply aj | apply ah | apply ak) | exact HB.out)⟩
end Go.Proofs.YtcnfgfomholheaaGreatDoor.P
