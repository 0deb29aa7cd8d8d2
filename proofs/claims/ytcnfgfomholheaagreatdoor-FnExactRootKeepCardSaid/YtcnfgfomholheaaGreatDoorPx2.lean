import Derived.Test.YtcnfgfomholheaaGreatDoorPx0
import Derived.Test.YtcnfgfomholheaaGreatDoorPx1
import Derived.Test.YtcnfgfomholheaaGreatDoorX12
import Derived.Test.YtcnfgfomholheaaGreatDoorX5
namespace Go.Proofs.YtcnfgfomholheaaGreatDoor.P
open Go.RowKit Go.Proofs.YtcnfgfomholheaaGreatDoor.X Go.Proofs.YtcnfgfomholheaaGreatDoorW.PrintWords Go.Proofs.YtcnfgfomholheaaGreatDoorW.PrintLast Go.Proofs.YtcnfgfomholheaaGreatDoorW.PrintMore
attribute [local go_sem] mW mX pz pF lD lF mY mZ
set_option linter.unusedVariables false
set_option linter.unusedSimpArgs false
def nK.f (a0:ByteArray):Option (Bool):=(eH.f a0).bind fun Ko=>(if Ko=true then (if a0.toList=([]:List UInt8) then (some false) else ((strings_ContainsAny.f a0 (⟨#[43,35]⟩:ByteArray)).bind fun t105=>(if t105=true then (some false) else ((fH.f a0).bind fun qH=>(some (decide ((qH.length:Int)≤6))))))) else (some false))
set_option maxHeartbeats 8000000 in
set_option maxRecDepth 100000 in
theorem nK.calls (a0:ByteArray) (r:Bool) (w:World) (hT:Tabs w) (h:nK.f a0=some r):
  Calls Tryz.prog 149 #[.string a0] w fun e w'=>e= .returned (.bool r)∧Below w.heap.size w w':=by
 have HT:=Aside0.mk hT
 clear hT
 have HB:=Aside0.mk (Below.refl w.heap.size w)
 have H:((eH.f a0).bind fun Ko=>(if Ko=true then (if a0.toList=([]:List UInt8) then (some false) else ((strings_ContainsAny.f a0 (⟨#[43,35]⟩:ByteArray)).bind fun t105=>(if t105=true then (some false) else ((fH.f a0).bind fun qH=>(some (decide ((qH.length:Int)≤6))))))) else (some false)))=some r:=h
 clear h
 replace H:=Option.bind_eq_some_iff.mp H
 obtain⟨Ko,pX,H⟩:=H
 replace H:(if Ko=true then (if a0.toList=([]:List UInt8) then (some false) else ((strings_ContainsAny.f a0 (⟨#[43,35]⟩:ByteArray)).bind fun t105=>(if t105=true then (some false) else ((fH.f a0).bind fun qH=>(some (decide ((qH.length:Int)≤6))))))) else (some false))=some r:=H
 have A2:=Aside0.mk pX
 clear pX
 by_cases c3:Ko=true
 ·subst c3
  have H1:(if a0.toList=([]:List UInt8) then (some false) else ((strings_ContainsAny.f a0 (⟨#[43,35]⟩:ByteArray)).bind fun t105=>(if t105=true then (some false) else ((fH.f a0).bind fun qH=>(some (decide ((qH.length:Int)≤6)))))))=some r:=by rw [if_pos rfl] at H;exact H
  clear H
  have H:=H1
  clear H1
  by_cases c4:a0.toList=([]:List UInt8)
  ·rw [if_pos c4] at H
   have kJ:(a0.toList==([]:List UInt8))=true:=beq_iff_eq.mpr c4
   have Y5:(a0.toList !=([]:List UInt8))=false:=bne_eq_false_iff_eq.mpr c4
   clear c4
   obtain rfl:=Option.some.inj H
   go_enter Tryz.func149,Tryz.ntmps149
   go_wp2_with (first | ((with_reducible refine bn (f:=147) rfl ?_);refine dN (some 4) rfl rfl Tryz.func147 (by kernel_rfl) rfl #[.string a0] rfl (by(try simp only [List.map_toArray,List.map_cons,List.map_nil]);first | done | rfl | (simp only [List.length_drop,List.length_take];rfl)) ?_;(with_reducible refine(eH.calls a0 true _ ?jv A2.out).mono ?_);(case jv=>exact Tabs.below HT.out (by repeat (first | (with_reducible first | exact HB.out | apply aj | apply ah | apply ak) | exact HB.out)));rintro e w5 ⟨rfl,hb⟩;refine⟨_,rfl,?_⟩;have cZ:=Aside0.mk (bG (by repeat (first | (with_reducible first | exact HB.out | apply aj | apply ah | apply ak) | exact HB.out)) hb);clear HB;have HB:=cZ;clear cZ;(try clear hb);(try clear hb2);(try clear hk);(try clear hi)))
   go_ret
   exact⟨by first | rfl | (simp [aJ,aK]<;>rfl) | (simp [*,aJ,aK]<;>rfl),by repeat (first | (with_reducible first | exact HB.out | apply aj | apply ah | apply ak) | exact HB.out)⟩
  ·rw [if_neg c4] at H
   have kJ:(a0.toList==([]:List UInt8))=false:=beq_eq_false_iff_ne.mpr c4
   have Y5:(a0.toList !=([]:List UInt8))=true:=bne_iff_ne.mpr c4
   replace H:=Option.bind_eq_some_iff.mp H
   obtain⟨t105,LV,H⟩:=H
   replace H:(if t105=true then (some false) else ((fH.f a0).bind fun qH=>(some (decide ((qH.length:Int)≤6)))))=some r:=H
   have A6:=Aside0.mk LV
   clear LV
   by_cases c7:t105=true
   ·subst c7
    have H1:(some false)=some r:=by rw [if_pos rfl] at H;exact H
    clear H
    have H:=H1
    clear H1
    obtain rfl:=Option.some.inj H
    go_enter Tryz.func149,Tryz.ntmps149
    go_wp2_with (first | ((with_reducible refine bn (f:=147) rfl ?_);refine dN (some 4) rfl rfl Tryz.func147 (by kernel_rfl) rfl #[.string a0] rfl (by(try simp only [List.map_toArray,List.map_cons,List.map_nil]);first | done | rfl | (simp only [List.length_drop,List.length_take];rfl)) ?_;(with_reducible refine(eH.calls a0 true _ ?jv A2.out).mono ?_);(case jv=>exact Tabs.below HT.out (by repeat (first | (with_reducible first | exact HB.out | apply aj | apply ah | apply ak) | exact HB.out)));rintro e w8 ⟨rfl,hb⟩;refine⟨_,rfl,?_⟩;have cZ:=Aside0.mk (bG (by repeat (first | (with_reducible first | exact HB.out | apply aj | apply ah | apply ak) | exact HB.out)) hb);clear HB;have HB:=cZ;clear cZ;(try clear hb);(try clear hb2);(try clear hk);(try clear hi)) | (go_at_call 193;(with_reducible refine(strings_ContainsAny.calls a0 (⟨#[43,35]⟩:ByteArray) true _ A6.out).mono ?_);rintro e w9 ⟨rfl,hb⟩;have cZ:=Aside0.mk (bG (by repeat (first | (with_reducible first | exact HB.out | apply aj | apply ah | apply ak) | exact HB.out)) hb);clear HB;have HB:=cZ;clear cZ;(try clear hb);(try clear hb2);(try clear hk);(try clear hi)))
    go_ret
    exact⟨by first | rfl | (simp [aJ,aK]<;>rfl) | (simp [*,aJ,aK]<;>rfl),by repeat (first | (with_reducible first | exact HB.out | apply aj | apply ah | apply ak) | exact HB.out)⟩
   ·replace c7:=Bool.eq_false_iff.mpr c7
    subst c7
    have H1:((fH.f a0).bind fun qH=>(some (decide ((qH.length:Int)≤6))))=some r:=by rw [if_neg (show ¬(false=true) by decide)] at H;exact H
    clear H
    have H:=H1
    clear H1
    replace H:=Option.bind_eq_some_iff.mp H
    obtain⟨qH,acA,H⟩:=H
    replace H:(some (decide ((qH.length:Int)≤6)))=some r:=H
    have A10:=Aside0.mk acA
    clear acA
    obtain rfl:=Option.some.inj H
    go_enter Tryz.func149,Tryz.ntmps149
    go_wp2_with (first | ((with_reducible refine bn (f:=147) rfl ?_);refine dN (some 4) rfl rfl Tryz.func147 (by kernel_rfl) rfl #[.string a0] rfl (by(try simp only [List.map_toArray,List.map_cons,List.map_nil]);first | done | rfl | (simp only [List.length_drop,List.length_take];rfl)) ?_;(with_reducible refine(eH.calls a0 true _ ?jv A2.out).mono ?_);(case jv=>exact Tabs.below HT.out (by repeat (first | (with_reducible first | exact HB.out | apply aj | apply ah | apply ak) | exact HB.out)));rintro e w11 ⟨rfl,hb⟩;refine⟨_,rfl,?_⟩;have cZ:=Aside0.mk (bG (by repeat (first | (with_reducible first | exact HB.out | apply aj | apply ah | apply ak) | exact HB.out)) hb);clear HB;have HB:=cZ;clear cZ;(try clear hb);(try clear hb2);(try clear hk);(try clear hi)) | (go_at_call 193;(with_reducible refine(strings_ContainsAny.calls a0 (⟨#[43,35]⟩:ByteArray) false _ A6.out).mono ?_);rintro e w12 ⟨rfl,hb⟩;have cZ:=Aside0.mk (bG (by repeat (first | (with_reducible first | exact HB.out | apply aj | apply ah | apply ak) | exact HB.out)) hb);clear HB;have HB:=cZ;clear cZ;(try clear hb);(try clear hb2);(try clear hk);(try clear hi)) | (go_at_call 101;(with_reducible refine(fH.calls a0 qH _ ?jv A10.out).mono ?_);(case jv=>exact Tabs.below HT.out (by repeat (first | (with_reducible first | exact HB.out | apply aj | apply ah | apply ak) | exact HB.out)));rintro e w13 ⟨v107,rfl,ho0,hb⟩;have cZ:=Aside0.mk (Kd.qL ho0 (jY (by repeat (first | (with_reducible first | exact HB.out | apply aj | apply ah | apply ak) | exact HB.out))));have iw:=Aside0.mk (bG (by repeat (first | (with_reducible first | exact HB.out | apply aj | apply ah | apply ak) | exact HB.out)) hb);clear HB;have adr:=cZ;have HB:=iw;clear cZ iw;(try clear hb);(try clear hb2);(try clear hk);(try clear hi);(try clear ho0);obtain⟨aez,aeA,Y6⟩:=Kd.jq adr.out;subst Y6))
    go_ret
    exact⟨by first | rfl | (simp [aJ,aK]<;>rfl) | (simp [*,aJ,aK]<;>rfl),by repeat (first | (with_reducible first | exact HB.out | apply aj | apply ah | apply ak) | exact HB.out)⟩
 ·replace c3:=Bool.eq_false_iff.mpr c3
  subst c3
  have H1:(some false)=some r:=by rw [if_neg (show ¬(false=true) by decide)] at H;exact H
  clear H
  have H:=H1
  clear H1
  obtain rfl:=Option.some.inj H
  go_enter Tryz.func149,Tryz.ntmps149
  go_wp2_with (first | ((with_reducible refine bn (f:=147) rfl ?_);refine dN (some 4) rfl rfl Tryz.func147 (by kernel_rfl) rfl #[.string a0] rfl (by(try simp only [List.map_toArray,List.map_cons,List.map_nil]);first | done | rfl | (simp only [List.length_drop,List.length_take];rfl)) ?_;(with_reducible refine(eH.calls a0 false _ ?jv A2.out).mono ?_);(case jv=>exact Tabs.below HT.out (by repeat (first | (with_reducible first | exact HB.out | apply aj | apply ah | apply ak) | exact HB.out)));rintro e w15 ⟨rfl,hb⟩;refine⟨_,rfl,?_⟩;have cZ:=Aside0.mk (bG (by repeat (first | (with_reducible first | exact HB.out | apply aj | apply ah | apply ak) | exact HB.out)) hb);clear HB;have HB:=cZ;clear cZ;(try clear hb);(try clear hb2);(try clear hk);(try clear hi)))
  go_ret
  exact⟨by first | rfl | (simp [aJ,aK]<;>rfl) | (simp [*,aJ,aK]<;>rfl),by repeat (first | (with_reducible first | exact HB.out | apply aj | apply ah | apply ak) | exact HB.out)⟩
def jC.f (a0:ByteArray) (a1:Bool):Option (Bool):=(strings_ContainsAny.f a0 (⟨#[43,35]⟩:ByteArray)).bind fun t109=>(if t109=true then (if a0.toList=([43]:List UInt8) then (some true) else (if a0.toList=([35]:List UInt8) then (some a1) else (some false))) else (some true))
set_option maxHeartbeats 8000000 in
set_option maxRecDepth 100000 in
theorem jC.calls (a0:ByteArray) (a1:Bool) (r:Bool) (w:World) (h:jC.f a0 a1=some r):
  Calls Tryz.prog 146 #[.string a0, .bool a1] w fun e w'=>e= .returned (.bool r)∧Below w.heap.size w w':=by
 have HB:=Aside0.mk (Below.refl w.heap.size w)
 have H:((strings_ContainsAny.f a0 (⟨#[43,35]⟩:ByteArray)).bind fun t109=>(if t109=true then (if a0.toList=([43]:List UInt8) then (some true) else (if a0.toList=([35]:List UInt8) then (some a1) else (some false))) else (some true)))=some r:=h
 clear h
 replace H:=Option.bind_eq_some_iff.mp H
 obtain⟨t109,A30,H⟩:=H
 replace H:(if t109=true then (if a0.toList=([43]:List UInt8) then (some true) else (if a0.toList=([35]:List UInt8) then (some a1) else (some false))) else (some true))=some r:=H
 have A3:=Aside0.mk A30
 clear A30
 by_cases c4:t109=true
 ·subst c4
  have H1:(if a0.toList=([43]:List UInt8) then (some true) else (if a0.toList=([35]:List UInt8) then (some a1) else (some false)))=some r:=by rw [if_pos rfl] at H;exact H
  clear H
  have H:=H1
  clear H1
  by_cases c5:a0.toList=([43]:List UInt8)
  ·rw [if_pos c5] at H
   have Kq:(a0.toList==([43]:List UInt8))=true:=beq_iff_eq.mpr c5
   have Y7:(a0.toList !=([43]:List UInt8))=false:=bne_eq_false_iff_eq.mpr c5
   clear c5
   obtain rfl:=Option.some.inj H
   go_enter Tryz.func146,Tryz.ntmps146
   go_wp2_with (first | ((with_reducible refine bn (f:=193) rfl ?_);refine dN (some 6) rfl rfl Tryz.func193 (by kernel_rfl) rfl #[.string a0, .string (⟨#[43,35]⟩:ByteArray)] rfl (by(try simp only [List.map_toArray,List.map_cons,List.map_nil]);first | done | rfl | (simp only [List.length_drop,List.length_take];rfl)) ?_;(with_reducible refine(strings_ContainsAny.calls a0 (⟨#[43,35]⟩:ByteArray) true _ A3.out).mono ?_);rintro e w6 ⟨rfl,hb⟩;refine⟨_,rfl,?_⟩;have cZ:=Aside0.mk (bG (by repeat (first | (with_reducible first | exact HB.out | apply aj | apply ah | apply ak) | exact HB.out)) hb);clear HB;have HB:=cZ;clear cZ;(try clear hb);(try clear hb2);(try clear hk);(try clear hi)))
   go_ret
   exact⟨by first | rfl | (simp [aJ,aK]<;>rfl) | (simp [*,aJ,aK]<;>rfl),by repeat (first | (with_reducible first | exact HB.out | apply aj | apply ah | apply ak) | exact HB.out)⟩
  ·rw [if_neg c5] at H
   have Kq:(a0.toList==([43]:List UInt8))=false:=beq_eq_false_iff_ne.mpr c5
   have Y7:(a0.toList !=([43]:List UInt8))=true:=bne_iff_ne.mpr c5
   by_cases c7:a0.toList=([35]:List UInt8)
   ·rw [if_pos c7] at H
    have Dt:(a0.toList==([35]:List UInt8))=true:=beq_iff_eq.mpr c7
    have acB:(a0.toList !=([35]:List UInt8))=false:=bne_eq_false_iff_eq.mpr c7
    clear c7
    obtain rfl:=Option.some.inj H
    go_enter Tryz.func146,Tryz.ntmps146
    go_wp2_with (first | ((with_reducible refine bn (f:=193) rfl ?_);refine dN (some 6) rfl rfl Tryz.func193 (by kernel_rfl) rfl #[.string a0, .string (⟨#[43,35]⟩:ByteArray)] rfl (by(try simp only [List.map_toArray,List.map_cons,List.map_nil]);first | done | rfl | (simp only [List.length_drop,List.length_take];rfl)) ?_;(with_reducible refine(strings_ContainsAny.calls a0 (⟨#[43,35]⟩:ByteArray) true _ A3.out).mono ?_);rintro e w8 ⟨rfl,hb⟩;refine⟨_,rfl,?_⟩;have cZ:=Aside0.mk (bG (by repeat (first | (with_reducible first | exact HB.out | apply aj | apply ah | apply ak) | exact HB.out)) hb);clear HB;have HB:=cZ;clear cZ;(try clear hb);(try clear hb2);(try clear hk);(try clear hi)))
    go_ret
    exact⟨by first | rfl | (simp [aJ,aK]<;>rfl) | (simp [*,aJ,aK]<;>rfl),by repeat (first | (with_reducible first | exact HB.out | apply aj | apply ah | apply ak) | exact HB.out)⟩
   ·rw [if_neg c7] at H
    have Dt:(a0.toList==([35]:List UInt8))=false:=beq_eq_false_iff_ne.mpr c7
    have acB:(a0.toList !=([35]:List UInt8))=true:=bne_iff_ne.mpr c7
    obtain rfl:=Option.some.inj H
    go_enter Tryz.func146,Tryz.ntmps146
    go_wp2_with (first | ((with_reducible refine bn (f:=193) rfl ?_);refine dN (some 6) rfl rfl Tryz.func193 (by kernel_rfl) rfl #[.string a0, .string (⟨#[43,35]⟩:ByteArray)] rfl (by(try simp only [List.map_toArray,List.map_cons,List.map_nil]);first | done | rfl | (simp only [List.length_drop,List.length_take];rfl)) ?_;(with_reducible refine(strings_ContainsAny.calls a0 (⟨#[43,35]⟩:ByteArray) true _ A3.out).mono ?_);rintro e w9 ⟨rfl,hb⟩;refine⟨_,rfl,?_⟩;have cZ:=Aside0.mk (bG (by repeat (first | (with_reducible first | exact HB.out | apply aj | apply ah | apply ak) | exact HB.out)) hb);clear HB;have HB:=cZ;clear cZ;(try clear hb);(try clear hb2);(try clear hk);(try clear hi)))
    go_ret
    exact⟨by first | rfl | (simp [aJ,aK]<;>rfl) | (simp [*,aJ,aK]<;>rfl),by repeat (first | (with_reducible first | exact HB.out | apply aj | apply ah | apply ak) | exact HB.out)⟩
 ·replace c4:=Bool.eq_false_iff.mpr c4
  subst c4
  have H1:(some true)=some r:=by rw [if_neg (show ¬(false=true) by decide)] at H;exact H
  clear H
  have H:=H1
  clear H1
  obtain rfl:=Option.some.inj H
  go_enter Tryz.func146,Tryz.ntmps146
  go_wp2_with (first | ((with_reducible refine bn (f:=193) rfl ?_);refine dN (some 6) rfl rfl Tryz.func193 (by kernel_rfl) rfl #[.string a0, .string (⟨#[43,35]⟩:ByteArray)] rfl (by(try simp only [List.map_toArray,List.map_cons,List.map_nil]);first | done | rfl | (simp only [List.length_drop,List.length_take];rfl)) ?_;(with_reducible refine(strings_ContainsAny.calls a0 (⟨#[43,35]⟩:ByteArray) false _ A3.out).mono ?_);rintro e w10 ⟨rfl,hb⟩;refine⟨_,rfl,?_⟩;have cZ:=Aside0.mk (bG (by repeat (first | (with_reducible first | exact HB.out | apply aj | apply ah | apply ak) | exact HB.out)) hb);clear HB;have HB:=cZ;clear cZ;(try clear hb);(try clear hb2);(try clear hk);(try clear hi)))
  go_ret
  exact⟨by first | rfl | (simp [aJ,aK]<;>rfl) | (simp [*,aJ,aK]<;>rfl),by repeat (first | (with_reducible first | exact HB.out | apply aj | apply ah | apply ak) | exact HB.out)⟩
def dG.l0:Nat→ByteArray→List ByteArray→List ByteArray→Int→Int→Option (Bool)
 | 0,_,_,_,_,_=>none
 | k+1,x0,x3,x8,x9,x10=>if x10<x9 then (if 0≤x10 then (if x10<(x8.length:Int) then ((jC.f (bW ByteArray.empty x8 x10) (x10==(wrap64 ((x3.length:Int) - 1)))).bind fun U4=>(if U4=true then (dG.l0 k x0 x3 x8 x9 (wrap64 (x10+1))) else (some false))) else (none)) else (none)) else ((eH.f x0).bind fun U5=>(if U5=true then (if x0.toList=([]:List UInt8) then (some false) else (some (decide ((x3.length:Int)≤6)))) else (some false)))
def dG.f (k:Nat) (a0:ByteArray):Option (Bool):=(fH.f a0).bind fun fM=>(dG.l0 k a0 fM fM (fM.length:Int) 0)
set_option maxHeartbeats 8000000 in
set_option maxRecDepth 100000 in
theorem dG.calls (k:Nat) (a0:ByteArray) (r:Bool) (w:World) (hT:Tabs w) (h:dG.f k a0=some r):
  Calls Tryz.prog 77 #[.string a0] w fun e w'=>e= .returned (.bool r)∧Below w.heap.size w w':=by
 have HT:=Aside0.mk hT
 clear hT
 have HB:=Aside0.mk (Below.refl w.heap.size w)
 have H:((fH.f a0).bind fun fM=>(dG.l0 k a0 fM fM (fM.length:Int) 0))=some r:=h
 clear h
 replace H:=Option.bind_eq_some_iff.mp H
 obtain⟨fM,pX,H⟩:=H
 replace H:(dG.l0 k a0 fM fM (fM.length:Int) 0)=some r:=H
 have A2:=Aside0.mk pX
 clear pX
 have H':=Aside0.mk H
 clear H
 go_enter Tryz.func77,Tryz.ntmps77
 go_wp2_with (first | ((with_reducible refine bn (f:=101) rfl ?_);refine dN (some 7) rfl rfl Tryz.func101 (by kernel_rfl) rfl #[.string a0] rfl (by(try simp only [List.map_toArray,List.map_cons,List.map_nil]);first | done | rfl | (simp only [List.length_drop,List.length_take];rfl)) ?_;(with_reducible refine(fH.calls a0 fM _ ?jv A2.out).mono ?_);(case jv=>exact Tabs.below HT.out (by repeat (first | (with_reducible first | exact HB.out | apply aj | apply ah | apply ak) | exact HB.out)));rintro e w3 ⟨afh,rfl,ho0,hb⟩;refine⟨_,rfl,?_⟩;have cZ:=Aside0.mk (Kd.qL ho0 (jY (by repeat (first | (with_reducible first | exact HB.out | apply aj | apply ah | apply ak) | exact HB.out))));have iw:=Aside0.mk (bG (by repeat (first | (with_reducible first | exact HB.out | apply aj | apply ah | apply ak) | exact HB.out)) hb);clear HB;have U6:=cZ;have HB:=iw;clear cZ iw;(try clear hb);(try clear hb2);(try clear hk);(try clear hi);(try clear ho0);obtain⟨Ao4,co4,eo4⟩:=Kd.jq U6.out;subst eo4))
 go_loopg [10] k (fun kq v10 w'=>∃(x10_1:Int),v10= .int .i64 x10_1∧Aside0 (dG.l0 kq a0 fM fM (fM.length:Int) x10_1=some r)∧Aside0 (kq≤k)∧Aside0 (Kd.R Kd.string 9 w' w.heap.size (fun _=>True) (.slice Ao4 fM.length co4) fM)∧Aside0 (Kd.R Kd.string 9 w' w.heap.size (fun _=>True) (.slice Ao4 fM.length co4) fM)∧Aside0 (Below w.heap.size w w'))
 case atStart=>exact⟨(0),(by first | rfl | (simp;done) | (simp [*];done)),H',⟨Nat.le_refl _⟩,⟨by(with_reducible repeat (first | apply Kd.dL | apply Kd.dM | apply Kd.eX));exact U6.out⟩,⟨by(with_reducible repeat (first | apply Kd.dL | apply Kd.dM | apply Kd.eX));exact U6.out⟩,⟨by repeat (first | (with_reducible first | exact HB.out | apply aj | apply ah | apply ak) | exact HB.out)⟩⟩
 case round=>
  clear H'
  try clear c1
  try clear p2
  obtain⟨x10_1,rfl,HA,oz,bY,mJ,HB⟩:=hrel
  cases gk with
  | zero=>exact absurd HA.out (by simp [dG.l0])
  | succ k1=>
    have H:=HA.out
    clear HA
    simp only [dG.l0] at H
    by_cases c5:x10_1<(fM.length:Int)
    ·rw [if_pos c5] at H
     have Kq:decide (x10_1<(fM.length:Int))=true:=decide_eq_true c5
     clear c5
     by_cases c6:0≤x10_1
     ·rw [if_pos c6] at H
      have Du:decide (0≤x10_1)=true:=decide_eq_true c6
      clear c6
      by_cases c7:x10_1<(fM.length:Int)
      ·rw [if_pos c7] at H
       have Dt:decide (x10_1<(fM.length:Int))=true:=decide_eq_true c7
       clear c7
       replace H:=Option.bind_eq_some_iff.mp H
       obtain⟨U4,A80,H⟩:=H
       replace H:(if U4=true then (dG.l0 k1 a0 fM fM (fM.length:Int) (wrap64 (x10_1+1))) else (some false))=some r:=H
       have A8:=Aside0.mk A80
       clear A80
       by_cases c9:U4=true
       ·subst c9
        have H1:(dG.l0 k1 a0 fM fM (fM.length:Int) (wrap64 (x10_1+1)))=some r:=by rw [if_pos rfl] at H;exact H
        clear H
        have H:=H1
        clear H1
        have H':=Aside0.mk H
        clear H
        have Gq:0≤(x10_1:Int):=of_decide_eq_true (by first | (with_reducible assumption) | assumption)
        have Gs:x10_1<(fM.length:Int):=of_decide_eq_true (by first | (with_reducible assumption) | assumption)
        obtain⟨ads,Y8,aaX⟩:=Kd.cO (Kd.bJ mJ.out).2.2 x10_1 Gq Gs
        cases Y8
        replace Gq:=eq_true Gq
        replace Gs:=eq_true Gs
        go_wp2_with (first | ((with_reducible refine bn (f:=146) rfl ?_);refine dN (some 21) rfl rfl Tryz.func146 (by kernel_rfl) rfl #[.string (bW ByteArray.empty fM x10_1), .bool (x10_1==(wrap64 ((fM.length:Int) - 1)))] rfl (by(try simp only [List.map_toArray,List.map_cons,List.map_nil]);first | done | rfl | (simp only [List.length_drop,List.length_take];rfl)) ?_;(with_reducible refine(jC.calls (bW ByteArray.empty fM x10_1) (x10_1==(wrap64 ((fM.length:Int) - 1))) true _ A8.out).mono ?_);rintro e w10 ⟨rfl,hb⟩;refine⟨_,rfl,?_⟩;have cZ:=Aside0.mk (Kd.iV (by(with_reducible repeat (first | apply Kd.dL | apply Kd.dM | apply Kd.eX));exact bY.out) hb);have iw:=Aside0.mk (Kd.iV (by(with_reducible repeat (first | apply Kd.dL | apply Kd.dM | apply Kd.eX));exact mJ.out) hb);have xB:=Aside0.mk (bG (by repeat (first | (with_reducible first | exact HB.out | apply aj | apply ah | apply ak) | exact HB.out)) hb);clear bY;clear mJ;clear HB;have bY:=cZ;have mJ:=iw;have HB:=xB;clear cZ iw xB;(try clear hb);(try clear hb2);(try clear hk);(try clear hi)))
        go_roundg k1
        case measure=>have:=oz.out;omega
        case rel=>exact⟨(wrap64 (x10_1+1)),(by first | rfl | (simp;done) | (simp [*];done)),H',⟨by have:=oz.out;omega⟩,⟨by(with_reducible repeat (first | apply Kd.dL | apply Kd.dM | apply Kd.eX));exact bY.out⟩,⟨by(with_reducible repeat (first | apply Kd.dL | apply Kd.dM | apply Kd.eX));exact mJ.out⟩,⟨by repeat (first | (with_reducible first | exact HB.out | apply aj | apply ah | apply ak) | exact HB.out)⟩⟩
       ·replace c9:=Bool.eq_false_iff.mpr c9
        subst c9
        have H1:(some false)=some r:=by rw [if_neg (show ¬(false=true) by decide)] at H;exact H
        clear H
        have H:=H1
        clear H1
        obtain rfl:=Option.some.inj H
        have Gq:0≤(x10_1:Int):=of_decide_eq_true (by first | (with_reducible assumption) | assumption)
        have Gs:x10_1<(fM.length:Int):=of_decide_eq_true (by first | (with_reducible assumption) | assumption)
        obtain⟨ads,Y8,aaX⟩:=Kd.cO (Kd.bJ mJ.out).2.2 x10_1 Gq Gs
        cases Y8
        replace Gq:=eq_true Gq
        replace Gs:=eq_true Gs
        go_wp2_with (first | ((with_reducible refine bn (f:=146) rfl ?_);refine dN (some 21) rfl rfl Tryz.func146 (by kernel_rfl) rfl #[.string (bW ByteArray.empty fM x10_1), .bool (x10_1==(wrap64 ((fM.length:Int) - 1)))] rfl (by(try simp only [List.map_toArray,List.map_cons,List.map_nil]);first | done | rfl | (simp only [List.length_drop,List.length_take];rfl)) ?_;(with_reducible refine(jC.calls (bW ByteArray.empty fM x10_1) (x10_1==(wrap64 ((fM.length:Int) - 1))) false _ A8.out).mono ?_);rintro e w11 ⟨rfl,hb⟩;refine⟨_,rfl,?_⟩;have cZ:=Aside0.mk (Kd.iV (by(with_reducible repeat (first | apply Kd.dL | apply Kd.dM | apply Kd.eX));exact bY.out) hb);have iw:=Aside0.mk (Kd.iV (by(with_reducible repeat (first | apply Kd.dL | apply Kd.dM | apply Kd.eX));exact mJ.out) hb);have xB:=Aside0.mk (bG (by repeat (first | (with_reducible first | exact HB.out | apply aj | apply ah | apply ak) | exact HB.out)) hb);clear bY;clear mJ;clear HB;have bY:=cZ;have mJ:=iw;have HB:=xB;clear cZ iw xB;(try clear hb);(try clear hb2);(try clear hk);(try clear hi)))
        go_ret
        exact⟨by first | rfl | (simp [aJ,aK]<;>rfl) | (simp [*,aJ,aK]<;>rfl),by repeat (first | (with_reducible first | exact HB.out | apply aj | apply ah | apply ak) | exact HB.out)⟩
      ·rw [if_neg c7] at H
       exact absurd H (by simp)
     ·rw [if_neg c6] at H
      exact absurd H (by simp)
    ·rw [if_neg c5] at H
     have Kq:decide (x10_1<(fM.length:Int))=false:=decide_eq_false c5
     clear c5
     replace H:=Option.bind_eq_some_iff.mp H
     obtain⟨U5,P7,H⟩:=H
     replace H:(if U5=true then (if a0.toList=([]:List UInt8) then (some false) else (some (decide ((fM.length:Int)≤6)))) else (some false))=some r:=H
     have XJ:=Aside0.mk P7
     clear P7
     by_cases c13:U5=true
     ·subst c13
      have H1:(if a0.toList=([]:List UInt8) then (some false) else (some (decide ((fM.length:Int)≤6))))=some r:=by rw [if_pos rfl] at H;exact H
      clear H
      have H:=H1
      clear H1
      by_cases c14:a0.toList=([]:List UInt8)
      ·rw [if_pos c14] at H
       have oL:(a0.toList==([]:List UInt8))=true:=beq_iff_eq.mpr c14
       have U7:(a0.toList !=([]:List UInt8))=false:=bne_eq_false_iff_eq.mpr c14
       clear c14
       obtain rfl:=Option.some.inj H
       go_wp2_with (first | ((with_reducible refine bn (f:=147) rfl ?_);refine dN (some 25) rfl rfl Tryz.func147 (by kernel_rfl) rfl #[.string a0] rfl (by(try simp only [List.map_toArray,List.map_cons,List.map_nil]);first | done | rfl | (simp only [List.length_drop,List.length_take];rfl)) ?_;(with_reducible refine(eH.calls a0 true _ ?jv XJ.out).mono ?_);(case jv=>exact Tabs.below HT.out (by repeat (first | (with_reducible first | exact HB.out | apply aj | apply ah | apply ak) | exact HB.out)));rintro e w15 ⟨rfl,hb⟩;refine⟨_,rfl,?_⟩;have cZ:=Aside0.mk (Kd.iV (by(with_reducible repeat (first | apply Kd.dL | apply Kd.dM | apply Kd.eX));exact bY.out) hb);have iw:=Aside0.mk (Kd.iV (by(with_reducible repeat (first | apply Kd.dL | apply Kd.dM | apply Kd.eX));exact mJ.out) hb);have xB:=Aside0.mk (bG (by repeat (first | (with_reducible first | exact HB.out | apply aj | apply ah | apply ak) | exact HB.out)) hb);clear bY;clear mJ;clear HB;have bY:=cZ;have mJ:=iw;have HB:=xB;clear cZ iw xB;(try clear hb);(try clear hb2);(try clear hk);(try clear hi)))
       go_ret
       exact⟨by first | rfl | (simp [aJ,aK]<;>rfl) | (simp [*,aJ,aK]<;>rfl),by repeat (first | (with_reducible first | exact HB.out | apply aj | apply ah | apply ak) | exact HB.out)⟩
      ·rw [if_neg c14] at H
       have oL:(a0.toList==([]:List UInt8))=false:=beq_eq_false_iff_ne.mpr c14
       have U7:(a0.toList !=([]:List UInt8))=true:=bne_iff_ne.mpr c14
       obtain rfl:=Option.some.inj H
       go_wp2_with (first | ((with_reducible refine bn (f:=147) rfl ?_);refine dN (some 25) rfl rfl Tryz.func147 (by kernel_rfl) rfl #[.string a0] rfl (by(try simp only [List.map_toArray,List.map_cons,List.map_nil]);first | done | rfl | (simp only [List.length_drop,List.length_take];rfl)) ?_;(with_reducible refine(eH.calls a0 true _ ?jv XJ.out).mono ?_);(case jv=>exact Tabs.below HT.out (by repeat (first | (with_reducible first | exact HB.out | apply aj | apply ah | apply ak) | exact HB.out)));rintro e w16 ⟨rfl,hb⟩;refine⟨_,rfl,?_⟩;have cZ:=Aside0.mk (Kd.iV (by(with_reducible repeat (first | apply Kd.dL | apply Kd.dM | apply Kd.eX));exact bY.out) hb);have iw:=Aside0.mk (Kd.iV (by(with_reducible repeat (first | apply Kd.dL | apply Kd.dM | apply Kd.eX));exact mJ.out) hb);have xB:=Aside0.mk (bG (by repeat (first | (with_reducible first | exact HB.out | apply aj | apply ah | apply ak) | exact HB.out)) hb);clear bY;clear mJ;clear HB;have bY:=cZ;have mJ:=iw;have HB:=xB;clear cZ iw xB;(try clear hb);(try clear hb2);(try clear hk);(try clear hi)))
       go_ret
       exact⟨by first | rfl | (simp [aJ,aK]<;>rfl) | (simp [*,aJ,aK]<;>rfl),by repeat (first | (with_reducible first | exact HB.out | apply aj | apply ah | apply ak) | exact HB.out)⟩
     ·replace c13:=Bool.eq_false_iff.mpr c13
      subst c13
      have H1:(some false)=some r:=by rw [if_neg (show ¬(false=true) by decide)] at H;exact H
      clear H
      have H:=H1
      clear H1
      obtain rfl:=Option.some.inj H
      go_wp2_with (first | ((with_reducible refine bn (f:=147) rfl ?_);refine dN (some 25) rfl rfl Tryz.func147 (by kernel_rfl) rfl #[.string a0] rfl (by(try simp only [List.map_toArray,List.map_cons,List.map_nil]);first | done | rfl | (simp only [List.length_drop,List.length_take];rfl)) ?_;(with_reducible refine(eH.calls a0 false _ ?jv XJ.out).mono ?_);(case jv=>exact Tabs.below HT.out (by repeat (first | (with_reducible first | exact HB.out | apply aj | apply ah | apply ak) | exact HB.out)));rintro e w17 ⟨rfl,hb⟩;refine⟨_,rfl,?_⟩;have cZ:=Aside0.mk (Kd.iV (by(with_reducible repeat (first | apply Kd.dL | apply Kd.dM | apply Kd.eX));exact bY.out) hb);have iw:=Aside0.mk (Kd.iV (by(with_reducible repeat (first | apply Kd.dL | apply Kd.dM | apply Kd.eX));exact mJ.out) hb);have xB:=Aside0.mk (bG (by repeat (first | (with_reducible first | exact HB.out | apply aj | apply ah | apply ak) | exact HB.out)) hb);clear bY;clear mJ;clear HB;have bY:=cZ;have mJ:=iw;have HB:=xB;clear cZ iw xB;(try clear hb);(try clear hb2);(try clear hk);(try clear hi)))
      go_ret
      exact⟨by first | rfl | (simp [aJ,aK]<;>rfl) | (simp [*,aJ,aK]<;>rfl),by repeat (first | (with_reducible first | exact HB.out | apply aj | apply ah | apply ak) | exact HB.out)⟩
def bF.l0:Nat→ByteArray→List ByteArray→Int→Int→Option (List ByteArray)
 | 0,_,_,_,_=>none
 | k+1,x0,x3,x4,x5=>if x5≤(x0.size:Int) then (if x5=(x0.size:Int) then (if 0≤x4 then (if x4≤x5 then (if x3.length<8796093022208 then (bF.l0 k x0 (x3++[x0.extract (x4:Int).toNat (x5:Int).toNat]) (wrap64 (x5+1)) (wrap64 (x5+1))) else (none)) else (none)) else (none)) else (if 0≤x5 then (if x5<(x0.size:Int) then (if (bt x0 x5)=47 then (if 0≤x4 then (if x4≤x5 then (if x3.length<8796093022208 then (bF.l0 k x0 (x3++[x0.extract (x4:Int).toNat (x5:Int).toNat]) (wrap64 (x5+1)) (wrap64 (x5+1))) else (none)) else (none)) else (none)) else (bF.l0 k x0 x3 x4 (wrap64 (x5+1)))) else (none)) else (none))) else (some x3)
def bF.f (k:Nat) (a0:ByteArray):Option (List ByteArray):=bF.l0 k a0 (([]:List ByteArray)) 0 0
set_option maxHeartbeats 8000000 in
set_option maxRecDepth 100000 in
theorem bF.calls (k:Nat) (a0:ByteArray) (r:List ByteArray) (w:World) (h:bF.f k a0=some r):
  Calls Tryz.prog 108 #[.string a0] w fun e w'=>∃Di:Value,e= .returned (Di)∧Kd.R Kd.string 9 w' w.heap.size (fun _=>True) Di r∧Below w.heap.size w w':=by
 have HB:=Aside0.mk (Below.refl w.heap.size w)
 have H:(bF.l0 k a0 (([]:List ByteArray)) 0 0)=some r:=h
 clear h
 obtain⟨acC,I7⟩:∃y_:List ByteArray,y_=(([]:List ByteArray)):=⟨_,rfl⟩
 replace H:(bF.l0 k a0 acC 0 0)=some r:=by first | (rw [I7];with_reducible exact H) | (have Dv:=(Option.bind_some _ _).symm.trans H;rw [I7];with_reducible exact Dv) | (have Dv:=(Option.bind_some _ _).symm.trans H;with_reducible exact Dv) | with_reducible exact H | (rw [I7];exact H) | exact H
 have ZQ:=Aside0.mk I7
 clear I7
 have H':=Aside0.mk H
 clear H
 go_enter Tryz.func108,Tryz.ntmps108
 go_wp2_with (first | ((with_reducible refine Fa (N:=6) rfl ?_);refine Kd.acQ Kd.string _ 9 ?hg (N:=6) ?hd (xs:=([]:List ByteArray)) (inner:=[]) (ok:=fun _=>True) (kK:=fun _=>True) ?hr ?hp (fun _ hk=>hk) trivial (Below.refl _ _) (Nat.le_refl _) (by simp) ?_;(case hd=>rfl);(case hg=>rfl);(case hr=>first | (go_simp;done) | (go_simp;rfl));(case hp=>exact(dh.none _ _));intro v117 w2 ho3 hb hg_ adt;clear hg_ adt;(first | rw [←ZQ.out] at ho3 | (simp only [Int.reduceToNat] at ho3;rw [←ZQ.out] at ho3));have cZ:=Aside0.mk (Kd.qL ho3 (jY (by repeat (first | (with_reducible first | exact HB.out | apply aj | apply ah | apply ak) | exact HB.out))));have iw:=Aside0.mk (bG (by repeat (first | (with_reducible first | exact HB.out | apply aj | apply ah | apply ak) | exact HB.out)) hb);clear HB;have adu:=cZ;have HB:=iw;clear cZ iw;clear hb ho3))
 go_loopg [3,4,5] k (fun kq v3 v4 v5 w'=>∃(x3_1:List ByteArray) (x4_1:Int) (x5_1:Int),v4= .int .i64 x4_1∧v5= .int .i64 x5_1∧Aside0 (bF.l0 kq a0 x3_1 x4_1 x5_1=some r)∧Aside0 (kq≤k)∧Aside0 (Kd.R Kd.string 9 w' w.heap.size (fun _=>True) v3 x3_1)∧Aside0 (Below w.heap.size w w'))
 case atStart=>exact⟨(acC),(0),(0),(by first | rfl | (simp;done) | (simp [*];done)),(by first | rfl | (simp;done) | (simp [*];done)),H',⟨Nat.le_refl _⟩,⟨by(with_reducible repeat (first | apply Kd.dL | apply Kd.dM | apply Kd.eX));exact adu.out⟩,⟨by repeat (first | (with_reducible first | exact HB.out | apply aj | apply ah | apply ak) | exact HB.out)⟩⟩
 case round=>
  clear H'
  try clear c1
  try clear p2
  obtain⟨x3_1,x4_1,x5_1,rfl,rfl,HA,oz,bY,HB⟩:=hrel
  cases gk with
  | zero=>exact absurd HA.out (by simp [bF.l0])
  | succ k1=>
    have H:=HA.out
    clear HA
    simp only [bF.l0] at H
    by_cases c4:x5_1≤(a0.size:Int)
    ·rw [if_pos c4] at H
     have kJ:decide (x5_1≤(a0.size:Int))=true:=decide_eq_true c4
     clear c4
     by_cases c5:x5_1=(a0.size:Int)
     ·rw [if_pos c5] at H
      have Kq:(x5_1==(a0.size:Int))=true:=beq_iff_eq.mpr c5
      have Y7:(x5_1 !=(a0.size:Int))=false:=bne_eq_false_iff_eq.mpr c5
      clear c5
      by_cases c6:0≤x4_1
      ·rw [if_pos c6] at H
       have Du:=eq_true c6
       have acD:decide (0≤x4_1)=true:=decide_eq_true c6
       clear c6
       by_cases c7:x4_1≤x5_1
       ·rw [if_pos c7] at H
        have Dt:=eq_true c7
        have acB:decide (x4_1≤x5_1)=true:=decide_eq_true c7
        clear c7
        have Dw:=eq_true (of_decide_eq_true (by first | (with_reducible assumption) | assumption):x5_1≤(a0.size:Int))
        by_cases c9:x3_1.length<8796093022208
        ·rw [if_pos c9] at H
         have aeB:=Aside0.mk c9
         clear c9
         obtain⟨acE,I8⟩:∃y_:List ByteArray,y_=(x3_1++[a0.extract (x4_1:Int).toNat (x5_1:Int).toNat]):=⟨_,rfl⟩
         replace H:(bF.l0 k1 a0 acE (wrap64 (x5_1+1)) (wrap64 (x5_1+1)))=some r:=by first | (rw [I8];with_reducible exact H) | (have Dv:=(Option.bind_some _ _).symm.trans H;rw [I8];with_reducible exact Dv) | (have Dv:=(Option.bind_some _ _).symm.trans H;with_reducible exact Dv) | with_reducible exact H | (rw [I8];exact H) | exact H
         have adv:=Aside0.mk I8
         clear I8
         have H':=Aside0.mk H
         clear H
         go_wp2_with (first | ((with_reducible refine Az (b:= .append) (xs:=#[.tmp 23, .tmp 28]) rfl ?_);at_builtin;refine Kd.Nq Kd.string (w0:=w) w.heap.size rfl (.tmp 23) (.tmp 28) 22 9 (.string ⟨#[]⟩) 16 rfl Tryz.underlying22 info9 rfl (by decide) (by omega) u3 x3_1 (a0.extract (x4_1:Int).toNat (x5_1:Int).toNat) [.string (a0.extract (x4_1:Int).toNat (x5_1:Int).toNat)] (fun _=>True) (fun _=>False) rfl rfl ?aP (fun _ hk=>hk.elim) ?aF ?aO ?aB ?aS ?aL ?_;(case aP=>exact rfl);(case aB=>exact(by repeat (first | (with_reducible first | exact HB.out | apply aj | apply ah | apply ak) | exact HB.out)));(case aF=>exact(fun _ _=>trivial));(case aO=>exact(by(with_reducible repeat (first | apply Kd.dL | apply Kd.dM | apply Kd.eX));exact bY.out));(case aS=>exact(jY (by repeat (first | (with_reducible first | exact HB.out | apply aj | apply ah | apply ak) | exact HB.out))));(case aL=>have:=aeB.out;omega);intro afi w10 ho hb hg hat;rw [←adv.out] at ho;have cZ:=Aside0.mk (hb);have iw:=Aside0.mk (ho);clear HB;clear bY;have HB:=cZ;have adw:=iw;clear cZ iw;clear ho hb hg hat))
         go_roundg k1
         case measure=>have:=oz.out;omega
         case rel=>exact⟨(acE),(wrap64 (x5_1+1)),(wrap64 (x5_1+1)),(by first | rfl | (simp;done) | (simp [*];done)),(by first | rfl | (simp;done) | (simp [*];done)),H',⟨by have:=oz.out;omega⟩,⟨by(with_reducible repeat (first | apply Kd.dL | apply Kd.dM | apply Kd.eX));exact adw.out⟩,⟨by repeat (first | (with_reducible first | exact HB.out | apply aj | apply ah | apply ak) | exact HB.out)⟩⟩
        ·rw [if_neg c9] at H
         exact absurd H (by simp)
       ·rw [if_neg c7] at H
        exact absurd H (by simp)
      ·rw [if_neg c6] at H
       exact absurd H (by simp)
     ·rw [if_neg c5] at H
      have Kq:(x5_1==(a0.size:Int))=false:=beq_eq_false_iff_ne.mpr c5
      have Y7:(x5_1 !=(a0.size:Int))=true:=bne_iff_ne.mpr c5
      by_cases c11:0≤x5_1
      ·rw [if_pos c11] at H
       have oM:decide (0≤x5_1)=true:=decide_eq_true c11
       clear c11
       by_cases c12:x5_1<(a0.size:Int)
       ·rw [if_pos c12] at H
        have ZR:decide (x5_1<(a0.size:Int))=true:=decide_eq_true c12
        clear c12
        by_cases c14:(bt a0 x5_1)=47
        ·rw [if_pos c14] at H
         have oL:((bt a0 x5_1)==47)=true:=beq_iff_eq.mpr c14
         have U7:((bt a0 x5_1) !=47)=false:=bne_eq_false_iff_eq.mpr c14
         clear c14
         by_cases c15:0≤x4_1
         ·rw [if_pos c15] at H
          have ae4:=eq_true c15
          have ae5:decide (0≤x4_1)=true:=decide_eq_true c15
          clear c15
          by_cases c16:x4_1≤x5_1
          ·rw [if_pos c16] at H
           have MX:=eq_true c16
           have ae6:decide (x4_1≤x5_1)=true:=decide_eq_true c16
           clear c16
           have MZ:=eq_true (of_decide_eq_true (by first | (with_reducible assumption) | assumption):x5_1≤(a0.size:Int))
           by_cases c18:x3_1.length<8796093022208
           ·rw [if_pos c18] at H
            have adx:=Aside0.mk c18
            clear c18
            obtain⟨acF,I9⟩:∃y_:List ByteArray,y_=(x3_1++[a0.extract (x4_1:Int).toNat (x5_1:Int).toNat]):=⟨_,rfl⟩
            replace H:(bF.l0 k1 a0 acF (wrap64 (x5_1+1)) (wrap64 (x5_1+1)))=some r:=by first | (rw [I9];with_reducible exact H) | (have Dv:=(Option.bind_some _ _).symm.trans H;rw [I9];with_reducible exact Dv) | (have Dv:=(Option.bind_some _ _).symm.trans H;with_reducible exact Dv) | with_reducible exact H | (rw [I9];exact H) | exact H
            have ady:=Aside0.mk I9
            clear I9
            have H':=Aside0.mk H
            clear H
            have p13:0≤(x5_1:Int):=of_decide_eq_true (by first | (with_reducible assumption) | assumption)
            have q13:x5_1<(a0.size:Int):=of_decide_eq_true (by first | (with_reducible assumption) | assumption)
            have aeC:=Gw a0 x5_1
            replace p13:=eq_true p13
            replace q13:=eq_true q13
            go_wp2_with (first | ((with_reducible refine Az (b:= .append) (xs:=#[.tmp 23, .tmp 28]) rfl ?_);at_builtin;refine Kd.Nq Kd.string (w0:=w) w.heap.size rfl (.tmp 23) (.tmp 28) 22 9 (.string ⟨#[]⟩) 16 rfl Tryz.underlying22 info9 rfl (by decide) (by omega) u3 x3_1 (a0.extract (x4_1:Int).toNat (x5_1:Int).toNat) [.string (a0.extract (x4_1:Int).toNat (x5_1:Int).toNat)] (fun _=>True) (fun _=>False) rfl rfl ?aP (fun _ hk=>hk.elim) ?aF ?aO ?aB ?aS ?aL ?_;(case aP=>exact rfl);(case aB=>exact(by repeat (first | (with_reducible first | exact HB.out | apply aj | apply ah | apply ak) | exact HB.out)));(case aF=>exact(fun _ _=>trivial));(case aO=>exact(by(with_reducible repeat (first | apply Kd.dL | apply Kd.dM | apply Kd.eX));exact bY.out));(case aS=>exact(jY (by repeat (first | (with_reducible first | exact HB.out | apply aj | apply ah | apply ak) | exact HB.out))));(case aL=>have:=adx.out;omega);intro afj w19 ho hb hg hat;rw [←ady.out] at ho;have cZ:=Aside0.mk (hb);have iw:=Aside0.mk (ho);clear HB;clear bY;have HB:=cZ;have adz:=iw;clear cZ iw;clear ho hb hg hat))
            go_roundg k1
            case measure=>have:=oz.out;omega
            case rel=>exact⟨(acF),(wrap64 (x5_1+1)),(wrap64 (x5_1+1)),(by first | rfl | (simp;done) | (simp [*];done)),(by first | rfl | (simp;done) | (simp [*];done)),H',⟨by have:=oz.out;omega⟩,⟨by(with_reducible repeat (first | apply Kd.dL | apply Kd.dM | apply Kd.eX));exact adz.out⟩,⟨by repeat (first | (with_reducible first | exact HB.out | apply aj | apply ah | apply ak) | exact HB.out)⟩⟩
           ·rw [if_neg c18] at H
            exact absurd H (by simp)
          ·rw [if_neg c16] at H
           exact absurd H (by simp)
         ·rw [if_neg c15] at H
          exact absurd H (by simp)
        ·rw [if_neg c14] at H
         have oL:((bt a0 x5_1)==47)=false:=beq_eq_false_iff_ne.mpr c14
         have U7:((bt a0 x5_1) !=47)=true:=bne_iff_ne.mpr c14
         have H':=Aside0.mk H
         clear H
         have p13:0≤(x5_1:Int):=of_decide_eq_true (by first | (with_reducible assumption) | assumption)
         have q13:x5_1<(a0.size:Int):=of_decide_eq_true (by first | (with_reducible assumption) | assumption)
         have aeC:=Gw a0 x5_1
         replace p13:=eq_true p13
         replace q13:=eq_true q13
         go_wp2
         go_roundg k1
         case measure=>have:=oz.out;omega
         case rel=>exact⟨(x3_1),(x4_1),(wrap64 (x5_1+1)),(by first | rfl | (simp;done) | (simp [*];done)),(by first | rfl | (simp;done) | (simp [*];done)),H',⟨by have:=oz.out;omega⟩,⟨by(with_reducible repeat (first | apply Kd.dL | apply Kd.dM | apply Kd.eX));exact bY.out⟩,⟨by repeat (first | (with_reducible first | exact HB.out | apply aj | apply ah | apply ak) | exact HB.out)⟩⟩
       ·rw [if_neg c12] at H
        exact absurd H (by simp)
      ·rw [if_neg c11] at H
       exact absurd H (by simp)
    ·rw [if_neg c4] at H
     have kJ:decide (x5_1≤(a0.size:Int))=false:=decide_eq_false c4
     clear c4
     obtain rfl:=Option.some.inj H
     go_wp2
     go_ret
     exact⟨_,by first | rfl | (simp [aJ,aK]<;>rfl) | (simp [*,aJ,aK]<;>rfl),by(with_reducible repeat (first | apply Kd.dL | apply Kd.dM | apply Kd.eX));exact bY.out,by repeat (first | (with_reducible first | exact HB.out | apply aj | apply ah | apply ak) | exact HB.out)⟩
end Go.Proofs.YtcnfgfomholheaaGreatDoor.P
