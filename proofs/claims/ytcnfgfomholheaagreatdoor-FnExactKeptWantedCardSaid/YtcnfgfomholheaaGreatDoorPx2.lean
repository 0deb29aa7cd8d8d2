import Derived.Test.YtcnfgfomholheaaGreatDoorPx0
import Derived.Test.YtcnfgfomholheaaGreatDoorPx1
import Derived.Test.YtcnfgfomholheaaGreatDoorX12
import Derived.Test.YtcnfgfomholheaaGreatDoorX5
namespace Go.Proofs.YtcnfgfomholheaaGreatDoor.P
open Go.RowKit Go.Proofs.YtcnfgfomholheaaGreatDoor.X Go.Proofs.YtcnfgfomholheaaGreatDoorW.PrintWords Go.Proofs.YtcnfgfomholheaaGreatDoorW.PrintLast Go.Proofs.YtcnfgfomholheaaGreatDoorW.PrintMore
attribute [local go_sem] mG mJ oQ oU kZ lg mM mO
set_option linter.unusedVariables false
set_option linter.unusedSimpArgs false
def iy.f (a0:ByteArray):Option (Bool):=(fG.f a0).bind fun KT=>(if KT=true then (if a0.toList=([]:List UInt8) then (some false) else ((strings_ContainsAny.f a0 (⟨#[43,35]⟩:ByteArray)).bind fun t105=>(if t105=true then (some false) else ((dG.f a0).bind fun rV=>(some (decide ((rV.length:Int)≤6))))))) else (some false))
set_option maxHeartbeats 8000000 in
set_option maxRecDepth 100000 in
theorem iy.calls (a0:ByteArray) (r:Bool) (w:World) (hT:Tabs w) (h:iy.f a0=some r):
  Calls Tryz.prog 149 #[.string a0] w fun e w'=>e= .returned (.bool r)∧Below w.heap.size w w':=by
 have HT:=Aside0.mk hT
 clear hT
 have HB:=Aside0.mk (Below.refl w.heap.size w)
 have H:((fG.f a0).bind fun KT=>(if KT=true then (if a0.toList=([]:List UInt8) then (some false) else ((strings_ContainsAny.f a0 (⟨#[43,35]⟩:ByteArray)).bind fun t105=>(if t105=true then (some false) else ((dG.f a0).bind fun rV=>(some (decide ((rV.length:Int)≤6))))))) else (some false)))=some r:=h
 clear h
 replace H:=Option.bind_eq_some_iff.mp H
 obtain⟨KT,mD,H⟩:=H
 replace H:(if KT=true then (if a0.toList=([]:List UInt8) then (some false) else ((strings_ContainsAny.f a0 (⟨#[43,35]⟩:ByteArray)).bind fun t105=>(if t105=true then (some false) else ((dG.f a0).bind fun rV=>(some (decide ((rV.length:Int)≤6))))))) else (some false))=some r:=H
 have A2:=Aside0.mk mD
 clear mD
 by_cases c3:KT=true
 ·subst c3
  have H1:(if a0.toList=([]:List UInt8) then (some false) else ((strings_ContainsAny.f a0 (⟨#[43,35]⟩:ByteArray)).bind fun t105=>(if t105=true then (some false) else ((dG.f a0).bind fun rV=>(some (decide ((rV.length:Int)≤6)))))))=some r:=by rw [if_pos rfl] at H;exact H
  clear H
  have H:=H1
  clear H1
  by_cases c4:a0.toList=([]:List UInt8)
  ·rw [if_pos c4] at H
   have jM:(a0.toList==([]:List UInt8))=true:=beq_iff_eq.mpr c4
   have KU:(a0.toList !=([]:List UInt8))=false:=bne_eq_false_iff_eq.mpr c4
   clear c4
   obtain rfl:=Option.some.inj H
   go_enter Tryz.func149,Tryz.ntmps149
   go_wp2_with (first | ((with_reducible refine aQ (f:=147) rfl ?_);refine cZ (some 4) rfl rfl Tryz.func147 (by kernel_rfl) rfl #[.string a0] rfl (by(try simp only [List.map_toArray,List.map_cons,List.map_nil]);first | done | rfl | (simp only [List.length_drop,List.length_take];rfl)) ?_;(with_reducible refine(fG.calls a0 true _ ?dW A2.out).mono ?_);(case dW=>exact Tabs.below HT.out (by repeat (first | (with_reducible first | exact HB.out | apply aj | apply ah | apply ak) | exact HB.out)));rintro e w5 ⟨rfl,hb⟩;refine⟨_,rfl,?_⟩;have bf:=Aside0.mk (aW (by repeat (first | (with_reducible first | exact HB.out | apply aj | apply ah | apply ak) | exact HB.out)) hb);clear HB;have HB:=bf;clear bf;(try clear hb);(try clear hb2);(try clear hk);(try clear hi)))
   go_ret
   exact⟨by first | rfl | (simp [aJ,aK]<;>rfl) | (simp [*,aJ,aK]<;>rfl),by repeat (first | (with_reducible first | exact HB.out | apply aj | apply ah | apply ak) | exact HB.out)⟩
  ·rw [if_neg c4] at H
   have jM:(a0.toList==([]:List UInt8))=false:=beq_eq_false_iff_ne.mpr c4
   have KU:(a0.toList !=([]:List UInt8))=true:=bne_iff_ne.mpr c4
   replace H:=Option.bind_eq_some_iff.mp H
   obtain⟨t105,yu,H⟩:=H
   replace H:(if t105=true then (some false) else ((dG.f a0).bind fun rV=>(some (decide ((rV.length:Int)≤6)))))=some r:=H
   have A6:=Aside0.mk yu
   clear yu
   by_cases c7:t105=true
   ·subst c7
    have H1:(some false)=some r:=by rw [if_pos rfl] at H;exact H
    clear H
    have H:=H1
    clear H1
    obtain rfl:=Option.some.inj H
    go_enter Tryz.func149,Tryz.ntmps149
    go_wp2_with (first | ((with_reducible refine aQ (f:=147) rfl ?_);refine cZ (some 4) rfl rfl Tryz.func147 (by kernel_rfl) rfl #[.string a0] rfl (by(try simp only [List.map_toArray,List.map_cons,List.map_nil]);first | done | rfl | (simp only [List.length_drop,List.length_take];rfl)) ?_;(with_reducible refine(fG.calls a0 true _ ?dW A2.out).mono ?_);(case dW=>exact Tabs.below HT.out (by repeat (first | (with_reducible first | exact HB.out | apply aj | apply ah | apply ak) | exact HB.out)));rintro e w8 ⟨rfl,hb⟩;refine⟨_,rfl,?_⟩;have bf:=Aside0.mk (aW (by repeat (first | (with_reducible first | exact HB.out | apply aj | apply ah | apply ak) | exact HB.out)) hb);clear HB;have HB:=bf;clear bf;(try clear hb);(try clear hb2);(try clear hk);(try clear hi)) | (go_at_call 193;(with_reducible refine(strings_ContainsAny.calls a0 (⟨#[43,35]⟩:ByteArray) true _ A6.out).mono ?_);rintro e w9 ⟨rfl,hb⟩;have bf:=Aside0.mk (aW (by repeat (first | (with_reducible first | exact HB.out | apply aj | apply ah | apply ak) | exact HB.out)) hb);clear HB;have HB:=bf;clear bf;(try clear hb);(try clear hb2);(try clear hk);(try clear hi)))
    go_ret
    exact⟨by first | rfl | (simp [aJ,aK]<;>rfl) | (simp [*,aJ,aK]<;>rfl),by repeat (first | (with_reducible first | exact HB.out | apply aj | apply ah | apply ak) | exact HB.out)⟩
   ·replace c7:=Bool.eq_false_iff.mpr c7
    subst c7
    have H1:((dG.f a0).bind fun rV=>(some (decide ((rV.length:Int)≤6))))=some r:=by rw [if_neg (show ¬(false=true) by decide)] at H;exact H
    clear H
    have H:=H1
    clear H1
    replace H:=Option.bind_eq_some_iff.mp H
    obtain⟨rV,D7,H⟩:=H
    replace H:(some (decide ((rV.length:Int)≤6)))=some r:=H
    have Yb:=Aside0.mk D7
    clear D7
    obtain rfl:=Option.some.inj H
    go_enter Tryz.func149,Tryz.ntmps149
    go_wp2_with (first | ((with_reducible refine aQ (f:=147) rfl ?_);refine cZ (some 4) rfl rfl Tryz.func147 (by kernel_rfl) rfl #[.string a0] rfl (by(try simp only [List.map_toArray,List.map_cons,List.map_nil]);first | done | rfl | (simp only [List.length_drop,List.length_take];rfl)) ?_;(with_reducible refine(fG.calls a0 true _ ?dW A2.out).mono ?_);(case dW=>exact Tabs.below HT.out (by repeat (first | (with_reducible first | exact HB.out | apply aj | apply ah | apply ak) | exact HB.out)));rintro e w11 ⟨rfl,hb⟩;refine⟨_,rfl,?_⟩;have bf:=Aside0.mk (aW (by repeat (first | (with_reducible first | exact HB.out | apply aj | apply ah | apply ak) | exact HB.out)) hb);clear HB;have HB:=bf;clear bf;(try clear hb);(try clear hb2);(try clear hk);(try clear hi)) | (go_at_call 193;(with_reducible refine(strings_ContainsAny.calls a0 (⟨#[43,35]⟩:ByteArray) false _ A6.out).mono ?_);rintro e w12 ⟨rfl,hb⟩;have bf:=Aside0.mk (aW (by repeat (first | (with_reducible first | exact HB.out | apply aj | apply ah | apply ak) | exact HB.out)) hb);clear HB;have HB:=bf;clear bf;(try clear hb);(try clear hb2);(try clear hk);(try clear hi)) | (go_at_call 101;(with_reducible refine(dG.calls a0 rV _ ?dW Yb.out).mono ?_);(case dW=>exact Tabs.below HT.out (by repeat (first | (with_reducible first | exact HB.out | apply aj | apply ah | apply ak) | exact HB.out)));rintro e w13 ⟨v107,rfl,ho0,hb⟩;have bf:=Aside0.mk (Kd.lV ho0 (jg (by repeat (first | (with_reducible first | exact HB.out | apply aj | apply ah | apply ak) | exact HB.out))));have gy:=Aside0.mk (aW (by repeat (first | (with_reducible first | exact HB.out | apply aj | apply ah | apply ak) | exact HB.out)) hb);clear HB;have adE:=bf;have HB:=gy;clear bf gy;(try clear hb);(try clear hb2);(try clear hk);(try clear hi);(try clear ho0);obtain⟨aeS,aeT,Zx⟩:=Kd.iW adE.out;subst Zx))
    go_ret
    exact⟨by first | rfl | (simp [aJ,aK]<;>rfl) | (simp [*,aJ,aK]<;>rfl),by repeat (first | (with_reducible first | exact HB.out | apply aj | apply ah | apply ak) | exact HB.out)⟩
 ·replace c3:=Bool.eq_false_iff.mpr c3
  subst c3
  have H1:(some false)=some r:=by rw [if_neg (show ¬(false=true) by decide)] at H;exact H
  clear H
  have H:=H1
  clear H1
  obtain rfl:=Option.some.inj H
  go_enter Tryz.func149,Tryz.ntmps149
  go_wp2_with (first | ((with_reducible refine aQ (f:=147) rfl ?_);refine cZ (some 4) rfl rfl Tryz.func147 (by kernel_rfl) rfl #[.string a0] rfl (by(try simp only [List.map_toArray,List.map_cons,List.map_nil]);first | done | rfl | (simp only [List.length_drop,List.length_take];rfl)) ?_;(with_reducible refine(fG.calls a0 false _ ?dW A2.out).mono ?_);(case dW=>exact Tabs.below HT.out (by repeat (first | (with_reducible first | exact HB.out | apply aj | apply ah | apply ak) | exact HB.out)));rintro e w15 ⟨rfl,hb⟩;refine⟨_,rfl,?_⟩;have bf:=Aside0.mk (aW (by repeat (first | (with_reducible first | exact HB.out | apply aj | apply ah | apply ak) | exact HB.out)) hb);clear HB;have HB:=bf;clear bf;(try clear hb);(try clear hb2);(try clear hk);(try clear hi)))
  go_ret
  exact⟨by first | rfl | (simp [aJ,aK]<;>rfl) | (simp [*,aJ,aK]<;>rfl),by repeat (first | (with_reducible first | exact HB.out | apply aj | apply ah | apply ak) | exact HB.out)⟩
def jT.f (a0:ByteArray) (a1:Bool):Option (Bool):=(strings_ContainsAny.f a0 (⟨#[43,35]⟩:ByteArray)).bind fun t109=>(if t109=true then (if a0.toList=([43]:List UInt8) then (some true) else (if a0.toList=([35]:List UInt8) then (some a1) else (some false))) else (some true))
set_option maxHeartbeats 8000000 in
set_option maxRecDepth 100000 in
theorem jT.calls (a0:ByteArray) (a1:Bool) (r:Bool) (w:World) (h:jT.f a0 a1=some r):
  Calls Tryz.prog 146 #[.string a0, .bool a1] w fun e w'=>e= .returned (.bool r)∧Below w.heap.size w w':=by
 have HB:=Aside0.mk (Below.refl w.heap.size w)
 have H:((strings_ContainsAny.f a0 (⟨#[43,35]⟩:ByteArray)).bind fun t109=>(if t109=true then (if a0.toList=([43]:List UInt8) then (some true) else (if a0.toList=([35]:List UInt8) then (some a1) else (some false))) else (some true)))=some r:=h
 clear h
 replace H:=Option.bind_eq_some_iff.mp H
 obtain⟨t109,Yc,H⟩:=H
 replace H:(if t109=true then (if a0.toList=([43]:List UInt8) then (some true) else (if a0.toList=([35]:List UInt8) then (some a1) else (some false))) else (some true))=some r:=H
 have A3:=Aside0.mk Yc
 clear Yc
 by_cases c4:t109=true
 ·subst c4
  have H1:(if a0.toList=([43]:List UInt8) then (some true) else (if a0.toList=([35]:List UInt8) then (some a1) else (some false)))=some r:=by rw [if_pos rfl] at H;exact H
  clear H
  have H:=H1
  clear H1
  by_cases c5:a0.toList=([43]:List UInt8)
  ·rw [if_pos c5] at H
   have sU:(a0.toList==([43]:List UInt8))=true:=beq_iff_eq.mpr c5
   have D8:(a0.toList !=([43]:List UInt8))=false:=bne_eq_false_iff_eq.mpr c5
   clear c5
   obtain rfl:=Option.some.inj H
   go_enter Tryz.func146,Tryz.ntmps146
   go_wp2_with (first | ((with_reducible refine aQ (f:=193) rfl ?_);refine cZ (some 6) rfl rfl Tryz.func193 (by kernel_rfl) rfl #[.string a0, .string (⟨#[43,35]⟩:ByteArray)] rfl (by(try simp only [List.map_toArray,List.map_cons,List.map_nil]);first | done | rfl | (simp only [List.length_drop,List.length_take];rfl)) ?_;(with_reducible refine(strings_ContainsAny.calls a0 (⟨#[43,35]⟩:ByteArray) true _ A3.out).mono ?_);rintro e w6 ⟨rfl,hb⟩;refine⟨_,rfl,?_⟩;have bf:=Aside0.mk (aW (by repeat (first | (with_reducible first | exact HB.out | apply aj | apply ah | apply ak) | exact HB.out)) hb);clear HB;have HB:=bf;clear bf;(try clear hb);(try clear hb2);(try clear hk);(try clear hi)))
   go_ret
   exact⟨by first | rfl | (simp [aJ,aK]<;>rfl) | (simp [*,aJ,aK]<;>rfl),by repeat (first | (with_reducible first | exact HB.out | apply aj | apply ah | apply ak) | exact HB.out)⟩
  ·rw [if_neg c5] at H
   have sU:(a0.toList==([43]:List UInt8))=false:=beq_eq_false_iff_ne.mpr c5
   have D8:(a0.toList !=([43]:List UInt8))=true:=bne_iff_ne.mpr c5
   by_cases c7:a0.toList=([35]:List UInt8)
   ·rw [if_pos c7] at H
    have sV:(a0.toList==([35]:List UInt8))=true:=beq_iff_eq.mpr c7
    have G5:(a0.toList !=([35]:List UInt8))=false:=bne_eq_false_iff_eq.mpr c7
    clear c7
    obtain rfl:=Option.some.inj H
    go_enter Tryz.func146,Tryz.ntmps146
    go_wp2_with (first | ((with_reducible refine aQ (f:=193) rfl ?_);refine cZ (some 6) rfl rfl Tryz.func193 (by kernel_rfl) rfl #[.string a0, .string (⟨#[43,35]⟩:ByteArray)] rfl (by(try simp only [List.map_toArray,List.map_cons,List.map_nil]);first | done | rfl | (simp only [List.length_drop,List.length_take];rfl)) ?_;(with_reducible refine(strings_ContainsAny.calls a0 (⟨#[43,35]⟩:ByteArray) true _ A3.out).mono ?_);rintro e w8 ⟨rfl,hb⟩;refine⟨_,rfl,?_⟩;have bf:=Aside0.mk (aW (by repeat (first | (with_reducible first | exact HB.out | apply aj | apply ah | apply ak) | exact HB.out)) hb);clear HB;have HB:=bf;clear bf;(try clear hb);(try clear hb2);(try clear hk);(try clear hi)))
    go_ret
    exact⟨by first | rfl | (simp [aJ,aK]<;>rfl) | (simp [*,aJ,aK]<;>rfl),by repeat (first | (with_reducible first | exact HB.out | apply aj | apply ah | apply ak) | exact HB.out)⟩
   ·rw [if_neg c7] at H
    have sV:(a0.toList==([35]:List UInt8))=false:=beq_eq_false_iff_ne.mpr c7
    have G5:(a0.toList !=([35]:List UInt8))=true:=bne_iff_ne.mpr c7
    obtain rfl:=Option.some.inj H
    go_enter Tryz.func146,Tryz.ntmps146
    go_wp2_with (first | ((with_reducible refine aQ (f:=193) rfl ?_);refine cZ (some 6) rfl rfl Tryz.func193 (by kernel_rfl) rfl #[.string a0, .string (⟨#[43,35]⟩:ByteArray)] rfl (by(try simp only [List.map_toArray,List.map_cons,List.map_nil]);first | done | rfl | (simp only [List.length_drop,List.length_take];rfl)) ?_;(with_reducible refine(strings_ContainsAny.calls a0 (⟨#[43,35]⟩:ByteArray) true _ A3.out).mono ?_);rintro e w9 ⟨rfl,hb⟩;refine⟨_,rfl,?_⟩;have bf:=Aside0.mk (aW (by repeat (first | (with_reducible first | exact HB.out | apply aj | apply ah | apply ak) | exact HB.out)) hb);clear HB;have HB:=bf;clear bf;(try clear hb);(try clear hb2);(try clear hk);(try clear hi)))
    go_ret
    exact⟨by first | rfl | (simp [aJ,aK]<;>rfl) | (simp [*,aJ,aK]<;>rfl),by repeat (first | (with_reducible first | exact HB.out | apply aj | apply ah | apply ak) | exact HB.out)⟩
 ·replace c4:=Bool.eq_false_iff.mpr c4
  subst c4
  have H1:(some true)=some r:=by rw [if_neg (show ¬(false=true) by decide)] at H;exact H
  clear H
  have H:=H1
  clear H1
  obtain rfl:=Option.some.inj H
  go_enter Tryz.func146,Tryz.ntmps146
  go_wp2_with (first | ((with_reducible refine aQ (f:=193) rfl ?_);refine cZ (some 6) rfl rfl Tryz.func193 (by kernel_rfl) rfl #[.string a0, .string (⟨#[43,35]⟩:ByteArray)] rfl (by(try simp only [List.map_toArray,List.map_cons,List.map_nil]);first | done | rfl | (simp only [List.length_drop,List.length_take];rfl)) ?_;(with_reducible refine(strings_ContainsAny.calls a0 (⟨#[43,35]⟩:ByteArray) false _ A3.out).mono ?_);rintro e w10 ⟨rfl,hb⟩;refine⟨_,rfl,?_⟩;have bf:=Aside0.mk (aW (by repeat (first | (with_reducible first | exact HB.out | apply aj | apply ah | apply ak) | exact HB.out)) hb);clear HB;have HB:=bf;clear bf;(try clear hb);(try clear hb2);(try clear hk);(try clear hi)))
  go_ret
  exact⟨by first | rfl | (simp [aJ,aK]<;>rfl) | (simp [*,aJ,aK]<;>rfl),by repeat (first | (with_reducible first | exact HB.out | apply aj | apply ah | apply ak) | exact HB.out)⟩
def bY.l0:Nat→ByteArray→List ByteArray→List ByteArray→Int→Int→Option (Bool)
 | 0,_,_,_,_,_=>none
 | k+1,x0,x3,x8,x9,x10=>if x10<x9 then (if 0≤x10 then (if x10<(x8.length:Int) then ((jT.f (aT ByteArray.empty x8 x10) (x10==(wrap64 ((x3.length:Int) - 1)))).bind fun Va=>(if Va=true then (bY.l0 k x0 x3 x8 x9 (wrap64 (x10+1))) else (some false))) else (none)) else (none)) else ((fG.f x0).bind fun Vb=>(if Vb=true then (if x0.toList=([]:List UInt8) then (some false) else (some (decide ((x3.length:Int)≤6)))) else (some false)))
def bY.f (k:Nat) (a0:ByteArray):Option (Bool):=(dG.f a0).bind fun gJ=>(bY.l0 k a0 gJ gJ (gJ.length:Int) 0)
set_option maxHeartbeats 8000000 in
set_option maxRecDepth 100000 in
theorem bY.calls (k:Nat) (a0:ByteArray) (r:Bool) (w:World) (hT:Tabs w) (h:bY.f k a0=some r):
  Calls Tryz.prog 77 #[.string a0] w fun e w'=>e= .returned (.bool r)∧Below w.heap.size w w':=by
 have HT:=Aside0.mk hT
 clear hT
 have HB:=Aside0.mk (Below.refl w.heap.size w)
 have H:((dG.f a0).bind fun gJ=>(bY.l0 k a0 gJ gJ (gJ.length:Int) 0))=some r:=h
 clear h
 replace H:=Option.bind_eq_some_iff.mp H
 obtain⟨gJ,mD,H⟩:=H
 replace H:(bY.l0 k a0 gJ gJ (gJ.length:Int) 0)=some r:=H
 have A2:=Aside0.mk mD
 clear mD
 have H':=Aside0.mk H
 clear H
 go_enter Tryz.func77,Tryz.ntmps77
 go_wp2_with (first | ((with_reducible refine aQ (f:=101) rfl ?_);refine cZ (some 7) rfl rfl Tryz.func101 (by kernel_rfl) rfl #[.string a0] rfl (by(try simp only [List.map_toArray,List.map_cons,List.map_nil]);first | done | rfl | (simp only [List.length_drop,List.length_take];rfl)) ?_;(with_reducible refine(dG.calls a0 gJ _ ?dW A2.out).mono ?_);(case dW=>exact Tabs.below HT.out (by repeat (first | (with_reducible first | exact HB.out | apply aj | apply ah | apply ak) | exact HB.out)));rintro e w3 ⟨afz,rfl,ho0,hb⟩;refine⟨_,rfl,?_⟩;have bf:=Aside0.mk (Kd.lV ho0 (jg (by repeat (first | (with_reducible first | exact HB.out | apply aj | apply ah | apply ak) | exact HB.out))));have gy:=Aside0.mk (aW (by repeat (first | (with_reducible first | exact HB.out | apply aj | apply ah | apply ak) | exact HB.out)) hb);clear HB;have Vd:=bf;have HB:=gy;clear bf gy;(try clear hb);(try clear hb2);(try clear hk);(try clear hi);(try clear ho0);obtain⟨Ao4,co4,eo4⟩:=Kd.iW Vd.out;subst eo4))
 go_loopg [10] k (fun kq v10 w'=>∃(x10_1:Int),v10= .int .i64 x10_1∧Aside0 (bY.l0 kq a0 gJ gJ (gJ.length:Int) x10_1=some r)∧Aside0 (kq≤k)∧Aside0 (Kd.R Kd.string 9 w' w.heap.size (fun _=>True) (.slice Ao4 gJ.length co4) gJ)∧Aside0 (Kd.R Kd.string 9 w' w.heap.size (fun _=>True) (.slice Ao4 gJ.length co4) gJ)∧Aside0 (Below w.heap.size w w'))
 case atStart=>exact⟨(0),(by first | rfl | (simp;done) | (simp [*];done)),H',⟨Nat.le_refl _⟩,⟨by(with_reducible repeat (first | apply Kd.dK | apply Kd.dL | apply Kd.dZ));exact Vd.out⟩,⟨by(with_reducible repeat (first | apply Kd.dK | apply Kd.dL | apply Kd.dZ));exact Vd.out⟩,⟨by repeat (first | (with_reducible first | exact HB.out | apply aj | apply ah | apply ak) | exact HB.out)⟩⟩
 case round=>
  clear H'
  try clear c1
  try clear p2
  obtain⟨x10_1,rfl,HA,jZ,dh,nS,HB⟩:=hrel
  cases gk with
  | zero=>exact absurd HA.out (by simp [bY.l0])
  | succ k1=>
    have H:=HA.out
    clear HA
    simp only [bY.l0] at H
    by_cases c5:x10_1<(gJ.length:Int)
    ·rw [if_pos c5] at H
     have sU:decide (x10_1<(gJ.length:Int))=true:=decide_eq_true c5
     clear c5
     by_cases c6:0≤x10_1
     ·rw [if_pos c6] at H
      have sW:decide (0≤x10_1)=true:=decide_eq_true c6
      clear c6
      by_cases c7:x10_1<(gJ.length:Int)
      ·rw [if_pos c7] at H
       have sV:decide (x10_1<(gJ.length:Int))=true:=decide_eq_true c7
       clear c7
       replace H:=Option.bind_eq_some_iff.mp H
       obtain⟨Va,MS,H⟩:=H
       replace H:(if Va=true then (bY.l0 k1 a0 gJ gJ (gJ.length:Int) (wrap64 (x10_1+1))) else (some false))=some r:=H
       have A8:=Aside0.mk MS
       clear MS
       by_cases c9:Va=true
       ·subst c9
        have H1:(bY.l0 k1 a0 gJ gJ (gJ.length:Int) (wrap64 (x10_1+1)))=some r:=by rw [if_pos rfl] at H;exact H
        clear H
        have H:=H1
        clear H1
        have H':=Aside0.mk H
        clear H
        have G6:0≤(x10_1:Int):=of_decide_eq_true (by first | (with_reducible assumption) | assumption)
        have G7:x10_1<(gJ.length:Int):=of_decide_eq_true (by first | (with_reducible assumption) | assumption)
        obtain⟨adF,Zy,abd⟩:=Kd.aV (Kd.cO nS.out).2.2 x10_1 G6 G7
        cases Zy
        replace G6:=eq_true G6
        replace G7:=eq_true G7
        go_wp2_with (first | ((with_reducible refine aQ (f:=146) rfl ?_);refine cZ (some 21) rfl rfl Tryz.func146 (by kernel_rfl) rfl #[.string (aT ByteArray.empty gJ x10_1), .bool (x10_1==(wrap64 ((gJ.length:Int) - 1)))] rfl (by(try simp only [List.map_toArray,List.map_cons,List.map_nil]);first | done | rfl | (simp only [List.length_drop,List.length_take];rfl)) ?_;(with_reducible refine(jT.calls (aT ByteArray.empty gJ x10_1) (x10_1==(wrap64 ((gJ.length:Int) - 1))) true _ A8.out).mono ?_);rintro e w10 ⟨rfl,hb⟩;refine⟨_,rfl,?_⟩;have bf:=Aside0.mk (Kd.jE (by(with_reducible repeat (first | apply Kd.dK | apply Kd.dL | apply Kd.dZ));exact dh.out) hb);have gy:=Aside0.mk (Kd.jE (by(with_reducible repeat (first | apply Kd.dK | apply Kd.dL | apply Kd.dZ));exact nS.out) hb);have qQ:=Aside0.mk (aW (by repeat (first | (with_reducible first | exact HB.out | apply aj | apply ah | apply ak) | exact HB.out)) hb);clear dh;clear nS;clear HB;have dh:=bf;have nS:=gy;have HB:=qQ;clear bf gy qQ;(try clear hb);(try clear hb2);(try clear hk);(try clear hi)))
        go_roundg k1
        case measure=>have:=jZ.out;omega
        case rel=>exact⟨(wrap64 (x10_1+1)),(by first | rfl | (simp;done) | (simp [*];done)),H',⟨by have:=jZ.out;omega⟩,⟨by(with_reducible repeat (first | apply Kd.dK | apply Kd.dL | apply Kd.dZ));exact dh.out⟩,⟨by(with_reducible repeat (first | apply Kd.dK | apply Kd.dL | apply Kd.dZ));exact nS.out⟩,⟨by repeat (first | (with_reducible first | exact HB.out | apply aj | apply ah | apply ak) | exact HB.out)⟩⟩
       ·replace c9:=Bool.eq_false_iff.mpr c9
        subst c9
        have H1:(some false)=some r:=by rw [if_neg (show ¬(false=true) by decide)] at H;exact H
        clear H
        have H:=H1
        clear H1
        obtain rfl:=Option.some.inj H
        have G6:0≤(x10_1:Int):=of_decide_eq_true (by first | (with_reducible assumption) | assumption)
        have G7:x10_1<(gJ.length:Int):=of_decide_eq_true (by first | (with_reducible assumption) | assumption)
        obtain⟨adF,Zy,abd⟩:=Kd.aV (Kd.cO nS.out).2.2 x10_1 G6 G7
        cases Zy
        replace G6:=eq_true G6
        replace G7:=eq_true G7
        go_wp2_with (first | ((with_reducible refine aQ (f:=146) rfl ?_);refine cZ (some 21) rfl rfl Tryz.func146 (by kernel_rfl) rfl #[.string (aT ByteArray.empty gJ x10_1), .bool (x10_1==(wrap64 ((gJ.length:Int) - 1)))] rfl (by(try simp only [List.map_toArray,List.map_cons,List.map_nil]);first | done | rfl | (simp only [List.length_drop,List.length_take];rfl)) ?_;(with_reducible refine(jT.calls (aT ByteArray.empty gJ x10_1) (x10_1==(wrap64 ((gJ.length:Int) - 1))) false _ A8.out).mono ?_);rintro e w11 ⟨rfl,hb⟩;refine⟨_,rfl,?_⟩;have bf:=Aside0.mk (Kd.jE (by(with_reducible repeat (first | apply Kd.dK | apply Kd.dL | apply Kd.dZ));exact dh.out) hb);have gy:=Aside0.mk (Kd.jE (by(with_reducible repeat (first | apply Kd.dK | apply Kd.dL | apply Kd.dZ));exact nS.out) hb);have qQ:=Aside0.mk (aW (by repeat (first | (with_reducible first | exact HB.out | apply aj | apply ah | apply ak) | exact HB.out)) hb);clear dh;clear nS;clear HB;have dh:=bf;have nS:=gy;have HB:=qQ;clear bf gy qQ;(try clear hb);(try clear hb2);(try clear hk);(try clear hi)))
        go_ret
        exact⟨by first | rfl | (simp [aJ,aK]<;>rfl) | (simp [*,aJ,aK]<;>rfl),by repeat (first | (with_reducible first | exact HB.out | apply aj | apply ah | apply ak) | exact HB.out)⟩
      ·rw [if_neg c7] at H
       exact absurd H (by simp)
     ·rw [if_neg c6] at H
      exact absurd H (by simp)
    ·rw [if_neg c5] at H
     have sU:decide (x10_1<(gJ.length:Int))=false:=decide_eq_false c5
     clear c5
     replace H:=Option.bind_eq_some_iff.mp H
     obtain⟨Vb,Qk,H⟩:=H
     replace H:(if Vb=true then (if a0.toList=([]:List UInt8) then (some false) else (some (decide ((gJ.length:Int)≤6)))) else (some false))=some r:=H
     have Yd:=Aside0.mk Qk
     clear Qk
     by_cases c13:Vb=true
     ·subst c13
      have H1:(if a0.toList=([]:List UInt8) then (some false) else (some (decide ((gJ.length:Int)≤6))))=some r:=by rw [if_pos rfl] at H;exact H
      clear H
      have H:=H1
      clear H1
      by_cases c14:a0.toList=([]:List UInt8)
      ·rw [if_pos c14] at H
       have o8:(a0.toList==([]:List UInt8))=true:=beq_iff_eq.mpr c14
       have Ve:(a0.toList !=([]:List UInt8))=false:=bne_eq_false_iff_eq.mpr c14
       clear c14
       obtain rfl:=Option.some.inj H
       go_wp2_with (first | ((with_reducible refine aQ (f:=147) rfl ?_);refine cZ (some 25) rfl rfl Tryz.func147 (by kernel_rfl) rfl #[.string a0] rfl (by(try simp only [List.map_toArray,List.map_cons,List.map_nil]);first | done | rfl | (simp only [List.length_drop,List.length_take];rfl)) ?_;(with_reducible refine(fG.calls a0 true _ ?dW Yd.out).mono ?_);(case dW=>exact Tabs.below HT.out (by repeat (first | (with_reducible first | exact HB.out | apply aj | apply ah | apply ak) | exact HB.out)));rintro e w15 ⟨rfl,hb⟩;refine⟨_,rfl,?_⟩;have bf:=Aside0.mk (Kd.jE (by(with_reducible repeat (first | apply Kd.dK | apply Kd.dL | apply Kd.dZ));exact dh.out) hb);have gy:=Aside0.mk (Kd.jE (by(with_reducible repeat (first | apply Kd.dK | apply Kd.dL | apply Kd.dZ));exact nS.out) hb);have qQ:=Aside0.mk (aW (by repeat (first | (with_reducible first | exact HB.out | apply aj | apply ah | apply ak) | exact HB.out)) hb);clear dh;clear nS;clear HB;have dh:=bf;have nS:=gy;have HB:=qQ;clear bf gy qQ;(try clear hb);(try clear hb2);(try clear hk);(try clear hi)))
       go_ret
       exact⟨by first | rfl | (simp [aJ,aK]<;>rfl) | (simp [*,aJ,aK]<;>rfl),by repeat (first | (with_reducible first | exact HB.out | apply aj | apply ah | apply ak) | exact HB.out)⟩
      ·rw [if_neg c14] at H
       have o8:(a0.toList==([]:List UInt8))=false:=beq_eq_false_iff_ne.mpr c14
       have Ve:(a0.toList !=([]:List UInt8))=true:=bne_iff_ne.mpr c14
       obtain rfl:=Option.some.inj H
       go_wp2_with (first | ((with_reducible refine aQ (f:=147) rfl ?_);refine cZ (some 25) rfl rfl Tryz.func147 (by kernel_rfl) rfl #[.string a0] rfl (by(try simp only [List.map_toArray,List.map_cons,List.map_nil]);first | done | rfl | (simp only [List.length_drop,List.length_take];rfl)) ?_;(with_reducible refine(fG.calls a0 true _ ?dW Yd.out).mono ?_);(case dW=>exact Tabs.below HT.out (by repeat (first | (with_reducible first | exact HB.out | apply aj | apply ah | apply ak) | exact HB.out)));rintro e w16 ⟨rfl,hb⟩;refine⟨_,rfl,?_⟩;have bf:=Aside0.mk (Kd.jE (by(with_reducible repeat (first | apply Kd.dK | apply Kd.dL | apply Kd.dZ));exact dh.out) hb);have gy:=Aside0.mk (Kd.jE (by(with_reducible repeat (first | apply Kd.dK | apply Kd.dL | apply Kd.dZ));exact nS.out) hb);have qQ:=Aside0.mk (aW (by repeat (first | (with_reducible first | exact HB.out | apply aj | apply ah | apply ak) | exact HB.out)) hb);clear dh;clear nS;clear HB;have dh:=bf;have nS:=gy;have HB:=qQ;clear bf gy qQ;(try clear hb);(try clear hb2);(try clear hk);(try clear hi)))
       go_ret
       exact⟨by first | rfl | (simp [aJ,aK]<;>rfl) | (simp [*,aJ,aK]<;>rfl),by repeat (first | (with_reducible first | exact HB.out | apply aj | apply ah | apply ak) | exact HB.out)⟩
     ·replace c13:=Bool.eq_false_iff.mpr c13
      subst c13
      have H1:(some false)=some r:=by rw [if_neg (show ¬(false=true) by decide)] at H;exact H
      clear H
      have H:=H1
      clear H1
      obtain rfl:=Option.some.inj H
      go_wp2_with (first | ((with_reducible refine aQ (f:=147) rfl ?_);refine cZ (some 25) rfl rfl Tryz.func147 (by kernel_rfl) rfl #[.string a0] rfl (by(try simp only [List.map_toArray,List.map_cons,List.map_nil]);first | done | rfl | (simp only [List.length_drop,List.length_take];rfl)) ?_;(with_reducible refine(fG.calls a0 false _ ?dW Yd.out).mono ?_);(case dW=>exact Tabs.below HT.out (by repeat (first | (with_reducible first | exact HB.out | apply aj | apply ah | apply ak) | exact HB.out)));rintro e w17 ⟨rfl,hb⟩;refine⟨_,rfl,?_⟩;have bf:=Aside0.mk (Kd.jE (by(with_reducible repeat (first | apply Kd.dK | apply Kd.dL | apply Kd.dZ));exact dh.out) hb);have gy:=Aside0.mk (Kd.jE (by(with_reducible repeat (first | apply Kd.dK | apply Kd.dL | apply Kd.dZ));exact nS.out) hb);have qQ:=Aside0.mk (aW (by repeat (first | (with_reducible first | exact HB.out | apply aj | apply ah | apply ak) | exact HB.out)) hb);clear dh;clear nS;clear HB;have dh:=bf;have nS:=gy;have HB:=qQ;clear bf gy qQ;(try clear hb);(try clear hb2);(try clear hk);(try clear hi)))
      go_ret
      exact⟨by first | rfl | (simp [aJ,aK]<;>rfl) | (simp [*,aJ,aK]<;>rfl),by repeat (first | (with_reducible first | exact HB.out | apply aj | apply ah | apply ak) | exact HB.out)⟩
def bC.l0:Nat→ByteArray→List ByteArray→Int→Int→Option (List ByteArray)
 | 0,_,_,_,_=>none
 | k+1,x0,x3,x4,x5=>if x5≤(x0.size:Int) then (if x5=(x0.size:Int) then (if 0≤x4 then (if x4≤x5 then (if x3.length<8796093022208 then (bC.l0 k x0 (x3++[x0.extract (x4:Int).toNat (x5:Int).toNat]) (wrap64 (x5+1)) (wrap64 (x5+1))) else (none)) else (none)) else (none)) else (if 0≤x5 then (if x5<(x0.size:Int) then (if (bt x0 x5)=47 then (if 0≤x4 then (if x4≤x5 then (if x3.length<8796093022208 then (bC.l0 k x0 (x3++[x0.extract (x4:Int).toNat (x5:Int).toNat]) (wrap64 (x5+1)) (wrap64 (x5+1))) else (none)) else (none)) else (none)) else (bC.l0 k x0 x3 x4 (wrap64 (x5+1)))) else (none)) else (none))) else (some x3)
def bC.f (k:Nat) (a0:ByteArray):Option (List ByteArray):=bC.l0 k a0 (([]:List ByteArray)) 0 0
set_option maxHeartbeats 8000000 in
set_option maxRecDepth 100000 in
theorem bC.calls (k:Nat) (a0:ByteArray) (r:List ByteArray) (w:World) (h:bC.f k a0=some r):
  Calls Tryz.prog 108 #[.string a0] w fun e w'=>∃DY:Value,e= .returned (DY)∧Kd.R Kd.string 9 w' w.heap.size (fun _=>True) DY r∧Below w.heap.size w w':=by
 have HB:=Aside0.mk (Below.refl w.heap.size w)
 have H:(bC.l0 k a0 (([]:List ByteArray)) 0 0)=some r:=h
 clear h
 obtain⟨acS,JA⟩:∃y_:List ByteArray,y_=(([]:List ByteArray)):=⟨_,rfl⟩
 replace H:(bC.l0 k a0 acS 0 0)=some r:=by first | (rw [JA];with_reducible exact H) | (have D9:=(Option.bind_some _ _).symm.trans H;rw [JA];with_reducible exact D9) | (have D9:=(Option.bind_some _ _).symm.trans H;with_reducible exact D9) | with_reducible exact H | (rw [JA];exact H) | exact H
 have aah:=Aside0.mk JA
 clear JA
 have H':=Aside0.mk H
 clear H
 go_enter Tryz.func108,Tryz.ntmps108
 go_wp2_with (first | ((with_reducible refine Yt (N:=6) rfl ?_);refine Kd.ac3 Kd.string _ 9 ?hg (N:=6) ?hd (xs:=([]:List ByteArray)) (inner:=[]) (ok:=fun _=>True) (qU:=fun _=>True) ?hr ?hp (fun _ hk=>hk) trivial (Below.refl _ _) (Nat.le_refl _) (by simp) ?_;(case hd=>rfl);(case hg=>rfl);(case hr=>first | (go_simp;done) | (go_simp;rfl));(case hp=>exact(dF.none _ _));intro v117 w2 ho3 hb hg_ adG;clear hg_ adG;(first | rw [←aah.out] at ho3 | (simp only [Int.reduceToNat] at ho3;rw [←aah.out] at ho3));have bf:=Aside0.mk (Kd.lV ho3 (jg (by repeat (first | (with_reducible first | exact HB.out | apply aj | apply ah | apply ak) | exact HB.out))));have gy:=Aside0.mk (aW (by repeat (first | (with_reducible first | exact HB.out | apply aj | apply ah | apply ak) | exact HB.out)) hb);clear HB;have adH:=bf;have HB:=gy;clear bf gy;clear hb ho3))
 go_loopg [3,4,5] k (fun kq v3 v4 v5 w'=>∃(x3_1:List ByteArray) (x4_1:Int) (x5_1:Int),v4= .int .i64 x4_1∧v5= .int .i64 x5_1∧Aside0 (bC.l0 kq a0 x3_1 x4_1 x5_1=some r)∧Aside0 (kq≤k)∧Aside0 (Kd.R Kd.string 9 w' w.heap.size (fun _=>True) v3 x3_1)∧Aside0 (Below w.heap.size w w'))
 case atStart=>exact⟨(acS),(0),(0),(by first | rfl | (simp;done) | (simp [*];done)),(by first | rfl | (simp;done) | (simp [*];done)),H',⟨Nat.le_refl _⟩,⟨by(with_reducible repeat (first | apply Kd.dK | apply Kd.dL | apply Kd.dZ));exact adH.out⟩,⟨by repeat (first | (with_reducible first | exact HB.out | apply aj | apply ah | apply ak) | exact HB.out)⟩⟩
 case round=>
  clear H'
  try clear c1
  try clear p2
  obtain⟨x3_1,x4_1,x5_1,rfl,rfl,HA,jZ,dh,HB⟩:=hrel
  cases gk with
  | zero=>exact absurd HA.out (by simp [bC.l0])
  | succ k1=>
    have H:=HA.out
    clear HA
    simp only [bC.l0] at H
    by_cases c4:x5_1≤(a0.size:Int)
    ·rw [if_pos c4] at H
     have jM:decide (x5_1≤(a0.size:Int))=true:=decide_eq_true c4
     clear c4
     by_cases c5:x5_1=(a0.size:Int)
     ·rw [if_pos c5] at H
      have sU:(x5_1==(a0.size:Int))=true:=beq_iff_eq.mpr c5
      have D8:(x5_1 !=(a0.size:Int))=false:=bne_eq_false_iff_eq.mpr c5
      clear c5
      by_cases c6:0≤x4_1
      ·rw [if_pos c6] at H
       have sW:=eq_true c6
       have Ql:decide (0≤x4_1)=true:=decide_eq_true c6
       clear c6
       by_cases c7:x4_1≤x5_1
       ·rw [if_pos c7] at H
        have sV:=eq_true c7
        have G5:decide (x4_1≤x5_1)=true:=decide_eq_true c7
        clear c7
        have Ba:=eq_true (of_decide_eq_true (by first | (with_reducible assumption) | assumption):x5_1≤(a0.size:Int))
        by_cases c9:x3_1.length<8796093022208
        ·rw [if_pos c9] at H
         have aeU:=Aside0.mk c9
         clear c9
         obtain⟨acT,JB⟩:∃y_:List ByteArray,y_=(x3_1++[a0.extract (x4_1:Int).toNat (x5_1:Int).toNat]):=⟨_,rfl⟩
         replace H:(bC.l0 k1 a0 acT (wrap64 (x5_1+1)) (wrap64 (x5_1+1)))=some r:=by first | (rw [JB];with_reducible exact H) | (have D9:=(Option.bind_some _ _).symm.trans H;rw [JB];with_reducible exact D9) | (have D9:=(Option.bind_some _ _).symm.trans H;with_reducible exact D9) | with_reducible exact H | (rw [JB];exact H) | exact H
         have adI:=Aside0.mk JB
         clear JB
         have H':=Aside0.mk H
         clear H
         go_wp2_with (first | ((with_reducible refine BR (b:= .append) (xs:=#[.tmp 23, .tmp 28]) rfl ?_);at_builtin;refine Kd.NZ Kd.string (w0:=w) w.heap.size rfl (.tmp 23) (.tmp 28) 22 9 (.string ⟨#[]⟩) 16 rfl Tryz.underlying22 info9 rfl (by decide) (by omega) u3 x3_1 (a0.extract (x4_1:Int).toNat (x5_1:Int).toNat) [.string (a0.extract (x4_1:Int).toNat (x5_1:Int).toNat)] (fun _=>True) (fun _=>False) rfl rfl ?aP (fun _ hk=>hk.elim) ?aF ?aO ?aB ?aS ?aL ?_;(case aP=>exact rfl);(case aB=>exact(by repeat (first | (with_reducible first | exact HB.out | apply aj | apply ah | apply ak) | exact HB.out)));(case aF=>exact(fun _ _=>trivial));(case aO=>exact(by(with_reducible repeat (first | apply Kd.dK | apply Kd.dL | apply Kd.dZ));exact dh.out));(case aS=>exact(jg (by repeat (first | (with_reducible first | exact HB.out | apply aj | apply ah | apply ak) | exact HB.out))));(case aL=>have:=aeU.out;omega);intro afA w10 ho hb hg hat;rw [←adI.out] at ho;have bf:=Aside0.mk (hb);have gy:=Aside0.mk (ho);clear HB;clear dh;have HB:=bf;have adJ:=gy;clear bf gy;clear ho hb hg hat))
         go_roundg k1
         case measure=>have:=jZ.out;omega
         case rel=>exact⟨(acT),(wrap64 (x5_1+1)),(wrap64 (x5_1+1)),(by first | rfl | (simp;done) | (simp [*];done)),(by first | rfl | (simp;done) | (simp [*];done)),H',⟨by have:=jZ.out;omega⟩,⟨by(with_reducible repeat (first | apply Kd.dK | apply Kd.dL | apply Kd.dZ));exact adJ.out⟩,⟨by repeat (first | (with_reducible first | exact HB.out | apply aj | apply ah | apply ak) | exact HB.out)⟩⟩
        ·rw [if_neg c9] at H
         exact absurd H (by simp)
       ·rw [if_neg c7] at H
        exact absurd H (by simp)
      ·rw [if_neg c6] at H
       exact absurd H (by simp)
     ·rw [if_neg c5] at H
      have sU:(x5_1==(a0.size:Int))=false:=beq_eq_false_iff_ne.mpr c5
      have D8:(x5_1 !=(a0.size:Int))=true:=bne_iff_ne.mpr c5
      by_cases c11:0≤x5_1
      ·rw [if_pos c11] at H
       have nZ:decide (0≤x5_1)=true:=decide_eq_true c11
       clear c11
       by_cases c12:x5_1<(a0.size:Int)
       ·rw [if_pos c12] at H
        have NP:decide (x5_1<(a0.size:Int))=true:=decide_eq_true c12
        clear c12
        by_cases c14:(bt a0 x5_1)=47
        ·rw [if_pos c14] at H
         have o8:((bt a0 x5_1)==47)=true:=beq_iff_eq.mpr c14
         have Ve:((bt a0 x5_1) !=47)=false:=bne_eq_false_iff_eq.mpr c14
         clear c14
         by_cases c15:0≤x4_1
         ·rw [if_pos c15] at H
          have aai:=eq_true c15
          have aaj:decide (0≤x4_1)=true:=decide_eq_true c15
          clear c15
          by_cases c16:x4_1≤x5_1
          ·rw [if_pos c16] at H
           have NQ:=eq_true c16
           have afn:decide (x4_1≤x5_1)=true:=decide_eq_true c16
           clear c16
           have NR:=eq_true (of_decide_eq_true (by first | (with_reducible assumption) | assumption):x5_1≤(a0.size:Int))
           by_cases c18:x3_1.length<8796093022208
           ·rw [if_pos c18] at H
            have adK:=Aside0.mk c18
            clear c18
            obtain⟨acU,JC⟩:∃y_:List ByteArray,y_=(x3_1++[a0.extract (x4_1:Int).toNat (x5_1:Int).toNat]):=⟨_,rfl⟩
            replace H:(bC.l0 k1 a0 acU (wrap64 (x5_1+1)) (wrap64 (x5_1+1)))=some r:=by first | (rw [JC];with_reducible exact H) | (have D9:=(Option.bind_some _ _).symm.trans H;rw [JC];with_reducible exact D9) | (have D9:=(Option.bind_some _ _).symm.trans H;with_reducible exact D9) | with_reducible exact H | (rw [JC];exact H) | exact H
            have adL:=Aside0.mk JC
            clear JC
            have H':=Aside0.mk H
            clear H
            have p13:0≤(x5_1:Int):=of_decide_eq_true (by first | (with_reducible assumption) | assumption)
            have q13:x5_1<(a0.size:Int):=of_decide_eq_true (by first | (with_reducible assumption) | assumption)
            have aeV:=pV a0 x5_1
            replace p13:=eq_true p13
            replace q13:=eq_true q13
            go_wp2_with (first | ((with_reducible refine BR (b:= .append) (xs:=#[.tmp 23, .tmp 28]) rfl ?_);at_builtin;refine Kd.NZ Kd.string (w0:=w) w.heap.size rfl (.tmp 23) (.tmp 28) 22 9 (.string ⟨#[]⟩) 16 rfl Tryz.underlying22 info9 rfl (by decide) (by omega) u3 x3_1 (a0.extract (x4_1:Int).toNat (x5_1:Int).toNat) [.string (a0.extract (x4_1:Int).toNat (x5_1:Int).toNat)] (fun _=>True) (fun _=>False) rfl rfl ?aP (fun _ hk=>hk.elim) ?aF ?aO ?aB ?aS ?aL ?_;(case aP=>exact rfl);(case aB=>exact(by repeat (first | (with_reducible first | exact HB.out | apply aj | apply ah | apply ak) | exact HB.out)));(case aF=>exact(fun _ _=>trivial));(case aO=>exact(by(with_reducible repeat (first | apply Kd.dK | apply Kd.dL | apply Kd.dZ));exact dh.out));(case aS=>exact(jg (by repeat (first | (with_reducible first | exact HB.out | apply aj | apply ah | apply ak) | exact HB.out))));(case aL=>have:=adK.out;omega);intro afB w19 ho hb hg hat;rw [←adL.out] at ho;have bf:=Aside0.mk (hb);have gy:=Aside0.mk (ho);clear HB;clear dh;have HB:=bf;have adM:=gy;clear bf gy;clear ho hb hg hat))
            go_roundg k1
            case measure=>have:=jZ.out;omega
            case rel=>exact⟨(acU),(wrap64 (x5_1+1)),(wrap64 (x5_1+1)),(by first | rfl | (simp;done) | (simp [*];done)),(by first | rfl | (simp;done) | (simp [*];done)),H',⟨by have:=jZ.out;omega⟩,⟨by(with_reducible repeat (first | apply Kd.dK | apply Kd.dL | apply Kd.dZ));exact adM.out⟩,⟨by repeat (first | (with_reducible first | exact HB.out | apply aj | apply ah | apply ak) | exact HB.out)⟩⟩
           ·rw [if_neg c18] at H
            exact absurd H (by simp)
          ·rw [if_neg c16] at H
           exact absurd H (by simp)
         ·rw [if_neg c15] at H
          exact absurd H (by simp)
        ·rw [if_neg c14] at H
         have o8:((bt a0 x5_1)==47)=false:=beq_eq_false_iff_ne.mpr c14
         have Ve:((bt a0 x5_1) !=47)=true:=bne_iff_ne.mpr c14
         have H':=Aside0.mk H
         clear H
         have p13:0≤(x5_1:Int):=of_decide_eq_true (by first | (with_reducible assumption) | assumption)
         have q13:x5_1<(a0.size:Int):=of_decide_eq_true (by first | (with_reducible assumption) | assumption)
         have aeV:=pV a0 x5_1
         replace p13:=eq_true p13
         replace q13:=eq_true q13
         go_wp2
         go_roundg k1
         case measure=>have:=jZ.out;omega
         case rel=>exact⟨(x3_1),(x4_1),(wrap64 (x5_1+1)),(by first | rfl | (simp;done) | (simp [*];done)),(by first | rfl | (simp;done) | (simp [*];done)),H',⟨by have:=jZ.out;omega⟩,⟨by(with_reducible repeat (first | apply Kd.dK | apply Kd.dL | apply Kd.dZ));exact dh.out⟩,⟨by repeat (first | (with_reducible first | exact HB.out | apply aj | apply ah | apply ak) | exact HB.out)⟩⟩
       ·rw [if_neg c12] at H
        exact absurd H (by simp)
      ·rw [if_neg c11] at H
       exact absurd H (by simp)
    ·rw [if_neg c4] at H
     have jM:decide (x5_1≤(a0.size:Int))=false:=decide_eq_false c4
     clear c4
     obtain rfl:=Option.some.inj H
     go_wp2
     go_ret
     exact⟨_,by first | rfl | (simp [aJ,aK]<;>rfl) | (simp [*,aJ,aK]<;>rfl),by(with_reducible repeat (first | apply Kd.dK | apply Kd.dL | apply Kd.dZ));exact dh.out,by repeat (first | (with_reducible first | exact HB.out | apply aj | apply ah | apply ak) | exact HB.out)⟩
end Go.Proofs.YtcnfgfomholheaaGreatDoor.P
