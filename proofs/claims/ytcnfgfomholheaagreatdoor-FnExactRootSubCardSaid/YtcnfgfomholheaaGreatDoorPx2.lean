import Derived.Test.YtcnfgfomholheaaGreatDoorPx0
import Derived.Test.YtcnfgfomholheaaGreatDoorPx1
import Derived.Test.YtcnfgfomholheaaGreatDoorX12
import Derived.Test.YtcnfgfomholheaaGreatDoorX5
namespace Go.Proofs.YtcnfgfomholheaaGreatDoor.P
open Go.RowKit Go.Proofs.YtcnfgfomholheaaGreatDoor.X Go.Proofs.YtcnfgfomholheaaGreatDoorW.PrintWords Go.Proofs.YtcnfgfomholheaaGreatDoorW.PrintLast Go.Proofs.YtcnfgfomholheaaGreatDoorW.PrintMore
attribute [local go_sem] oJ oK qU qV mX mY oL oM
set_option linter.unusedVariables false
set_option linter.unusedSimpArgs false
def pz.f (a0:ByteArray):Option (Bool):=(fA.f a0).bind fun MW=>(if MW=true then (if a0.toList=([]:List UInt8) then (some false) else ((strings_ContainsAny.f a0 (⟨#[43,35]⟩:ByteArray)).bind fun t105=>(if t105=true then (some false) else ((gu.f a0).bind fun sO=>(some (decide ((sO.length:Int)≤6))))))) else (some false))
set_option maxHeartbeats 8000000 in
set_option maxRecDepth 100000 in
theorem pz.calls (a0:ByteArray) (r:Bool) (w:World) (hT:Tabs w) (h:pz.f a0=some r):
  Calls Tryz.prog 149 #[.string a0] w fun e w'=>e= .returned (.bool r)∧Below w.heap.size w w':=by
 have HT:=Aside0.mk hT
 clear hT
 have HB:=Aside0.mk (Below.refl w.heap.size w)
 have H:((fA.f a0).bind fun MW=>(if MW=true then (if a0.toList=([]:List UInt8) then (some false) else ((strings_ContainsAny.f a0 (⟨#[43,35]⟩:ByteArray)).bind fun t105=>(if t105=true then (some false) else ((gu.f a0).bind fun sO=>(some (decide ((sO.length:Int)≤6))))))) else (some false)))=some r:=h
 clear h
 replace H:=Option.bind_eq_some_iff.mp H
 obtain⟨MW,rG,H⟩:=H
 replace H:(if MW=true then (if a0.toList=([]:List UInt8) then (some false) else ((strings_ContainsAny.f a0 (⟨#[43,35]⟩:ByteArray)).bind fun t105=>(if t105=true then (some false) else ((gu.f a0).bind fun sO=>(some (decide ((sO.length:Int)≤6))))))) else (some false))=some r:=H
 have A2:=Aside0.mk rG
 clear rG
 by_cases c3:MW=true
 ·subst c3
  have H1:(if a0.toList=([]:List UInt8) then (some false) else ((strings_ContainsAny.f a0 (⟨#[43,35]⟩:ByteArray)).bind fun t105=>(if t105=true then (some false) else ((gu.f a0).bind fun sO=>(some (decide ((sO.length:Int)≤6)))))))=some r:=by rw [if_pos rfl] at H;exact H
  clear H
  have H:=H1
  clear H1
  by_cases c4:a0.toList=([]:List UInt8)
  ·rw [if_pos c4] at H
   have lV:(a0.toList==([]:List UInt8))=true:=beq_iff_eq.mpr c4
   have abq:(a0.toList !=([]:List UInt8))=false:=bne_eq_false_iff_eq.mpr c4
   clear c4
   obtain rfl:=Option.some.inj H
   go_enter Tryz.func149,Tryz.ntmps149
   go_wp2_with (first | ((with_reducible refine bH (f:=147) rfl ?_);refine dS (some 4) rfl rfl Tryz.func147 (by kernel_rfl) rfl #[.string a0] rfl (by(try simp only [List.map_toArray,List.map_cons,List.map_nil]);first | done | rfl | (simp only [List.length_drop,List.length_take];rfl)) ?_;(with_reducible refine(fA.calls a0 true _ ?ku A2.out).mono ?_);(case ku=>exact Tabs.below HT.out (by repeat (first | (with_reducible first | exact HB.out | apply aj | apply ah | apply au) | exact HB.out)));rintro e w5 ⟨rfl,hb⟩;refine⟨_,rfl,?_⟩;have dB:=Aside0.mk (bM (by repeat (first | (with_reducible first | exact HB.out | apply aj | apply ah | apply au) | exact HB.out)) hb);clear HB;have HB:=dB;clear dB;(try clear hb);(try clear hb2);(try clear hk);(try clear hi)))
   go_ret
   exact⟨by first | rfl | (simp [aJ,aK]<;>rfl) | (simp [*,aJ,aK]<;>rfl),by repeat (first | (with_reducible first | exact HB.out | apply aj | apply ah | apply au) | exact HB.out)⟩
  ·rw [if_neg c4] at H
   have lV:(a0.toList==([]:List UInt8))=false:=beq_eq_false_iff_ne.mpr c4
   have abq:(a0.toList !=([]:List UInt8))=true:=bne_iff_ne.mpr c4
   replace H:=Option.bind_eq_some_iff.mp H
   obtain⟨t105,OL,H⟩:=H
   replace H:(if t105=true then (some false) else ((gu.f a0).bind fun sO=>(some (decide ((sO.length:Int)≤6)))))=some r:=H
   have A6:=Aside0.mk OL
   clear OL
   by_cases c7:t105=true
   ·subst c7
    have H1:(some false)=some r:=by rw [if_pos rfl] at H;exact H
    clear H
    have H:=H1
    clear H1
    obtain rfl:=Option.some.inj H
    go_enter Tryz.func149,Tryz.ntmps149
    go_wp2_with (first | ((with_reducible refine bH (f:=147) rfl ?_);refine dS (some 4) rfl rfl Tryz.func147 (by kernel_rfl) rfl #[.string a0] rfl (by(try simp only [List.map_toArray,List.map_cons,List.map_nil]);first | done | rfl | (simp only [List.length_drop,List.length_take];rfl)) ?_;(with_reducible refine(fA.calls a0 true _ ?ku A2.out).mono ?_);(case ku=>exact Tabs.below HT.out (by repeat (first | (with_reducible first | exact HB.out | apply aj | apply ah | apply au) | exact HB.out)));rintro e w8 ⟨rfl,hb⟩;refine⟨_,rfl,?_⟩;have dB:=Aside0.mk (bM (by repeat (first | (with_reducible first | exact HB.out | apply aj | apply ah | apply au) | exact HB.out)) hb);clear HB;have HB:=dB;clear dB;(try clear hb);(try clear hb2);(try clear hk);(try clear hi)) | (go_at_call 193;(with_reducible refine(strings_ContainsAny.calls a0 (⟨#[43,35]⟩:ByteArray) true _ A6.out).mono ?_);rintro e w9 ⟨rfl,hb⟩;have dB:=Aside0.mk (bM (by repeat (first | (with_reducible first | exact HB.out | apply aj | apply ah | apply au) | exact HB.out)) hb);clear HB;have HB:=dB;clear dB;(try clear hb);(try clear hb2);(try clear hk);(try clear hi)))
    go_ret
    exact⟨by first | rfl | (simp [aJ,aK]<;>rfl) | (simp [*,aJ,aK]<;>rfl),by repeat (first | (with_reducible first | exact HB.out | apply aj | apply ah | apply au) | exact HB.out)⟩
   ·replace c7:=Bool.eq_false_iff.mpr c7
    subst c7
    have H1:((gu.f a0).bind fun sO=>(some (decide ((sO.length:Int)≤6))))=some r:=by rw [if_neg (show ¬(false=true) by decide)] at H;exact H
    clear H
    have H:=H1
    clear H1
    replace H:=Option.bind_eq_some_iff.mp H
    obtain⟨sO,aeI,H⟩:=H
    replace H:(some (decide ((sO.length:Int)≤6)))=some r:=H
    have A10:=Aside0.mk aeI
    clear aeI
    obtain rfl:=Option.some.inj H
    go_enter Tryz.func149,Tryz.ntmps149
    go_wp2_with (first | ((with_reducible refine bH (f:=147) rfl ?_);refine dS (some 4) rfl rfl Tryz.func147 (by kernel_rfl) rfl #[.string a0] rfl (by(try simp only [List.map_toArray,List.map_cons,List.map_nil]);first | done | rfl | (simp only [List.length_drop,List.length_take];rfl)) ?_;(with_reducible refine(fA.calls a0 true _ ?ku A2.out).mono ?_);(case ku=>exact Tabs.below HT.out (by repeat (first | (with_reducible first | exact HB.out | apply aj | apply ah | apply au) | exact HB.out)));rintro e w11 ⟨rfl,hb⟩;refine⟨_,rfl,?_⟩;have dB:=Aside0.mk (bM (by repeat (first | (with_reducible first | exact HB.out | apply aj | apply ah | apply au) | exact HB.out)) hb);clear HB;have HB:=dB;clear dB;(try clear hb);(try clear hb2);(try clear hk);(try clear hi)) | (go_at_call 193;(with_reducible refine(strings_ContainsAny.calls a0 (⟨#[43,35]⟩:ByteArray) false _ A6.out).mono ?_);rintro e w12 ⟨rfl,hb⟩;have dB:=Aside0.mk (bM (by repeat (first | (with_reducible first | exact HB.out | apply aj | apply ah | apply au) | exact HB.out)) hb);clear HB;have HB:=dB;clear dB;(try clear hb);(try clear hb2);(try clear hk);(try clear hi)) | (go_at_call 101;(with_reducible refine(gu.calls a0 sO _ ?ku A10.out).mono ?_);(case ku=>exact Tabs.below HT.out (by repeat (first | (with_reducible first | exact HB.out | apply aj | apply ah | apply au) | exact HB.out)));rintro e w13 ⟨v107,rfl,ho0,hb⟩;have dB:=Aside0.mk (Kd.sV ho0 (lu (by repeat (first | (with_reducible first | exact HB.out | apply aj | apply ah | apply au) | exact HB.out))));have iW:=Aside0.mk (bM (by repeat (first | (with_reducible first | exact HB.out | apply aj | apply ah | apply au) | exact HB.out)) hb);clear HB;have afx:=dB;have HB:=iW;clear dB iW;(try clear hb);(try clear hb2);(try clear hk);(try clear hi);(try clear ho0);obtain⟨agI,agJ,abr⟩:=Kd.jV afx.out;subst abr))
    go_ret
    exact⟨by first | rfl | (simp [aJ,aK]<;>rfl) | (simp [*,aJ,aK]<;>rfl),by repeat (first | (with_reducible first | exact HB.out | apply aj | apply ah | apply au) | exact HB.out)⟩
 ·replace c3:=Bool.eq_false_iff.mpr c3
  subst c3
  have H1:(some false)=some r:=by rw [if_neg (show ¬(false=true) by decide)] at H;exact H
  clear H
  have H:=H1
  clear H1
  obtain rfl:=Option.some.inj H
  go_enter Tryz.func149,Tryz.ntmps149
  go_wp2_with (first | ((with_reducible refine bH (f:=147) rfl ?_);refine dS (some 4) rfl rfl Tryz.func147 (by kernel_rfl) rfl #[.string a0] rfl (by(try simp only [List.map_toArray,List.map_cons,List.map_nil]);first | done | rfl | (simp only [List.length_drop,List.length_take];rfl)) ?_;(with_reducible refine(fA.calls a0 false _ ?ku A2.out).mono ?_);(case ku=>exact Tabs.below HT.out (by repeat (first | (with_reducible first | exact HB.out | apply aj | apply ah | apply au) | exact HB.out)));rintro e w15 ⟨rfl,hb⟩;refine⟨_,rfl,?_⟩;have dB:=Aside0.mk (bM (by repeat (first | (with_reducible first | exact HB.out | apply aj | apply ah | apply au) | exact HB.out)) hb);clear HB;have HB:=dB;clear dB;(try clear hb);(try clear hb2);(try clear hk);(try clear hi)))
  go_ret
  exact⟨by first | rfl | (simp [aJ,aK]<;>rfl) | (simp [*,aJ,aK]<;>rfl),by repeat (first | (with_reducible first | exact HB.out | apply aj | apply ah | apply au) | exact HB.out)⟩
def kE.f (a0:ByteArray) (a1:Bool):Option (Bool):=(strings_ContainsAny.f a0 (⟨#[43,35]⟩:ByteArray)).bind fun t109=>(if t109=true then (if a0.toList=([43]:List UInt8) then (some true) else (if a0.toList=([35]:List UInt8) then (some a1) else (some false))) else (some true))
set_option maxHeartbeats 8000000 in
set_option maxRecDepth 100000 in
theorem kE.calls (a0:ByteArray) (a1:Bool) (r:Bool) (w:World) (h:kE.f a0 a1=some r):
  Calls Tryz.prog 146 #[.string a0, .bool a1] w fun e w'=>e= .returned (.bool r)∧Below w.heap.size w w':=by
 have HB:=Aside0.mk (Below.refl w.heap.size w)
 have H:((strings_ContainsAny.f a0 (⟨#[43,35]⟩:ByteArray)).bind fun t109=>(if t109=true then (if a0.toList=([43]:List UInt8) then (some true) else (if a0.toList=([35]:List UInt8) then (some a1) else (some false))) else (some true)))=some r:=h
 clear h
 replace H:=Option.bind_eq_some_iff.mp H
 obtain⟨t109,A30,H⟩:=H
 replace H:(if t109=true then (if a0.toList=([43]:List UInt8) then (some true) else (if a0.toList=([35]:List UInt8) then (some a1) else (some false))) else (some true))=some r:=H
 have A3:=Aside0.mk A30
 clear A30
 by_cases c4:t109=true
 ·subst c4
  have H1:(if a0.toList=([43]:List UInt8) then (some true) else (if a0.toList=([35]:List UInt8) then (some a1) else (some false)))=some r:=by rw [if_pos rfl] at H;exact H
  clear H
  have H:=H1
  clear H1
  by_cases c5:a0.toList=([43]:List UInt8)
  ·rw [if_pos c5] at H
   have MX:(a0.toList==([43]:List UInt8))=true:=beq_iff_eq.mpr c5
   have abt:(a0.toList !=([43]:List UInt8))=false:=bne_eq_false_iff_eq.mpr c5
   clear c5
   obtain rfl:=Option.some.inj H
   go_enter Tryz.func146,Tryz.ntmps146
   go_wp2_with (first | ((with_reducible refine bH (f:=193) rfl ?_);refine dS (some 6) rfl rfl Tryz.func193 (by kernel_rfl) rfl #[.string a0, .string (⟨#[43,35]⟩:ByteArray)] rfl (by(try simp only [List.map_toArray,List.map_cons,List.map_nil]);first | done | rfl | (simp only [List.length_drop,List.length_take];rfl)) ?_;(with_reducible refine(strings_ContainsAny.calls a0 (⟨#[43,35]⟩:ByteArray) true _ A3.out).mono ?_);rintro e w6 ⟨rfl,hb⟩;refine⟨_,rfl,?_⟩;have dB:=Aside0.mk (bM (by repeat (first | (with_reducible first | exact HB.out | apply aj | apply ah | apply au) | exact HB.out)) hb);clear HB;have HB:=dB;clear dB;(try clear hb);(try clear hb2);(try clear hk);(try clear hi)))
   go_ret
   exact⟨by first | rfl | (simp [aJ,aK]<;>rfl) | (simp [*,aJ,aK]<;>rfl),by repeat (first | (with_reducible first | exact HB.out | apply aj | apply ah | apply au) | exact HB.out)⟩
  ·rw [if_neg c5] at H
   have MX:(a0.toList==([43]:List UInt8))=false:=beq_eq_false_iff_ne.mpr c5
   have abt:(a0.toList !=([43]:List UInt8))=true:=bne_iff_ne.mpr c5
   by_cases c7:a0.toList=([35]:List UInt8)
   ·rw [if_pos c7] at H
    have EX:(a0.toList==([35]:List UInt8))=true:=beq_iff_eq.mpr c7
    have aeJ:(a0.toList !=([35]:List UInt8))=false:=bne_eq_false_iff_eq.mpr c7
    clear c7
    obtain rfl:=Option.some.inj H
    go_enter Tryz.func146,Tryz.ntmps146
    go_wp2_with (first | ((with_reducible refine bH (f:=193) rfl ?_);refine dS (some 6) rfl rfl Tryz.func193 (by kernel_rfl) rfl #[.string a0, .string (⟨#[43,35]⟩:ByteArray)] rfl (by(try simp only [List.map_toArray,List.map_cons,List.map_nil]);first | done | rfl | (simp only [List.length_drop,List.length_take];rfl)) ?_;(with_reducible refine(strings_ContainsAny.calls a0 (⟨#[43,35]⟩:ByteArray) true _ A3.out).mono ?_);rintro e w8 ⟨rfl,hb⟩;refine⟨_,rfl,?_⟩;have dB:=Aside0.mk (bM (by repeat (first | (with_reducible first | exact HB.out | apply aj | apply ah | apply au) | exact HB.out)) hb);clear HB;have HB:=dB;clear dB;(try clear hb);(try clear hb2);(try clear hk);(try clear hi)))
    go_ret
    exact⟨by first | rfl | (simp [aJ,aK]<;>rfl) | (simp [*,aJ,aK]<;>rfl),by repeat (first | (with_reducible first | exact HB.out | apply aj | apply ah | apply au) | exact HB.out)⟩
   ·rw [if_neg c7] at H
    have EX:(a0.toList==([35]:List UInt8))=false:=beq_eq_false_iff_ne.mpr c7
    have aeJ:(a0.toList !=([35]:List UInt8))=true:=bne_iff_ne.mpr c7
    obtain rfl:=Option.some.inj H
    go_enter Tryz.func146,Tryz.ntmps146
    go_wp2_with (first | ((with_reducible refine bH (f:=193) rfl ?_);refine dS (some 6) rfl rfl Tryz.func193 (by kernel_rfl) rfl #[.string a0, .string (⟨#[43,35]⟩:ByteArray)] rfl (by(try simp only [List.map_toArray,List.map_cons,List.map_nil]);first | done | rfl | (simp only [List.length_drop,List.length_take];rfl)) ?_;(with_reducible refine(strings_ContainsAny.calls a0 (⟨#[43,35]⟩:ByteArray) true _ A3.out).mono ?_);rintro e w9 ⟨rfl,hb⟩;refine⟨_,rfl,?_⟩;have dB:=Aside0.mk (bM (by repeat (first | (with_reducible first | exact HB.out | apply aj | apply ah | apply au) | exact HB.out)) hb);clear HB;have HB:=dB;clear dB;(try clear hb);(try clear hb2);(try clear hk);(try clear hi)))
    go_ret
    exact⟨by first | rfl | (simp [aJ,aK]<;>rfl) | (simp [*,aJ,aK]<;>rfl),by repeat (first | (with_reducible first | exact HB.out | apply aj | apply ah | apply au) | exact HB.out)⟩
 ·replace c4:=Bool.eq_false_iff.mpr c4
  subst c4
  have H1:(some true)=some r:=by rw [if_neg (show ¬(false=true) by decide)] at H;exact H
  clear H
  have H:=H1
  clear H1
  obtain rfl:=Option.some.inj H
  go_enter Tryz.func146,Tryz.ntmps146
  go_wp2_with (first | ((with_reducible refine bH (f:=193) rfl ?_);refine dS (some 6) rfl rfl Tryz.func193 (by kernel_rfl) rfl #[.string a0, .string (⟨#[43,35]⟩:ByteArray)] rfl (by(try simp only [List.map_toArray,List.map_cons,List.map_nil]);first | done | rfl | (simp only [List.length_drop,List.length_take];rfl)) ?_;(with_reducible refine(strings_ContainsAny.calls a0 (⟨#[43,35]⟩:ByteArray) false _ A3.out).mono ?_);rintro e w10 ⟨rfl,hb⟩;refine⟨_,rfl,?_⟩;have dB:=Aside0.mk (bM (by repeat (first | (with_reducible first | exact HB.out | apply aj | apply ah | apply au) | exact HB.out)) hb);clear HB;have HB:=dB;clear dB;(try clear hb);(try clear hb2);(try clear hk);(try clear hi)))
  go_ret
  exact⟨by first | rfl | (simp [aJ,aK]<;>rfl) | (simp [*,aJ,aK]<;>rfl),by repeat (first | (with_reducible first | exact HB.out | apply aj | apply ah | apply au) | exact HB.out)⟩
def dJ.l0:Nat→ByteArray→List ByteArray→List ByteArray→Int→Int→Option (Bool)
 | 0,_,_,_,_,_=>none
 | k+1,x0,x3,x8,x9,x10=>if x10<x9 then (if 0≤x10 then (if x10<(x8.length:Int) then ((kE.f (cZ ByteArray.empty x8 x10) (x10==(wrap64 ((x3.length:Int) - 1)))).bind fun Xw=>(if Xw=true then (dJ.l0 k x0 x3 x8 x9 (wrap64 (x10+1))) else (some false))) else (none)) else (none)) else ((fA.f x0).bind fun Xx=>(if Xx=true then (if x0.toList=([]:List UInt8) then (some false) else (some (decide ((x3.length:Int)≤6)))) else (some false)))
def dJ.f (k:Nat) (a0:ByteArray):Option (Bool):=(gu.f a0).bind fun gI=>(dJ.l0 k a0 gI gI (gI.length:Int) 0)
set_option maxHeartbeats 8000000 in
set_option maxRecDepth 100000 in
theorem dJ.calls (k:Nat) (a0:ByteArray) (r:Bool) (w:World) (hT:Tabs w) (h:dJ.f k a0=some r):
  Calls Tryz.prog 77 #[.string a0] w fun e w'=>e= .returned (.bool r)∧Below w.heap.size w w':=by
 have HT:=Aside0.mk hT
 clear hT
 have HB:=Aside0.mk (Below.refl w.heap.size w)
 have H:((gu.f a0).bind fun gI=>(dJ.l0 k a0 gI gI (gI.length:Int) 0))=some r:=h
 clear h
 replace H:=Option.bind_eq_some_iff.mp H
 obtain⟨gI,rG,H⟩:=H
 replace H:(dJ.l0 k a0 gI gI (gI.length:Int) 0)=some r:=H
 have A2:=Aside0.mk rG
 clear rG
 have H':=Aside0.mk H
 clear H
 go_enter Tryz.func77,Tryz.ntmps77
 go_wp2_with (first | ((with_reducible refine bH (f:=101) rfl ?_);refine dS (some 7) rfl rfl Tryz.func101 (by kernel_rfl) rfl #[.string a0] rfl (by(try simp only [List.map_toArray,List.map_cons,List.map_nil]);first | done | rfl | (simp only [List.length_drop,List.length_take];rfl)) ?_;(with_reducible refine(gu.calls a0 gI _ ?ku A2.out).mono ?_);(case ku=>exact Tabs.below HT.out (by repeat (first | (with_reducible first | exact HB.out | apply aj | apply ah | apply au) | exact HB.out)));rintro e w3 ⟨ahr,rfl,ho0,hb⟩;refine⟨_,rfl,?_⟩;have dB:=Aside0.mk (Kd.sV ho0 (lu (by repeat (first | (with_reducible first | exact HB.out | apply aj | apply ah | apply au) | exact HB.out))));have iW:=Aside0.mk (bM (by repeat (first | (with_reducible first | exact HB.out | apply aj | apply ah | apply au) | exact HB.out)) hb);clear HB;have Xy:=dB;have HB:=iW;clear dB iW;(try clear hb);(try clear hb2);(try clear hk);(try clear hi);(try clear ho0);obtain⟨Ao4,co4,eo4⟩:=Kd.jV Xy.out;subst eo4))
 go_loopg [10] k (fun kq v10 w'=>∃(x10_1:Int),v10= .int .i64 x10_1∧Aside0 (dJ.l0 kq a0 gI gI (gI.length:Int) x10_1=some r)∧Aside0 (kq≤k)∧Aside0 (Kd.R Kd.string 9 w' w.heap.size (fun _=>True) (.slice Ao4 gI.length co4) gI)∧Aside0 (Kd.R Kd.string 9 w' w.heap.size (fun _=>True) (.slice Ao4 gI.length co4) gI)∧Aside0 (Below w.heap.size w w'))
 case atStart=>exact⟨(0),(by first | rfl | (simp;done) | (simp [*];done)),H',⟨Nat.le_refl _⟩,⟨by(with_reducible repeat (first | apply Kd.dQ | apply Kd.dR | apply Kd.fF));exact Xy.out⟩,⟨by(with_reducible repeat (first | apply Kd.dQ | apply Kd.dR | apply Kd.fF));exact Xy.out⟩,⟨by repeat (first | (with_reducible first | exact HB.out | apply aj | apply ah | apply au) | exact HB.out)⟩⟩
 case round=>
  clear H'
  try clear c1
  try clear p2
  obtain⟨x10_1,rfl,HA,ql,dh,oC,HB⟩:=hrel
  cases gk with
  | zero=>exact absurd HA.out (by simp [dJ.l0])
  | succ k1=>
    have H:=HA.out
    clear HA
    simp only [dJ.l0] at H
    by_cases c5:x10_1<(gI.length:Int)
    ·rw [if_pos c5] at H
     have MX:decide (x10_1<(gI.length:Int))=true:=decide_eq_true c5
     clear c5
     by_cases c6:0≤x10_1
     ·rw [if_pos c6] at H
      have EY:decide (0≤x10_1)=true:=decide_eq_true c6
      clear c6
      by_cases c7:x10_1<(gI.length:Int)
      ·rw [if_pos c7] at H
       have EX:decide (x10_1<(gI.length:Int))=true:=decide_eq_true c7
       clear c7
       replace H:=Option.bind_eq_some_iff.mp H
       obtain⟨Xw,A80,H⟩:=H
       replace H:(if Xw=true then (dJ.l0 k1 a0 gI gI (gI.length:Int) (wrap64 (x10_1+1))) else (some false))=some r:=H
       have A8:=Aside0.mk A80
       clear A80
       by_cases c9:Xw=true
       ·subst c9
        have H1:(dJ.l0 k1 a0 gI gI (gI.length:Int) (wrap64 (x10_1+1)))=some r:=by rw [if_pos rfl] at H;exact H
        clear H
        have H:=H1
        clear H1
        have H':=Aside0.mk H
        clear H
        have IJ:0≤(x10_1:Int):=of_decide_eq_true (by first | (with_reducible assumption) | assumption)
        have IK:x10_1<(gI.length:Int):=of_decide_eq_true (by first | (with_reducible assumption) | assumption)
        obtain⟨afy,abu,ade⟩:=Kd.dA (Kd.bn oC.out).2.2 x10_1 IJ IK
        cases abu
        replace IJ:=eq_true IJ
        replace IK:=eq_true IK
        go_wp2_with (first | ((with_reducible refine bH (f:=146) rfl ?_);refine dS (some 21) rfl rfl Tryz.func146 (by kernel_rfl) rfl #[.string (cZ ByteArray.empty gI x10_1), .bool (x10_1==(wrap64 ((gI.length:Int) - 1)))] rfl (by(try simp only [List.map_toArray,List.map_cons,List.map_nil]);first | done | rfl | (simp only [List.length_drop,List.length_take];rfl)) ?_;(with_reducible refine(kE.calls (cZ ByteArray.empty gI x10_1) (x10_1==(wrap64 ((gI.length:Int) - 1))) true _ A8.out).mono ?_);rintro e w10 ⟨rfl,hb⟩;refine⟨_,rfl,?_⟩;have dB:=Aside0.mk (Kd.jC (by(with_reducible repeat (first | apply Kd.dQ | apply Kd.dR | apply Kd.fF));exact dh.out) hb);have iW:=Aside0.mk (Kd.jC (by(with_reducible repeat (first | apply Kd.dQ | apply Kd.dR | apply Kd.fF));exact oC.out) hb);have y7:=Aside0.mk (bM (by repeat (first | (with_reducible first | exact HB.out | apply aj | apply ah | apply au) | exact HB.out)) hb);clear dh;clear oC;clear HB;have dh:=dB;have oC:=iW;have HB:=y7;clear dB iW y7;(try clear hb);(try clear hb2);(try clear hk);(try clear hi)))
        go_roundg k1
        case measure=>have:=ql.out;omega
        case rel=>exact⟨(wrap64 (x10_1+1)),(by first | rfl | (simp;done) | (simp [*];done)),H',⟨by have:=ql.out;omega⟩,⟨by(with_reducible repeat (first | apply Kd.dQ | apply Kd.dR | apply Kd.fF));exact dh.out⟩,⟨by(with_reducible repeat (first | apply Kd.dQ | apply Kd.dR | apply Kd.fF));exact oC.out⟩,⟨by repeat (first | (with_reducible first | exact HB.out | apply aj | apply ah | apply au) | exact HB.out)⟩⟩
       ·replace c9:=Bool.eq_false_iff.mpr c9
        subst c9
        have H1:(some false)=some r:=by rw [if_neg (show ¬(false=true) by decide)] at H;exact H
        clear H
        have H:=H1
        clear H1
        obtain rfl:=Option.some.inj H
        have IJ:0≤(x10_1:Int):=of_decide_eq_true (by first | (with_reducible assumption) | assumption)
        have IK:x10_1<(gI.length:Int):=of_decide_eq_true (by first | (with_reducible assumption) | assumption)
        obtain⟨afy,abu,ade⟩:=Kd.dA (Kd.bn oC.out).2.2 x10_1 IJ IK
        cases abu
        replace IJ:=eq_true IJ
        replace IK:=eq_true IK
        go_wp2_with (first | ((with_reducible refine bH (f:=146) rfl ?_);refine dS (some 21) rfl rfl Tryz.func146 (by kernel_rfl) rfl #[.string (cZ ByteArray.empty gI x10_1), .bool (x10_1==(wrap64 ((gI.length:Int) - 1)))] rfl (by(try simp only [List.map_toArray,List.map_cons,List.map_nil]);first | done | rfl | (simp only [List.length_drop,List.length_take];rfl)) ?_;(with_reducible refine(kE.calls (cZ ByteArray.empty gI x10_1) (x10_1==(wrap64 ((gI.length:Int) - 1))) false _ A8.out).mono ?_);rintro e w11 ⟨rfl,hb⟩;refine⟨_,rfl,?_⟩;have dB:=Aside0.mk (Kd.jC (by(with_reducible repeat (first | apply Kd.dQ | apply Kd.dR | apply Kd.fF));exact dh.out) hb);have iW:=Aside0.mk (Kd.jC (by(with_reducible repeat (first | apply Kd.dQ | apply Kd.dR | apply Kd.fF));exact oC.out) hb);have y7:=Aside0.mk (bM (by repeat (first | (with_reducible first | exact HB.out | apply aj | apply ah | apply au) | exact HB.out)) hb);clear dh;clear oC;clear HB;have dh:=dB;have oC:=iW;have HB:=y7;clear dB iW y7;(try clear hb);(try clear hb2);(try clear hk);(try clear hi)))
        go_ret
        exact⟨by first | rfl | (simp [aJ,aK]<;>rfl) | (simp [*,aJ,aK]<;>rfl),by repeat (first | (with_reducible first | exact HB.out | apply aj | apply ah | apply au) | exact HB.out)⟩
      ·rw [if_neg c7] at H
       exact absurd H (by simp)
     ·rw [if_neg c6] at H
      exact absurd H (by simp)
    ·rw [if_neg c5] at H
     have MX:decide (x10_1<(gI.length:Int))=false:=decide_eq_false c5
     clear c5
     replace H:=Option.bind_eq_some_iff.mp H
     obtain⟨Xx,SX,H⟩:=H
     replace H:(if Xx=true then (if a0.toList=([]:List UInt8) then (some false) else (some (decide ((gI.length:Int)≤6)))) else (some false))=some r:=H
     have ZX:=Aside0.mk SX
     clear SX
     by_cases c13:Xx=true
     ·subst c13
      have H1:(if a0.toList=([]:List UInt8) then (some false) else (some (decide ((gI.length:Int)≤6))))=some r:=by rw [if_pos rfl] at H;exact H
      clear H
      have H:=H1
      clear H1
      by_cases c14:a0.toList=([]:List UInt8)
      ·rw [if_pos c14] at H
       have qA:(a0.toList==([]:List UInt8))=true:=beq_iff_eq.mpr c14
       have Xz:(a0.toList !=([]:List UInt8))=false:=bne_eq_false_iff_eq.mpr c14
       clear c14
       obtain rfl:=Option.some.inj H
       go_wp2_with (first | ((with_reducible refine bH (f:=147) rfl ?_);refine dS (some 25) rfl rfl Tryz.func147 (by kernel_rfl) rfl #[.string a0] rfl (by(try simp only [List.map_toArray,List.map_cons,List.map_nil]);first | done | rfl | (simp only [List.length_drop,List.length_take];rfl)) ?_;(with_reducible refine(fA.calls a0 true _ ?ku ZX.out).mono ?_);(case ku=>exact Tabs.below HT.out (by repeat (first | (with_reducible first | exact HB.out | apply aj | apply ah | apply au) | exact HB.out)));rintro e w15 ⟨rfl,hb⟩;refine⟨_,rfl,?_⟩;have dB:=Aside0.mk (Kd.jC (by(with_reducible repeat (first | apply Kd.dQ | apply Kd.dR | apply Kd.fF));exact dh.out) hb);have iW:=Aside0.mk (Kd.jC (by(with_reducible repeat (first | apply Kd.dQ | apply Kd.dR | apply Kd.fF));exact oC.out) hb);have y7:=Aside0.mk (bM (by repeat (first | (with_reducible first | exact HB.out | apply aj | apply ah | apply au) | exact HB.out)) hb);clear dh;clear oC;clear HB;have dh:=dB;have oC:=iW;have HB:=y7;clear dB iW y7;(try clear hb);(try clear hb2);(try clear hk);(try clear hi)))
       go_ret
       exact⟨by first | rfl | (simp [aJ,aK]<;>rfl) | (simp [*,aJ,aK]<;>rfl),by repeat (first | (with_reducible first | exact HB.out | apply aj | apply ah | apply au) | exact HB.out)⟩
      ·rw [if_neg c14] at H
       have qA:(a0.toList==([]:List UInt8))=false:=beq_eq_false_iff_ne.mpr c14
       have Xz:(a0.toList !=([]:List UInt8))=true:=bne_iff_ne.mpr c14
       obtain rfl:=Option.some.inj H
       go_wp2_with (first | ((with_reducible refine bH (f:=147) rfl ?_);refine dS (some 25) rfl rfl Tryz.func147 (by kernel_rfl) rfl #[.string a0] rfl (by(try simp only [List.map_toArray,List.map_cons,List.map_nil]);first | done | rfl | (simp only [List.length_drop,List.length_take];rfl)) ?_;(with_reducible refine(fA.calls a0 true _ ?ku ZX.out).mono ?_);(case ku=>exact Tabs.below HT.out (by repeat (first | (with_reducible first | exact HB.out | apply aj | apply ah | apply au) | exact HB.out)));rintro e w16 ⟨rfl,hb⟩;refine⟨_,rfl,?_⟩;have dB:=Aside0.mk (Kd.jC (by(with_reducible repeat (first | apply Kd.dQ | apply Kd.dR | apply Kd.fF));exact dh.out) hb);have iW:=Aside0.mk (Kd.jC (by(with_reducible repeat (first | apply Kd.dQ | apply Kd.dR | apply Kd.fF));exact oC.out) hb);have y7:=Aside0.mk (bM (by repeat (first | (with_reducible first | exact HB.out | apply aj | apply ah | apply au) | exact HB.out)) hb);clear dh;clear oC;clear HB;have dh:=dB;have oC:=iW;have HB:=y7;clear dB iW y7;(try clear hb);(try clear hb2);(try clear hk);(try clear hi)))
       go_ret
       exact⟨by first | rfl | (simp [aJ,aK]<;>rfl) | (simp [*,aJ,aK]<;>rfl),by repeat (first | (with_reducible first | exact HB.out | apply aj | apply ah | apply au) | exact HB.out)⟩
     ·replace c13:=Bool.eq_false_iff.mpr c13
      subst c13
      have H1:(some false)=some r:=by rw [if_neg (show ¬(false=true) by decide)] at H;exact H
      clear H
      have H:=H1
      clear H1
      obtain rfl:=Option.some.inj H
      go_wp2_with (first | ((with_reducible refine bH (f:=147) rfl ?_);refine dS (some 25) rfl rfl Tryz.func147 (by kernel_rfl) rfl #[.string a0] rfl (by(try simp only [List.map_toArray,List.map_cons,List.map_nil]);first | done | rfl | (simp only [List.length_drop,List.length_take];rfl)) ?_;(with_reducible refine(fA.calls a0 false _ ?ku ZX.out).mono ?_);(case ku=>exact Tabs.below HT.out (by repeat (first | (with_reducible first | exact HB.out | apply aj | apply ah | apply au) | exact HB.out)));rintro e w17 ⟨rfl,hb⟩;refine⟨_,rfl,?_⟩;have dB:=Aside0.mk (Kd.jC (by(with_reducible repeat (first | apply Kd.dQ | apply Kd.dR | apply Kd.fF));exact dh.out) hb);have iW:=Aside0.mk (Kd.jC (by(with_reducible repeat (first | apply Kd.dQ | apply Kd.dR | apply Kd.fF));exact oC.out) hb);have y7:=Aside0.mk (bM (by repeat (first | (with_reducible first | exact HB.out | apply aj | apply ah | apply au) | exact HB.out)) hb);clear dh;clear oC;clear HB;have dh:=dB;have oC:=iW;have HB:=y7;clear dB iW y7;(try clear hb);(try clear hb2);(try clear hk);(try clear hi)))
      go_ret
      exact⟨by first | rfl | (simp [aJ,aK]<;>rfl) | (simp [*,aJ,aK]<;>rfl),by repeat (first | (with_reducible first | exact HB.out | apply aj | apply ah | apply au) | exact HB.out)⟩
def bK.l0:Nat→ByteArray→List ByteArray→Int→Int→Option (List ByteArray)
 | 0,_,_,_,_=>none
 | k+1,x0,x3,x4,x5=>if x5≤(x0.size:Int) then (if x5=(x0.size:Int) then (if 0≤x4 then (if x4≤x5 then (if x3.length<8796093022208 then (bK.l0 k x0 (x3++[x0.extract (x4:Int).toNat (x5:Int).toNat]) (wrap64 (x5+1)) (wrap64 (x5+1))) else (none)) else (none)) else (none)) else (if 0≤x5 then (if x5<(x0.size:Int) then (if (bt x0 x5)=47 then (if 0≤x4 then (if x4≤x5 then (if x3.length<8796093022208 then (bK.l0 k x0 (x3++[x0.extract (x4:Int).toNat (x5:Int).toNat]) (wrap64 (x5+1)) (wrap64 (x5+1))) else (none)) else (none)) else (none)) else (bK.l0 k x0 x3 x4 (wrap64 (x5+1)))) else (none)) else (none))) else (some x3)
def bK.f (k:Nat) (a0:ByteArray):Option (List ByteArray):=bK.l0 k a0 (([]:List ByteArray)) 0 0
set_option maxHeartbeats 8000000 in
set_option maxRecDepth 100000 in
theorem bK.calls (k:Nat) (a0:ByteArray) (r:List ByteArray) (w:World) (h:bK.f k a0=some r):
  Calls Tryz.prog 108 #[.string a0] w fun e w'=>∃ET:Value,e= .returned (ET)∧Kd.R Kd.string 9 w' w.heap.size (fun _=>True) ET r∧Below w.heap.size w w':=by
 have HB:=Aside0.mk (Below.refl w.heap.size w)
 have H:(bK.l0 k a0 (([]:List ByteArray)) 0 0)=some r:=h
 clear h
 obtain⟨aeK,KG⟩:∃y_:List ByteArray,y_=(([]:List ByteArray)):=⟨_,rfl⟩
 replace H:(bK.l0 k a0 aeK 0 0)=some r:=by first | (rw [KG];with_reducible exact H) | (have EZ:=(Option.bind_some _ _).symm.trans H;rw [KG];with_reducible exact EZ) | (have EZ:=(Option.bind_some _ _).symm.trans H;with_reducible exact EZ) | with_reducible exact H | (rw [KG];exact H) | exact H
 have abW:=Aside0.mk KG
 clear KG
 have H':=Aside0.mk H
 clear H
 go_enter Tryz.func108,Tryz.ntmps108
 go_wp2_with (first | ((with_reducible refine Hf (N:=6) rfl ?_);refine Kd.aeY Kd.string _ 9 ?hg (N:=6) ?hd (xs:=([]:List ByteArray)) (inner:=[]) (ok:=fun _=>True) (lW:=fun _=>True) ?hr ?hp (fun _ hk=>hk) trivial (Below.refl _ _) (Nat.le_refl _) (by simp) ?_;(case hd=>rfl);(case hg=>rfl);(case hr=>first | (go_simp;done) | (go_simp;rfl));(case hp=>exact(dw.none _ _));intro v117 w2 ho3 hb hg_ afz;clear hg_ afz;(first | rw [←abW.out] at ho3 | (simp only [Int.reduceToNat] at ho3;rw [←abW.out] at ho3));have dB:=Aside0.mk (Kd.sV ho3 (lu (by repeat (first | (with_reducible first | exact HB.out | apply aj | apply ah | apply au) | exact HB.out))));have iW:=Aside0.mk (bM (by repeat (first | (with_reducible first | exact HB.out | apply aj | apply ah | apply au) | exact HB.out)) hb);clear HB;have afA:=dB;have HB:=iW;clear dB iW;clear hb ho3))
 go_loopg [3,4,5] k (fun kq v3 v4 v5 w'=>∃(x3_1:List ByteArray) (x4_1:Int) (x5_1:Int),v4= .int .i64 x4_1∧v5= .int .i64 x5_1∧Aside0 (bK.l0 kq a0 x3_1 x4_1 x5_1=some r)∧Aside0 (kq≤k)∧Aside0 (Kd.R Kd.string 9 w' w.heap.size (fun _=>True) v3 x3_1)∧Aside0 (Below w.heap.size w w'))
 case atStart=>exact⟨(aeK),(0),(0),(by first | rfl | (simp;done) | (simp [*];done)),(by first | rfl | (simp;done) | (simp [*];done)),H',⟨Nat.le_refl _⟩,⟨by(with_reducible repeat (first | apply Kd.dQ | apply Kd.dR | apply Kd.fF));exact afA.out⟩,⟨by repeat (first | (with_reducible first | exact HB.out | apply aj | apply ah | apply au) | exact HB.out)⟩⟩
 case round=>
  clear H'
  try clear c1
  try clear p2
  obtain⟨x3_1,x4_1,x5_1,rfl,rfl,HA,ql,dh,HB⟩:=hrel
  cases gk with
  | zero=>exact absurd HA.out (by simp [bK.l0])
  | succ k1=>
    have H:=HA.out
    clear HA
    simp only [bK.l0] at H
    by_cases c4:x5_1≤(a0.size:Int)
    ·rw [if_pos c4] at H
     have lV:decide (x5_1≤(a0.size:Int))=true:=decide_eq_true c4
     clear c4
     by_cases c5:x5_1=(a0.size:Int)
     ·rw [if_pos c5] at H
      have MX:(x5_1==(a0.size:Int))=true:=beq_iff_eq.mpr c5
      have abt:(x5_1 !=(a0.size:Int))=false:=bne_eq_false_iff_eq.mpr c5
      clear c5
      by_cases c6:0≤x4_1
      ·rw [if_pos c6] at H
       have EY:=eq_true c6
       have aeL:decide (0≤x4_1)=true:=decide_eq_true c6
       clear c6
       by_cases c7:x4_1≤x5_1
       ·rw [if_pos c7] at H
        have EX:=eq_true c7
        have aeJ:decide (x4_1≤x5_1)=true:=decide_eq_true c7
        clear c7
        have E5:=eq_true (of_decide_eq_true (by first | (with_reducible assumption) | assumption):x5_1≤(a0.size:Int))
        by_cases c9:x3_1.length<8796093022208
        ·rw [if_pos c9] at H
         have agK:=Aside0.mk c9
         clear c9
         obtain⟨aeM,KH⟩:∃y_:List ByteArray,y_=(x3_1++[a0.extract (x4_1:Int).toNat (x5_1:Int).toNat]):=⟨_,rfl⟩
         replace H:(bK.l0 k1 a0 aeM (wrap64 (x5_1+1)) (wrap64 (x5_1+1)))=some r:=by first | (rw [KH];with_reducible exact H) | (have EZ:=(Option.bind_some _ _).symm.trans H;rw [KH];with_reducible exact EZ) | (have EZ:=(Option.bind_some _ _).symm.trans H;with_reducible exact EZ) | with_reducible exact H | (rw [KH];exact H) | exact H
         have afB:=Aside0.mk KH
         clear KH
         have H':=Aside0.mk H
         clear H
         go_wp2_with (first | ((with_reducible refine Dn (b:= .append) (xs:=#[.tmp 23, .tmp 28]) rfl ?_);at_builtin;refine Kd.PW Kd.string (w0:=w) w.heap.size rfl (.tmp 23) (.tmp 28) 22 9 (.string ⟨#[]⟩) 16 rfl Tryz.underlying22 info9 rfl (by decide) (by omega) u3 x3_1 (a0.extract (x4_1:Int).toNat (x5_1:Int).toNat) [.string (a0.extract (x4_1:Int).toNat (x5_1:Int).toNat)] (fun _=>True) (fun _=>False) rfl rfl ?aP (fun _ hk=>hk.elim) ?aF ?aO ?aB ?aS ?aL ?_;(case aP=>exact rfl);(case aB=>exact(by repeat (first | (with_reducible first | exact HB.out | apply aj | apply ah | apply au) | exact HB.out)));(case aF=>exact(fun _ _=>trivial));(case aO=>exact(by(with_reducible repeat (first | apply Kd.dQ | apply Kd.dR | apply Kd.fF));exact dh.out));(case aS=>exact(lu (by repeat (first | (with_reducible first | exact HB.out | apply aj | apply ah | apply au) | exact HB.out))));(case aL=>have:=agK.out;omega);intro ahs w10 ho hb hg hat;rw [←afB.out] at ho;have dB:=Aside0.mk (hb);have iW:=Aside0.mk (ho);clear HB;clear dh;have HB:=dB;have afC:=iW;clear dB iW;clear ho hb hg hat))
         go_roundg k1
         case measure=>have:=ql.out;omega
         case rel=>exact⟨(aeM),(wrap64 (x5_1+1)),(wrap64 (x5_1+1)),(by first | rfl | (simp;done) | (simp [*];done)),(by first | rfl | (simp;done) | (simp [*];done)),H',⟨by have:=ql.out;omega⟩,⟨by(with_reducible repeat (first | apply Kd.dQ | apply Kd.dR | apply Kd.fF));exact afC.out⟩,⟨by repeat (first | (with_reducible first | exact HB.out | apply aj | apply ah | apply au) | exact HB.out)⟩⟩
        ·rw [if_neg c9] at H
         exact absurd H (by simp)
       ·rw [if_neg c7] at H
        exact absurd H (by simp)
      ·rw [if_neg c6] at H
       exact absurd H (by simp)
     ·rw [if_neg c5] at H
      have MX:(x5_1==(a0.size:Int))=false:=beq_eq_false_iff_ne.mpr c5
      have abt:(x5_1 !=(a0.size:Int))=true:=bne_iff_ne.mpr c5
      by_cases c11:0≤x5_1
      ·rw [if_pos c11] at H
       have qB:decide (0≤x5_1)=true:=decide_eq_true c11
       clear c11
       by_cases c12:x5_1<(a0.size:Int)
       ·rw [if_pos c12] at H
        have abX:decide (x5_1<(a0.size:Int))=true:=decide_eq_true c12
        clear c12
        by_cases c14:(bt a0 x5_1)=47
        ·rw [if_pos c14] at H
         have qA:((bt a0 x5_1)==47)=true:=beq_iff_eq.mpr c14
         have Xz:((bt a0 x5_1) !=47)=false:=bne_eq_false_iff_eq.mpr c14
         clear c14
         by_cases c15:0≤x4_1
         ·rw [if_pos c15] at H
          have ahd:=eq_true c15
          have ahe:decide (0≤x4_1)=true:=decide_eq_true c15
          clear c15
          by_cases c16:x4_1≤x5_1
          ·rw [if_pos c16] at H
           have PI:=eq_true c16
           have ahf:decide (x4_1≤x5_1)=true:=decide_eq_true c16
           clear c16
           have PK:=eq_true (of_decide_eq_true (by first | (with_reducible assumption) | assumption):x5_1≤(a0.size:Int))
           by_cases c18:x3_1.length<8796093022208
           ·rw [if_pos c18] at H
            have afD:=Aside0.mk c18
            clear c18
            obtain⟨aeN,KI⟩:∃y_:List ByteArray,y_=(x3_1++[a0.extract (x4_1:Int).toNat (x5_1:Int).toNat]):=⟨_,rfl⟩
            replace H:(bK.l0 k1 a0 aeN (wrap64 (x5_1+1)) (wrap64 (x5_1+1)))=some r:=by first | (rw [KI];with_reducible exact H) | (have EZ:=(Option.bind_some _ _).symm.trans H;rw [KI];with_reducible exact EZ) | (have EZ:=(Option.bind_some _ _).symm.trans H;with_reducible exact EZ) | with_reducible exact H | (rw [KI];exact H) | exact H
            have afE:=Aside0.mk KI
            clear KI
            have H':=Aside0.mk H
            clear H
            have p13:0≤(x5_1:Int):=of_decide_eq_true (by first | (with_reducible assumption) | assumption)
            have q13:x5_1<(a0.size:Int):=of_decide_eq_true (by first | (with_reducible assumption) | assumption)
            have agL:=IV a0 x5_1
            replace p13:=eq_true p13
            replace q13:=eq_true q13
            go_wp2_with (first | ((with_reducible refine Dn (b:= .append) (xs:=#[.tmp 23, .tmp 28]) rfl ?_);at_builtin;refine Kd.PW Kd.string (w0:=w) w.heap.size rfl (.tmp 23) (.tmp 28) 22 9 (.string ⟨#[]⟩) 16 rfl Tryz.underlying22 info9 rfl (by decide) (by omega) u3 x3_1 (a0.extract (x4_1:Int).toNat (x5_1:Int).toNat) [.string (a0.extract (x4_1:Int).toNat (x5_1:Int).toNat)] (fun _=>True) (fun _=>False) rfl rfl ?aP (fun _ hk=>hk.elim) ?aF ?aO ?aB ?aS ?aL ?_;(case aP=>exact rfl);(case aB=>exact(by repeat (first | (with_reducible first | exact HB.out | apply aj | apply ah | apply au) | exact HB.out)));(case aF=>exact(fun _ _=>trivial));(case aO=>exact(by(with_reducible repeat (first | apply Kd.dQ | apply Kd.dR | apply Kd.fF));exact dh.out));(case aS=>exact(lu (by repeat (first | (with_reducible first | exact HB.out | apply aj | apply ah | apply au) | exact HB.out))));(case aL=>have:=afD.out;omega);intro aht w19 ho hb hg hat;rw [←afE.out] at ho;have dB:=Aside0.mk (hb);have iW:=Aside0.mk (ho);clear HB;clear dh;have HB:=dB;have afF:=iW;clear dB iW;clear ho hb hg hat))
            go_roundg k1
            case measure=>have:=ql.out;omega
            case rel=>exact⟨(aeN),(wrap64 (x5_1+1)),(wrap64 (x5_1+1)),(by first | rfl | (simp;done) | (simp [*];done)),(by first | rfl | (simp;done) | (simp [*];done)),H',⟨by have:=ql.out;omega⟩,⟨by(with_reducible repeat (first | apply Kd.dQ | apply Kd.dR | apply Kd.fF));exact afF.out⟩,⟨by repeat (first | (with_reducible first | exact HB.out | apply aj | apply ah | apply au) | exact HB.out)⟩⟩
           ·rw [if_neg c18] at H
            exact absurd H (by simp)
          ·rw [if_neg c16] at H
           exact absurd H (by simp)
         ·rw [if_neg c15] at H
          exact absurd H (by simp)
        ·rw [if_neg c14] at H
         have qA:((bt a0 x5_1)==47)=false:=beq_eq_false_iff_ne.mpr c14
         have Xz:((bt a0 x5_1) !=47)=true:=bne_iff_ne.mpr c14
         have H':=Aside0.mk H
         clear H
         have p13:0≤(x5_1:Int):=of_decide_eq_true (by first | (with_reducible assumption) | assumption)
         have q13:x5_1<(a0.size:Int):=of_decide_eq_true (by first | (with_reducible assumption) | assumption)
         have agL:=IV a0 x5_1
         replace p13:=eq_true p13
         replace q13:=eq_true q13
         go_wp2
         go_roundg k1
         case measure=>have:=ql.out;omega
         case rel=>exact⟨(x3_1),(x4_1),(wrap64 (x5_1+1)),(by first | rfl | (simp;done) | (simp [*];done)),(by first | rfl | (simp;done) | (simp [*];done)),H',⟨by have:=ql.out;omega⟩,⟨by(with_reducible repeat (first | apply Kd.dQ | apply Kd.dR | apply Kd.fF));exact dh.out⟩,⟨by repeat (first | (with_reducible first | exact HB.out | apply aj | apply ah | apply au) | exact HB.out)⟩⟩
       ·rw [if_neg c12] at H
        exact absurd H (by simp)
      ·rw [if_neg c11] at H
       exact absurd H (by simp)
    ·rw [if_neg c4] at H
     have lV:decide (x5_1≤(a0.size:Int))=false:=decide_eq_false c4
     clear c4
     obtain rfl:=Option.some.inj H
     go_wp2
     go_ret
     exact⟨_,by first | rfl | (simp [aJ,aK]<;>rfl) | (simp [*,aJ,aK]<;>rfl),by(with_reducible repeat (first | apply Kd.dQ | apply Kd.dR | apply Kd.fF));exact dh.out,by repeat (first | (with_reducible first | exact HB.out | apply aj | apply ah | apply au) | exact HB.out)⟩
end Go.Proofs.YtcnfgfomholheaaGreatDoor.P
