import Derived.Test.YtcnfgfomholheaaGreatDoorPx0
import Derived.Test.YtcnfgfomholheaaGreatDoorX13
namespace Go.Proofs.YtcnfgfomholheaaGreatDoor.P
open Go.RowKit Go.Proofs.YtcnfgfomholheaaGreatDoor.X Go.Proofs.YtcnfgfomholheaaGreatDoorW.PrintWords Go.Proofs.YtcnfgfomholheaaGreatDoorW.PrintLast Go.Proofs.YtcnfgfomholheaaGreatDoorW.PrintMore
attribute [local go_sem] mG mJ oQ oU kZ lg mM mO
set_option linter.unusedVariables false
set_option linter.unusedSimpArgs false
def uF.f (l0:List ByteArray):Option (ByteArray):=(strings_Join.f l0 (⟨#[47]⟩:ByteArray)).bind fun t182=>(some t182)
set_option maxHeartbeats 8000000 in
set_option maxRecDepth 100000 in
theorem uF.calls (A0:Option Addr) (c0:Nat) (l0:List ByteArray) (r:ByteArray) (w:World) (hr0:Kd.C Kd.string w A0 l0.length l0) (hc0:l0.length≤c0) (h:uF.f l0=some r):
  Calls Tryz.prog 189 #[.slice A0 l0.length c0] w fun e w'=>e= .returned (.string r)∧Below w.heap.size w w':=by
 have HR0:=Aside0.mk hr0
 have HC0:=Aside0.mk hc0
 clear hr0 hc0
 have HB:=Aside0.mk (Below.refl w.heap.size w)
 have H:((strings_Join.f l0 (⟨#[47]⟩:ByteArray)).bind fun t182=>(some t182))=some r:=h
 clear h
 replace H:=Option.bind_eq_some_iff.mp H
 obtain⟨t182,mD,H⟩:=H
 replace H:(some t182)=some r:=H
 have A2:=Aside0.mk mD
 clear mD
 obtain rfl:=Option.some.inj H
 go_enter Tryz.func189,Tryz.ntmps189
 go_wp2_with (first | ((with_reducible refine aQ (f:=216) rfl ?_);refine cZ (some 4) rfl rfl Tryz.func216 (by kernel_rfl) rfl #[.slice A0 l0.length c0, .string (⟨#[47]⟩:ByteArray)] rfl (by(try simp only [List.map_toArray,List.map_cons,List.map_nil]);first | done | rfl | (simp only [List.length_drop,List.length_take];rfl)) ?_;(with_reducible refine(strings_Join.calls _ _ l0 (⟨#[47]⟩:ByteArray) t182 _ ?dW ?JE A2.out).mono ?_);(case dW=>repeat (first | exact HR0.out | (with_reducible refine Kd.yS ?_ _) | (with_reducible refine Kd.vO ?_ _) | (with_reducible refine Kd.BX ?_)));(case JE=>exact HC0.out);rintro e w3 ⟨rfl,hb⟩;refine⟨_,rfl,?_⟩;have bf:=Aside0.mk (aW (by repeat (first | (with_reducible first | exact HB.out | apply aj | apply ah | apply ak) | exact HB.out)) hb);clear HB;have HB:=bf;clear bf;(try clear hb);(try clear hb2);(try clear hk);(try clear hi)))
 go_ret
 exact⟨by first | rfl | (simp [aJ,aK]<;>rfl) | (simp [*,aJ,aK]<;>rfl),by repeat (first | (with_reducible first | exact HB.out | apply aj | apply ah | apply ak) | exact HB.out)⟩
end Go.Proofs.YtcnfgfomholheaaGreatDoor.P
