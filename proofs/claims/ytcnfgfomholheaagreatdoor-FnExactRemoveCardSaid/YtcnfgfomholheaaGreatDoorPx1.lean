import Derived.Test.YtcnfgfomholheaaGreatDoorPx0
import Derived.Test.YtcnfgfomholheaaGreatDoorX6
namespace Go.Proofs.YtcnfgfomholheaaGreatDoor.P
open Go.RowKit Go.Proofs.YtcnfgfomholheaaGreatDoor.X Go.Proofs.YtcnfgfomholheaaGreatDoorW.PrintWords Go.Proofs.YtcnfgfomholheaaGreatDoorW.PrintLast Go.Proofs.YtcnfgfomholheaaGreatDoorW.PrintMore
attribute [local go_sem] mJ mM oM oN kW kX mO mP
set_option linter.unusedVariables false
set_option linter.unusedSimpArgs false
def jH.f (a0:ByteArray):Option (List ByteArray):=(strings_Split.f a0 (⟨#[47]⟩:ByteArray)).bind fun I8=>(some I8)
set_option maxHeartbeats 8000000 in
set_option maxRecDepth 100000 in
theorem jH.calls (a0:ByteArray) (r:List ByteArray) (w:World) (hT:Tabs w) (h:jH.f a0=some r):
  Calls Tryz.prog 101 #[.string a0] w fun e w'=>∃zO:Value,e= .returned (zO)∧Kd.R Kd.string 9 w' w.heap.size (fun _=>True) zO r∧Below w.heap.size w w':=by
 have HT:=Aside0.mk hT
 clear hT
 have HB:=Aside0.mk (Below.refl w.heap.size w)
 have H:((strings_Split.f a0 (⟨#[47]⟩:ByteArray)).bind fun I8=>(some I8))=some r:=h
 clear h
 replace H:=Option.bind_eq_some_iff.mp H
 obtain⟨I8,vN,H⟩:=H
 replace H:(some I8)=some r:=H
 have A2:=Aside0.mk vN
 clear vN
 obtain rfl:=Option.some.inj H
 go_enter Tryz.func101,Tryz.ntmps101
 go_wp2_with (first | ((with_reducible refine bT (f:=175) rfl ?_);refine fJ (some 4) rfl rfl Tryz.func175 (by kernel_rfl) rfl #[.string a0, .string (⟨#[47]⟩:ByteArray)] rfl (by(try simp only [List.map_toArray,List.map_cons,List.map_nil]);first | done | rfl | (simp only [List.length_drop,List.length_take];rfl)) ?_;(with_reducible refine(strings_Split.calls a0 (⟨#[47]⟩:ByteArray) I8 _ ?pR A2.out).mono ?_);(case pR=>exact Tabs.below HT.out (by repeat (first | (with_reducible first | exact HB.out | apply ak | apply aj | apply au) | exact HB.out)));rintro e w3 ⟨adV,rfl,ho0,hb⟩;refine⟨_,rfl,?_⟩;have eX:=Aside0.mk (Kd.wK ho0 (nJ (by repeat (first | (with_reducible first | exact HB.out | apply ak | apply aj | apply au) | exact HB.out))));have iK:=Aside0.mk (dF (by repeat (first | (with_reducible first | exact HB.out | apply ak | apply aj | apply au) | exact HB.out)) hb);clear HB;have ab4:=eX;have HB:=iK;clear eX iK;(try clear hb);(try clear hb2);(try clear hk);(try clear hi);(try clear ho0)))
 go_ret
 exact⟨_,by first | rfl | (simp [bf,bg]<;>rfl) | (simp [*,bf,bg]<;>rfl),by(with_reducible repeat (first | apply Kd.dK | apply Kd.dL | apply Kd.dW));exact ab4.out,by repeat (first | (with_reducible first | exact HB.out | apply ak | apply aj | apply au) | exact HB.out)⟩
end Go.Proofs.YtcnfgfomholheaaGreatDoor.P
