import Derived.Test.YtcnfgfomholheaaGreatDoorPx0
import Derived.Test.YtcnfgfomholheaaGreatDoorX6
namespace Go.Proofs.YtcnfgfomholheaaGreatDoor.P
open Go.RowKit Go.Proofs.YtcnfgfomholheaaGreatDoor.X Go.Proofs.YtcnfgfomholheaaGreatDoorW.PrintWords Go.Proofs.YtcnfgfomholheaaGreatDoorW.PrintLast Go.Proofs.YtcnfgfomholheaaGreatDoorW.PrintMore
attribute [local go_sem] mP mQ oZ o7 lq lu mV mW
set_option linter.unusedVariables false
set_option linter.unusedSimpArgs false
def jH.f (a0:ByteArray):Option (List ByteArray):=(strings_Split.f a0 (⟨#[47]⟩:ByteArray)).bind fun Jg=>(some Jg)
set_option maxHeartbeats 8000000 in
set_option maxRecDepth 100000 in
theorem jH.calls (a0:ByteArray) (r:List ByteArray) (w:World) (hT:Tabs w) (h:jH.f a0=some r):
  Calls Tryz.prog 101 #[.string a0] w fun e w'=>∃zX:Value,e= .returned (zX)∧Kd.R Kd.string 9 w' w.heap.size (fun _=>True) zX r∧Below w.heap.size w w':=by
 have HT:=Aside0.mk hT
 clear hT
 have HB:=Aside0.mk (Below.refl w.heap.size w)
 have H:((strings_Split.f a0 (⟨#[47]⟩:ByteArray)).bind fun Jg=>(some Jg))=some r:=h
 clear h
 replace H:=Option.bind_eq_some_iff.mp H
 obtain⟨Jg,vU,H⟩:=H
 replace H:(some Jg)=some r:=H
 have A2:=Aside0.mk vU
 clear vU
 obtain rfl:=Option.some.inj H
 go_enter Tryz.func101,Tryz.ntmps101
 go_wp2_with (first | ((with_reducible refine bU (f:=175) rfl ?_);refine fK (some 4) rfl rfl Tryz.func175 (by kernel_rfl) rfl #[.string a0, .string (⟨#[47]⟩:ByteArray)] rfl (by(try simp only [List.map_toArray,List.map_cons,List.map_nil]);first | done | rfl | (simp only [List.length_drop,List.length_take];rfl)) ?_;(with_reducible refine(strings_Split.calls a0 (⟨#[47]⟩:ByteArray) Jg _ ?ql A2.out).mono ?_);(case ql=>exact Tabs.below HT.out (by repeat (first | (with_reducible first | exact HB.out | apply ak | apply aj | apply au) | exact HB.out)));rintro e w3 ⟨aex,rfl,ho0,hb⟩;refine⟨_,rfl,?_⟩;have eP:=Aside0.mk (Kd.wS ho0 (nN (by repeat (first | (with_reducible first | exact HB.out | apply ak | apply aj | apply au) | exact HB.out))));have iO:=Aside0.mk (dG (by repeat (first | (with_reducible first | exact HB.out | apply ak | apply aj | apply au) | exact HB.out)) hb);clear HB;have acM:=eP;have HB:=iO;clear eP iO;(try clear hb);(try clear hb2);(try clear hk);(try clear hi);(try clear ho0)))
 go_ret
 exact⟨_,by first | rfl | (simp [bC,bD]<;>rfl) | (simp [*,bC,bD]<;>rfl),by(with_reducible repeat (first | apply Kd.dK | apply Kd.dL | apply Kd.dX));exact acM.out,by repeat (first | (with_reducible first | exact HB.out | apply ak | apply aj | apply au) | exact HB.out)⟩
end Go.Proofs.YtcnfgfomholheaaGreatDoor.P
