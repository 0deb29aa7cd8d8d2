/- A TIED CARD. Proved: the law FnExactKeptWanted answers true at every input that its row speaks of, and leaves its arguments as they were; no condition beside the row's own. Laid out by a program of this work, in the form of the kit's printed rows. -/
import Derived.Test.YtcnfgfomholheaaGreatDoorRows
import Derived.Test.YtcnfgfomholheaaGreatDoorCards
import Derived.Test.YtcnfgfomholheaaGreatDoorTie
import Derived.Test.YtcnfgfomholheaaGreatDoorLaid
import Derived.SevenTiedAt
import Derived.Test.YtcnfgfomholheaaGreatDoorZR
import Derived.Test.YtcnfgfomholheaaGreatDoorZq
import Derived.WalkKit
import Derived.ProofKit
import Derived.OpenShut
import Derived.ChangeOld
import Derived.Below
import Derived.Carry
import Derived.SizedLaws
namespace Go.Proofs.YtcnfgfomholheaaGreatDoor.fnExactKeptWanted
open Go.ChangeShapes Go.WideShapes Go.ChangeAt Go.RowKit
set_option linter.unusedVariables false
theorem own:ownKnob Tryz.prog.godebug=none:=by kernel_rfl
theorem laidOut:laidOutB Tryz.prog=true:=by kernel_rfl
theorem witness_row (os:Os) {H:Type} (enc:TypeId × Value→H):
  (OpenSpec.ofChange Rows.fnExactKeptWantedSpec).preRow enc Tryz.prog Tryz.f11 Rows.fnExactKeptWantedRow.domain false Rows.fnExactKeptWantedRow.laid ((Laid.world os).forCall (fun _ _=>0) ⟨#[],#[.agg #[.int .i64 0, .slice none 0 0, .slice none 0 0, .slice none 0 0, .slice none 0 0], .slice none 0 0, .slice none 0 0],[]⟩).memory #[.agg #[.int .i64 0, .slice none 0 0, .slice none 0 0, .slice none 0 0, .slice none 0 0], .slice none 0 0, .slice none 0 0]:=by
 obtain⟨x,hx⟩:=Option.isSome_iff_exists.1 (show(DataW.whole enc Tryz.prog ((Laid.world os).forCall (fun _ _=>0) ⟨#[],#[.agg #[.int .i64 0, .slice none 0 0, .slice none 0 0, .slice none 0 0, .slice none 0 0], .slice none 0 0, .slice none 0 0],[]⟩).memory Tryz.f11.params.toList (OpenSpec.ofChange Rows.fnExactKeptWantedSpec).vars false (#[.agg #[.int .i64 0, .slice none 0 0, .slice none 0 0, .slice none 0 0, .slice none 0 0], .slice none 0 0, .slice none 0 0]:Array Value).toList 8).isSome=true by kernel_rfl)
 exact OpenSpec.preRow_of_cond 8 hx rfl (fun k hk=>by cases hk) (by kernel_rfl) (Laid.laid_met os _)
set_option maxRecDepth 100000 in
theorem lifted (os:Os) (started:os.Started) (H:Type) (enc:TypeId × Value→H) (F:Stop.Interp):
  ReturnsInHanded {} Tryz.checked os 11 .any ((OpenSpec.ofChange Rows.fnExactKeptWantedSpec).preRow enc Tryz.prog Tryz.f11 Rows.fnExactKeptWantedRow.domain false Rows.fnExactKeptWantedRow.laid) (((OpenSpec.ofChange Rows.fnExactKeptWantedSpec).at F).post enc Tryz.prog Tryz.f11 false true false false):=by
 refine returnsInHanded_of_row (C:=Tryz.checked) (s:=OpenSpec.ofChange Rows.fnExactKeptWantedSpec) own started (by kernel_rfl) Tryz.func11
  (witness_row_atRef (enc:=enc) (C:=Tryz.checked) false (Laid.world os) #[.agg #[.int .i64 0, .slice none 0 0, .slice none 0 0, .slice none 0 0, .slice none 0 0], .slice none 0 0, .slice none 0 0] rfl (by kernel_rfl) (by kernel_rfl) (by kernel_rfl) (witness_row os enc)) ?_
 intro W base args ds gs before hval0 hW _ _ hsz0 hL hsh _
 have hT:X.Tabs W:=Laid.tabs hL hsh
 have hsz:(DataW.weightsEach Tryz.prog (Tryz.f11.params.toList++Rows.fnExactKeptWantedSpec.plain.varTypes Tryz.prog) (ds++gs)).all (·≤reachBytes)=true:=hsz0
 have hval:∀(j:Nat) t v,Tryz.f11.params[j]? =some t→args[j]? =some v→Value.okWide Tryz.prog W .any base t v:=hval0
 have hW':=hW
 obtain⟨p,q,hA0,hV,rfl,hfz,hnd⟩:=hW
 have hA:DataW.TrodAll enc Tryz.prog W 0 (fun _=>true) true Tryz.f11.params.toList args.toList ds p:=hA0
 rw [Tryz.params11] at hA hval hsz
 obtain⟨v0,vs0,d0,ds0,p0,q0,hargs0,rfl,rfl,h0,r0⟩:=trodAll_cons hA
 obtain⟨v1,vs1,d1,ds1,p1,q1,hargs1,rfl,rfl,h1,r1⟩:=trodAll_cons r0
 obtain⟨v2,vs2,d2,ds2,p2,q2,afj,rfl,rfl,h2,r2⟩:=trodAll_cons r1
 obtain⟨rfl,rfl,rfl⟩:=trodAll_nil r2
 obtain rfl:args=#[v0,v1,v2]:=by cases args;simp_all
 obtain⟨rfl,rfl⟩:=trodVars_none hV
 obtain⟨cs0,rfl,_⟩:=okWide_struct Tryz.underlying52 (hval 0 52 v0 rfl rfl)
 have k0:=h0
 have lt0:∀x∈p0,x.block<W.heap.size:=by obtain⟨m,hm⟩:=k0;exact DataW.trod_lt m _ _ _ hm
 obtain⟨a0,c0,g0⟩:=Z.JR (j:=0) (t:=52) hsz rfl rfl h0 Q.ad4
 obtain⟨sa1,sl1,sc1,rfl⟩:=okWide_slice Tryz.underlying74 (hval 1 74 v1 rfl rfl)
 have k1:=h1
 have lt1:∀x∈p1,x.block<W.heap.size:=by obtain⟨m,hm⟩:=k1;exact DataW.trod_lt m _ _ _ hm
 obtain⟨a1,c1,g1⟩:=Z.JR (j:=1) (t:=74) hsz rfl rfl h1 Q.ad5
 obtain⟨w1,z1,e1,c1,_⟩:=c1
 have e1b:[Value.slice sa1 sl1 sc1]=w1::z1:=e1
 obtain⟨rfl,_⟩:=List.cons.inj e1b
 obtain⟨sa2,sl2,sc2,rfl⟩:=okWide_slice Tryz.underlying76 (hval 2 76 v2 rfl rfl)
 have k2:=h2
 have lt2:∀x∈p2,x.block<W.heap.size:=by obtain⟨m,hm⟩:=k2;exact DataW.trod_lt m _ _ _ hm
 obtain⟨a2,c2,g2⟩:=Z.JR (j:=2) (t:=76) hsz rfl rfl h2 Q.ad6
 obtain⟨w2,z2,e2,c2,_⟩:=c2
 have e2b:[Value.slice sa2 sl2 sc2]=w2::z2:=e2
 obtain⟨rfl,_⟩:=List.cons.inj e2b
 clear hA0 hval0 hsz0 hsz
 refine(Z.VU (Q.Nb a0 a1 a2 g0 g1.1 g1.2 g2.1 g2.2) hT (vs:=[.agg cs0, .slice sa1 sl1 sc1, .slice sa2 sl2 sc2]) ⟨_,_,rfl,⟨_,rfl,c0⟩,⟨_,_,rfl,c1,⟨_,_,rfl,c2,rfl⟩⟩⟩).mono fun e W' ⟨he,bel⟩=>?_
 subst he
 exact⟨_,rfl,_,_,_,[],_,[],hW',trodAll_mk1 (shut_bool Tryz.underlying4 _),(trodAll_cons_mk (Below.trod laidOut (by kernel_rfl) (of_decide_eq_true (by kernel_rfl)) k0 bel lt0) (trodAll_cons_mk (Below.trod laidOut (by kernel_rfl) (of_decide_eq_true (by kernel_rfl)) k1 bel lt1) (trodAll_cons_mk (Below.trod laidOut (by kernel_rfl) (of_decide_eq_true (by kernel_rfl)) k2 bel lt2) trodAll_mk0))),rfl,bel.frame _,fun h=>by cases h⟩
end Go.Proofs.YtcnfgfomholheaaGreatDoor.fnExactKeptWanted
