/- Several texts of this claim in one (a claim holds at most 60 files). -/
import Derived.Test.YtcnfgfomholheaaGreatDoorZT
import Derived.Test.YtcnfgfomholheaaGreatDoorZc
import Derived.Test.YtcnfgfomholheaaGreatDoorT5
import Derived.Test.YtcnfgfomholheaaGreatDoorT7
import Derived.Test.YtcnfgfomholheaaGreatDoorPx8
section
namespace Go.Proofs.YtcnfgfomholheaaGreatDoor.Q
open Go.RowKit Go.Proofs.YtcnfgfomholheaaGreatDoor.Z
set_option linter.unusedVariables false
set_option linter.unusedSimpArgs false
set_option maxRecDepth 100000
set_option maxHeartbeats 4000000
abbrev i64 (n:Int):Slot T:= .c (.sc (.int .i64 n))
abbrev im (e:Nat) (l:List (T.Tb e)):Slot T:= .c (.im none e l)
abbrev eN:Nat:=31
abbrev eS:Nat:=44
abbrev eK:Nat:=121
abbrev eE:Nat:=96
abbrev qK:Nat:=26
abbrev AP:Nat:=41
abbrev AQ:Nat:=186
abbrev SN:=Am
abbrev SS:=ES
abbrev SK:=zT
abbrev SE:=IE
abbrev LN:=uV
abbrev LS:=xZ
abbrev LK:=sV
theorem WU (a b:List ByteArray) (ha:a.length≤140737488351232):aG T Tryz.prog 47 [.c (.sl 9 a), .c (.sl 9 b)] (.c (.sc (.bool (same a b)))):=by
 refine aH hT Tryz.func47 (by kernel_rfl) rfl rfl (fun A=>?_)
 conv=>whnf
 refine Split.mk (fun c=>?_) (fun c=>?_)
 ·conv=>whnf
  exact aA.mk ⟨rfl,rfl⟩ ⟨rfl,rfl⟩ ⟨bv (iH (fun e=>FY c (congrArg List.length e))),trivial⟩
 ·have hl:a.length=b.length:=FX c
  conv=>whnf
  refine dR.mk {k:Nat // k≤a.length∧a.take k=b.take k} (fun p=>(0,[(5,i64 p.1),(0,im 9 a),(1,im 9 b)],[])) (fun p=>a.length - p.1) ⟨0,Nat.zero_le _,rfl⟩ (aC [] rfl rfl rfl ⟨⟨rfl,rfl⟩,⟨rfl,rfl⟩,⟨rfl,rfl⟩,trivial⟩ trivial) ?_
  rintro⟨k,hk,ht⟩
  conv=>whnf
  refine Split.mk (fun c=>?_) (fun c=>?_)
  ·have hk2:k<a.length:=iJ c
   conv=>whnf
   refine Need.mk (idx hk2) ?_
   conv=>whnf
   refine Need.mk (idx (hl▸hk2)) ?_
   conv=>whnf
   refine bC.mk ⟨by kernel_rfl,by kernel_rfl⟩ ?_
   conv=>whnf
   refine Split.mk (fun c=>?_) (fun c=>?_)
   ·conv=>whnf
    exact aA.mk ⟨rfl,rfl⟩ ⟨rfl,rfl⟩ ⟨bv (iH (fun e=>JI c (congrArg (fun l=>l.getD k (T.df 9)) e))),trivial⟩
   ·conv=>whnf
    exact bM.mk ⟨⟨k+1,hk2,sJ (d:=(T.df 9)) hk2 (hl▸hk2) ht (Yr c)⟩,Nat.sub_lt_sub_left hk2 (Nat.lt_succ_self k),aC [] rfl rfl rfl ⟨⟨rfl,congrArg i64 (dZ hk2 ha)⟩,⟨rfl,rfl⟩,⟨rfl,rfl⟩,trivial⟩ trivial⟩
  ·have hk2:k=a.length:=Nat.le_antisymm hk (iK c)
   conv=>whnf
   subst hk2
   exact aA.mk ⟨rfl,rfl⟩ ⟨rfl,rfl⟩ ⟨bv (qm (vS hl ht)),trivial⟩
theorem Rn (a b:List Int) (ha:a.length≤140737488351232):aG T Tryz.prog 52 [.c (.sl 5 a), .c (.sl 5 b)] (.c (.sc (.bool (same a b)))):=by
 refine aH hT Tryz.func52 (by kernel_rfl) rfl rfl (fun A=>?_)
 conv=>whnf
 refine Split.mk (fun c=>?_) (fun c=>?_)
 ·conv=>whnf
  exact aA.mk ⟨rfl,rfl⟩ ⟨rfl,rfl⟩ ⟨bv (iH (fun e=>FY c (congrArg List.length e))),trivial⟩
 ·have hl:a.length=b.length:=FX c
  conv=>whnf
  refine dR.mk {k:Nat // k≤a.length∧a.take k=b.take k} (fun p=>(0,[(5,i64 p.1),(0,im 5 a),(1,im 5 b)],[])) (fun p=>a.length - p.1) ⟨0,Nat.zero_le _,rfl⟩ (aC [] rfl rfl rfl ⟨⟨rfl,rfl⟩,⟨rfl,rfl⟩,⟨rfl,rfl⟩,trivial⟩ trivial) ?_
  rintro⟨k,hk,ht⟩
  conv=>whnf
  refine Split.mk (fun c=>?_) (fun c=>?_)
  ·have hk2:k<a.length:=iJ c
   conv=>whnf
   refine Need.mk (idx hk2) ?_
   conv=>whnf
   refine Need.mk (idx (hl▸hk2)) ?_
   conv=>whnf
   refine bC.mk ⟨by kernel_rfl,by kernel_rfl⟩ ?_
   conv=>whnf
   refine Split.mk (fun c=>?_) (fun c=>?_)
   ·conv=>whnf
    exact aA.mk ⟨rfl,rfl⟩ ⟨rfl,rfl⟩ ⟨bv (iH (fun e=>uY c (congrArg (fun l=>l.getD k (T.df 5)) e))),trivial⟩
   ·conv=>whnf
    exact bM.mk ⟨⟨k+1,hk2,sJ (d:=(T.df 5)) hk2 (hl▸hk2) ht (NP c)⟩,Nat.sub_lt_sub_left hk2 (Nat.lt_succ_self k),aC [] rfl rfl rfl ⟨⟨rfl,congrArg i64 (dZ hk2 ha)⟩,⟨rfl,rfl⟩,⟨rfl,rfl⟩,trivial⟩ trivial⟩
  ·have hk2:k=a.length:=Nat.le_antisymm hk (iK c)
   conv=>whnf
   subst hk2
   exact aA.mk ⟨rfl,rfl⟩ ⟨rfl,rfl⟩ ⟨bv (qm (vS hl ht)),trivial⟩
theorem YN {a b:SS} (h0:a.f0=b.f0) (h1:a.f1=b.f1) (h2:a.f2=b.f2):a=b:=by cases a;cases b;simp_all
theorem ada (a b:SS):aG T Tryz.prog 117 [.ag (T.cells eS a), .ag (T.cells eS b)] (.c (.sc (.bool (same a b)))):=by
 refine aH hT Tryz.func117 (by kernel_rfl) rfl rfl (fun A=>?_)
 conv=>whnf
 refine Split.mk (fun c=>?_) (fun c=>?_)
 ·conv=>whnf
  exact aA.mk ⟨rfl,rfl⟩ ⟨rfl,rfl⟩ ⟨bv (iH (fun e=>JI c (congrArg (fun z:SS=>z.f0) e))),trivial⟩
 have c0:a.f0=b.f0:=Yr c
 clear c
 conv=>whnf
 refine Split.mk (fun c=>?_) (fun c=>?_)
 ·conv=>whnf
  exact aA.mk ⟨rfl,rfl⟩ ⟨rfl,rfl⟩ ⟨bv (iH (fun e=>uY c (congrArg (fun z:SS=>z.f1) e))),trivial⟩
 have c1:a.f1=b.f1:=NP c
 clear c
 conv=>whnf
 refine Split.mk (fun c=>?_) (fun c=>?_)
 ·conv=>whnf
  exact aA.mk ⟨rfl,rfl⟩ ⟨rfl,rfl⟩ ⟨bv (iH (fun e=>uY c (congrArg (fun z:SS=>z.f2) e))),trivial⟩
 have c2:a.f2=b.f2:=NP c
 clear c
 conv=>whnf
 exact aA.mk ⟨rfl,rfl⟩ ⟨rfl,rfl⟩ ⟨bv (qm (YN c0 c1 c2)),trivial⟩
theorem ab5 (a b:List SS) (ha:a.length≤140737488351232):aG T Tryz.prog 33 [.c (.sl eS a), .c (.sl eS b)] (.c (.sc (.bool (same a b)))):=by
 refine aH hT Tryz.func33 (by kernel_rfl) rfl rfl (fun A=>?_)
 conv=>whnf
 refine Split.mk (fun c=>?_) (fun c=>?_)
 ·conv=>whnf
  exact aA.mk ⟨rfl,rfl⟩ ⟨rfl,rfl⟩ ⟨bv (iH (fun e=>FY c (congrArg List.length e))),trivial⟩
 ·have hl:a.length=b.length:=FX c
  conv=>whnf
  refine dR.mk {k:Nat // k≤a.length∧a.take k=b.take k} (fun p=>(0,[(5,i64 p.1),(0,im eS a),(1,im eS b)],[])) (fun p=>a.length - p.1) ⟨0,Nat.zero_le _,rfl⟩ (aC [] rfl rfl rfl ⟨⟨rfl,rfl⟩,⟨rfl,rfl⟩,⟨rfl,rfl⟩,trivial⟩ trivial) ?_
  rintro⟨k,hk,ht⟩
  conv=>whnf
  refine Split.mk (fun c=>?_) (fun c=>?_)
  ·have hk2:k<a.length:=iJ c
   conv=>whnf
   refine Need.mk (idx hk2) ?_
   conv=>whnf
   refine Need.mk (idx (hl▸hk2)) ?_
   conv=>whnf
   refine ay.mk _ (ada _ _) ?_
   conv=>whnf
   refine bC.mk ⟨by kernel_rfl,by kernel_rfl⟩ ?_
   conv=>whnf
   refine Split.mk (fun c=>?_) (fun c=>?_)
   ·conv=>whnf
    exact aA.mk ⟨rfl,rfl⟩ ⟨rfl,rfl⟩ ⟨bv (iH (fun e=>iL (bI c) (congrArg (fun l=>l.getD k (T.df eS)) e))),trivial⟩
   ·conv=>whnf
    exact bM.mk ⟨⟨k+1,hk2,sJ (d:=(T.df eS)) hk2 (hl▸hk2) ht (of_same (bQ c))⟩,Nat.sub_lt_sub_left hk2 (Nat.lt_succ_self k),aC [] rfl rfl rfl ⟨⟨rfl,congrArg i64 (dZ hk2 ha)⟩,⟨rfl,rfl⟩,⟨rfl,rfl⟩,trivial⟩ trivial⟩
  ·have hk2:k=a.length:=Nat.le_antisymm hk (iK c)
   conv=>whnf
   subst hk2
   exact aA.mk ⟨rfl,rfl⟩ ⟨rfl,rfl⟩ ⟨bv (qm (vS hl ht)),trivial⟩
theorem WV {a b:SK} (h0:a.f0=b.f0) (h1:a.f1=b.f1) (h2:a.f2=b.f2):a=b:=by cases a;cases b;simp_all
theorem ab6 (a b:SK) (ha:a.f1.length≤140737488351232):aG T Tryz.prog 132 [.ag (T.cells eK a), .ag (T.cells eK b)] (.c (.sc (.bool (same a b)))):=by
 refine aH hT Tryz.func132 (by kernel_rfl) rfl rfl (fun A=>?_)
 conv=>whnf
 refine Split.mk (fun c=>?_) (fun c=>?_)
 ·conv=>whnf
  exact aA.mk ⟨rfl,rfl⟩ ⟨rfl,rfl⟩ ⟨bv (iH (fun e=>JI c (congrArg (fun z:SK=>z.f0) e))),trivial⟩
 have c0:a.f0=b.f0:=Yr c
 clear c
 conv=>whnf
 refine ay.mk _ (Rn a.f1 b.f1 ha) ?_
 conv=>whnf
 refine Split.mk (fun c=>?_) (fun c=>?_)
 ·conv=>whnf
  exact aA.mk ⟨rfl,rfl⟩ ⟨rfl,rfl⟩ ⟨bv (iH (fun e=>iL (bI c) (congrArg (fun z:SK=>z.f1) e))),trivial⟩
 have c1:a.f1=b.f1:=of_same (bQ c)
 clear c
 conv=>whnf
 refine Split.mk (fun c=>?_) (fun c=>?_)
 ·conv=>whnf
  exact aA.mk ⟨rfl,rfl⟩ ⟨rfl,rfl⟩ ⟨bv (iH (fun e=>uY c (congrArg (fun z:SK=>z.f2) e))),trivial⟩
 have c2:a.f2=b.f2:=NP c
 clear c
 conv=>whnf
 exact aA.mk ⟨rfl,rfl⟩ ⟨rfl,rfl⟩ ⟨bv (qm (WV c0 c1 c2)),trivial⟩
theorem aan (a b:List SK) (ha:a.length≤140737488351232) (hb:∀y∈a,y.f1.length≤140737488351232):aG T Tryz.prog 66 [.c (.sl eK a), .c (.sl eK b)] (.c (.sc (.bool (same a b)))):=by
 refine aH hT Tryz.func66 (by kernel_rfl) rfl rfl (fun A=>?_)
 conv=>whnf
 refine Split.mk (fun c=>?_) (fun c=>?_)
 ·conv=>whnf
  exact aA.mk ⟨rfl,rfl⟩ ⟨rfl,rfl⟩ ⟨bv (iH (fun e=>FY c (congrArg List.length e))),trivial⟩
 ·have hl:a.length=b.length:=FX c
  conv=>whnf
  refine dR.mk {k:Nat // k≤a.length∧a.take k=b.take k} (fun p=>(0,[(5,i64 p.1),(0,im eK a),(1,im eK b)],[])) (fun p=>a.length - p.1) ⟨0,Nat.zero_le _,rfl⟩ (aC [] rfl rfl rfl ⟨⟨rfl,rfl⟩,⟨rfl,rfl⟩,⟨rfl,rfl⟩,trivial⟩ trivial) ?_
  rintro⟨k,hk,ht⟩
  conv=>whnf
  refine Split.mk (fun c=>?_) (fun c=>?_)
  ·have hk2:k<a.length:=iJ c
   conv=>whnf
   refine Need.mk (idx hk2) ?_
   conv=>whnf
   refine Need.mk (idx (hl▸hk2)) ?_
   conv=>whnf
   refine ay.mk _ (ab6 _ _ (hb _ (getD_mem hk2))) ?_
   conv=>whnf
   refine bC.mk ⟨by kernel_rfl,by kernel_rfl⟩ ?_
   conv=>whnf
   refine Split.mk (fun c=>?_) (fun c=>?_)
   ·conv=>whnf
    exact aA.mk ⟨rfl,rfl⟩ ⟨rfl,rfl⟩ ⟨bv (iH (fun e=>iL (bI c) (congrArg (fun l=>l.getD k (T.df eK)) e))),trivial⟩
   ·conv=>whnf
    exact bM.mk ⟨⟨k+1,hk2,sJ (d:=(T.df eK)) hk2 (hl▸hk2) ht (of_same (bQ c))⟩,Nat.sub_lt_sub_left hk2 (Nat.lt_succ_self k),aC [] rfl rfl rfl ⟨⟨rfl,congrArg i64 (dZ hk2 ha)⟩,⟨rfl,rfl⟩,⟨rfl,rfl⟩,trivial⟩ trivial⟩
  ·have hk2:k=a.length:=Nat.le_antisymm hk (iK c)
   conv=>whnf
   subst hk2
   exact aA.mk ⟨rfl,rfl⟩ ⟨rfl,rfl⟩ ⟨bv (qm (vS hl ht)),trivial⟩
inductive Bd:SN→Prop
 | mk (n:SN) (h0:n.f0.length≤2097152) (z0:∀x∈n.f0,x.size≤1048576) (h1:n.f1.length≤2097152) (h2:n.f2.length≤2097152) (z2:∀x∈n.f2,x.f0.size≤1048576) (hk:∀k∈n.f1,Bd k):Bd n
theorem Bd.l0 {n:SN} (h:Bd n):n.f0.length≤2097152:=by cases h;assumption
theorem Bd.z0 {n:SN} (h:Bd n):∀x∈n.f0,x.size≤1048576:=by cases h;assumption
theorem Bd.l1 {n:SN} (h:Bd n):n.f1.length≤2097152:=by cases h;assumption
theorem Bd.l2 {n:SN} (h:Bd n):n.f2.length≤2097152:=by cases h;assumption
theorem Bd.z2 {n:SN} (h:Bd n):∀x∈n.f2,x.f0.size≤1048576:=by cases h;assumption
theorem Bd.kid {n:SN} (h:Bd n):∀k∈n.f1,Bd k:=by cases h;assumption
theorem lY {n k:SN} (h:k∈n.f1):SizeOf.sizeOf k<SizeOf.sizeOf n:=by
 cases n with
 | mk a b c=>
   have h2:=List.sizeOf_lt_of_mem h
   simp only [Am.mk.sizeOf_spec] at h2⊢
   omega
theorem yg {n k:LN} (h:k∈n.f1):SizeOf.sizeOf k<SizeOf.sizeOf n:=by
 cases n with
 | mk a b c=>
   have h2:=List.sizeOf_lt_of_mem h
   simp only [uV.mk.sizeOf_spec] at h2⊢
   omega
theorem UL (a b:List SN) (ha:a.length≤140737488351232) (ih:∀k∈a,∀b:SN,aG T Tryz.prog 22 [.ag (T.cells eN k), .ag (T.cells eN b)] (.c (.sc (.bool (same k b))))):aG T Tryz.prog 102 [.c (.sl eN a), .c (.sl eN b)] (.c (.sc (.bool (same a b)))):=by
 refine aH hT Tryz.func102 (by kernel_rfl) rfl rfl (fun A=>?_)
 conv=>whnf
 refine Split.mk (fun c=>?_) (fun c=>?_)
 ·conv=>whnf
  exact aA.mk ⟨rfl,rfl⟩ ⟨rfl,rfl⟩ ⟨bv (iH (fun e=>FY c (congrArg List.length e))),trivial⟩
 ·have hl:a.length=b.length:=FX c
  conv=>whnf
  refine dR.mk {k:Nat // k≤a.length∧a.take k=b.take k} (fun p=>(0,[(5,i64 p.1),(0,im eN a),(1,im eN b)],[])) (fun p=>a.length - p.1) ⟨0,Nat.zero_le _,rfl⟩ (aC [] rfl rfl rfl ⟨⟨rfl,rfl⟩,⟨rfl,rfl⟩,⟨rfl,rfl⟩,trivial⟩ trivial) ?_
  rintro⟨k,hk,ht⟩
  conv=>whnf
  refine Split.mk (fun c=>?_) (fun c=>?_)
  ·have hk2:k<a.length:=iJ c
   conv=>whnf
   refine Need.mk (idx hk2) ?_
   conv=>whnf
   refine Need.mk (idx (hl▸hk2)) ?_
   conv=>whnf
   refine ay.mk _ (ih _ (getD_mem hk2) _) ?_
   conv=>whnf
   refine bC.mk ⟨by kernel_rfl,by kernel_rfl⟩ ?_
   conv=>whnf
   refine Split.mk (fun c=>?_) (fun c=>?_)
   ·conv=>whnf
    exact aA.mk ⟨rfl,rfl⟩ ⟨rfl,rfl⟩ ⟨bv (iH (fun e=>iL (bI c) (congrArg (fun l=>l.getD k (T.df eN)) e))),trivial⟩
   ·conv=>whnf
    exact bM.mk ⟨⟨k+1,hk2,sJ (d:=(T.df eN)) hk2 (hl▸hk2) ht (of_same (bQ c))⟩,Nat.sub_lt_sub_left hk2 (Nat.lt_succ_self k),aC [] rfl rfl rfl ⟨⟨rfl,congrArg i64 (dZ hk2 ha)⟩,⟨rfl,rfl⟩,⟨rfl,rfl⟩,trivial⟩ trivial⟩
  ·have hk2:k=a.length:=Nat.le_antisymm hk (iK c)
   conv=>whnf
   subst hk2
   exact aA.mk ⟨rfl,rfl⟩ ⟨rfl,rfl⟩ ⟨bv (qm (vS hl ht)),trivial⟩
theorem Px {a b:SN} (h0:a.f0=b.f0) (h1:a.f1=b.f1) (h2:a.f2=b.f2):a=b:=by cases a;cases b;simp_all
theorem WW (a b:SN) (ha:Bd a) (ih:∀b:List SN,aG T Tryz.prog 102 [.c (.sl eN a.f1), .c (.sl eN b)] (.c (.sc (.bool (same a.f1 b))))):aG T Tryz.prog 22 [.ag (T.cells eN a), .ag (T.cells eN b)] (.c (.sc (.bool (same a b)))):=by
 refine aH hT Tryz.func22 (by kernel_rfl) rfl rfl (fun A=>?_)
 conv=>whnf
 refine ay.mk _ (WU a.f0 b.f0 (Nat.le_trans ha.l0 (by decide))) ?_
 conv=>whnf
 refine Split.mk (fun c=>?_) (fun c=>?_)
 ·conv=>whnf
  exact aA.mk ⟨rfl,rfl⟩ ⟨rfl,rfl⟩ ⟨bv (iH (fun e=>iL (bI c) (congrArg (fun z:SN=>z.f0) e))),trivial⟩
 have c0:a.f0=b.f0:=of_same (bQ c)
 clear c
 conv=>whnf
 refine ay.mk _ (ih b.f1) ?_
 conv=>whnf
 refine Split.mk (fun c=>?_) (fun c=>?_)
 ·conv=>whnf
  exact aA.mk ⟨rfl,rfl⟩ ⟨rfl,rfl⟩ ⟨bv (iH (fun e=>iL (bI c) (congrArg (fun z:SN=>z.f1) e))),trivial⟩
 have c1:a.f1=b.f1:=of_same (bQ c)
 clear c
 conv=>whnf
 refine ay.mk _ (ab5 a.f2 b.f2 (Nat.le_trans ha.l2 (by decide))) ?_
 conv=>whnf
 refine Split.mk (fun c=>?_) (fun c=>?_)
 ·conv=>whnf
  exact aA.mk ⟨rfl,rfl⟩ ⟨rfl,rfl⟩ ⟨bv (iH (fun e=>iL (bI c) (congrArg (fun z:SN=>z.f2) e))),trivial⟩
 have c2:a.f2=b.f2:=of_same (bQ c)
 clear c
 conv=>whnf
 exact aA.mk ⟨rfl,rfl⟩ ⟨rfl,rfl⟩ ⟨bv (qm (Px c0 c1 c2)),trivial⟩
theorem VE:∀(a:SN),Bd a→∀b:SN,aG T Tryz.prog 22 [.ag (T.cells eN a), .ag (T.cells eN b)] (.c (.sc (.bool (same a b)))):=fun a ha b=>
 WW a b ha (fun c=>UL a.f1 c (Nat.le_trans ha.l1 (by decide)) (fun k hk=>VE k (ha.kid k hk)))
termination_by a=>SizeOf.sizeOf a
decreasing_by exact lY hk
theorem Rl (a:List Int) (ha:a.length≤1048576):aG T Tryz.prog 50 [.c (.sl 5 a)] (.c (.ow 5 a)):=by
 refine aH hT Tryz.func50 (by kernel_rfl) rfl rfl (fun A=>?_)
 conv=>whnf
 refine Need.mk (Wh (by decide) ha) ?_
 conv=>whnf
 refine dR.mk {k:Nat // k≤a.length} (fun p=>(2,[(4,i64 p.1),(3, .c (.hd 0)),(0,im 5 a)],[(0, .row 1 5 (fill (fun x=>x) (0:Int) a p.1))])) (fun p=>a.length - p.1) ⟨0,Nat.zero_le _⟩ (aC [(0,0)] rfl rfl rfl ⟨⟨rfl,rfl⟩,⟨rfl,rfl⟩,⟨rfl,rfl⟩,trivial⟩ ⟨fO sK.symm,trivial⟩) ?_
 rintro⟨k,hk⟩
 conv=>whnf
 refine Split.mk (fun c=>?_) (fun c=>?_)
 ·have hk2:k<a.length:=iJ c
  conv=>whnf
  refine Need.mk (idx hk2) ?_
  conv=>whnf
  refine Need.mk (idx (Nat.lt_of_lt_of_eq hk2 (vU hk).symm)) ?_
  conv=>whnf
  exact bM.mk ⟨⟨k+1,hk2⟩,Nat.sub_lt_sub_left hk2 (Nat.lt_succ_self k),aC [(0,0)] rfl rfl rfl ⟨⟨rfl,congrArg i64 (dZ hk2 (Nat.le_trans ha (by decide)))⟩,⟨rfl,rfl⟩,⟨rfl,rfl⟩,trivial⟩ ⟨fO (vV hk2),trivial⟩⟩
 ·have hk2:k=a.length:=Nat.le_antisymm hk (iK c)
  conv=>whnf
  subst hk2
  exact aA.mk ⟨rfl,rfl⟩ ⟨rfl,rfl⟩ ⟨fO (vT.trans Zt),trivial⟩
theorem WX (a:List ByteArray) (ha:a.length≤1048576):aG T Tryz.prog 45 [.c (.sl 9 a)] (.c (.ow 9 a)):=by
 refine aH hT Tryz.func45 (by kernel_rfl) rfl rfl (fun A=>?_)
 conv=>whnf
 refine Need.mk (Wh (by decide) ha) ?_
 conv=>whnf
 refine dR.mk {k:Nat // k≤a.length} (fun p=>(2,[(4,i64 p.1),(3, .c (.hd 0)),(0,im 9 a)],[(0, .row 1 9 (fill (fun x=>x) (⟨#[]⟩:ByteArray) a p.1))])) (fun p=>a.length - p.1) ⟨0,Nat.zero_le _⟩ (aC [(0,0)] rfl rfl rfl ⟨⟨rfl,rfl⟩,⟨rfl,rfl⟩,⟨rfl,rfl⟩,trivial⟩ ⟨fO sK.symm,trivial⟩) ?_
 rintro⟨k,hk⟩
 conv=>whnf
 refine Split.mk (fun c=>?_) (fun c=>?_)
 ·have hk2:k<a.length:=iJ c
  conv=>whnf
  refine Need.mk (idx hk2) ?_
  conv=>whnf
  refine Need.mk (idx (Nat.lt_of_lt_of_eq hk2 (vU hk).symm)) ?_
  conv=>whnf
  exact bM.mk ⟨⟨k+1,hk2⟩,Nat.sub_lt_sub_left hk2 (Nat.lt_succ_self k),aC [(0,0)] rfl rfl rfl ⟨⟨rfl,congrArg i64 (dZ hk2 (Nat.le_trans ha (by decide)))⟩,⟨rfl,rfl⟩,⟨rfl,rfl⟩,trivial⟩ ⟨fO (vV hk2),trivial⟩⟩
 ·have hk2:k=a.length:=Nat.le_antisymm hk (iK c)
  conv=>whnf
  subst hk2
  exact aA.mk ⟨rfl,rfl⟩ ⟨rfl,rfl⟩ ⟨fO (vT.trans Zt),trivial⟩
def tS (x:LS):SS:=⟨x.f0,x.f1,x.f2⟩
def tK (x:LK):SK:=⟨x.f0,x.f1,x.f2⟩
theorem toSub (a:LS):aG T Tryz.prog 29 [.ag (T.cells AP a)] (.ag [.sc (.string a.f0), .sc (.int .i64 a.f1), .sc (.int .i64 a.f2)]):=by
 refine aH hT Tryz.func29 (by kernel_rfl) rfl rfl (fun A=>?_)
 conv=>whnf
 exact aA.mk ⟨rfl,rfl⟩ ⟨rfl,rfl⟩ ⟨rfl,rfl,rfl,trivial⟩
theorem ab7 (a:List LS) (ha:a.length≤1048576):aG T Tryz.prog 98 [.c (.sl AP a)] (.c (.ow eS (a.map tS))):=by
 refine aH hT Tryz.func98 (by kernel_rfl) rfl rfl (fun A=>?_)
 conv=>whnf
 refine Need.mk (Wh (by decide) ha) ?_
 conv=>whnf
 refine dR.mk {k:Nat // k≤a.length} (fun p=>(2,[(4,i64 p.1),(3, .c (.hd 0)),(0,im AP a)],[(0, .row 1 eS (fill (tS) z44 a p.1))])) (fun p=>a.length - p.1) ⟨0,Nat.zero_le _⟩ (aC [(0,0)] rfl rfl rfl ⟨⟨rfl,rfl⟩,⟨rfl,rfl⟩,⟨rfl,rfl⟩,trivial⟩ ⟨fO sK.symm,trivial⟩) ?_
 rintro⟨k,hk⟩
 conv=>whnf
 refine Split.mk (fun c=>?_) (fun c=>?_)
 ·have hk2:k<a.length:=iJ c
  conv=>whnf
  refine Need.mk (idx hk2) ?_
  conv=>whnf
  refine ay.mk _ (toSub _) ?_
  conv=>whnf
  refine Need.mk (idx (Nat.lt_of_lt_of_eq hk2 (vU hk).symm)) ?_
  conv=>whnf
  exact bM.mk ⟨⟨k+1,hk2⟩,Nat.sub_lt_sub_left hk2 (Nat.lt_succ_self k),aC [(0,0)] rfl rfl rfl ⟨⟨rfl,congrArg i64 (dZ hk2 (Nat.le_trans ha (by decide)))⟩,⟨rfl,rfl⟩,⟨rfl,rfl⟩,trivial⟩ ⟨fO (vV hk2),trivial⟩⟩
 ·have hk2:k=a.length:=Nat.le_antisymm hk (iK c)
  conv=>whnf
  subst hk2
  exact aA.mk ⟨rfl,rfl⟩ ⟨rfl,rfl⟩ ⟨fO (vT),trivial⟩
theorem ab8 (a:LK) (ha:a.f1.length≤1048576):aG T Tryz.prog 188 [.ag (T.cells AQ a)] (.ag [.sc (.string a.f0), .ow 5 a.f1, .sc (.int .i64 a.f2)]):=by
 refine aH hT Tryz.func188 (by kernel_rfl) rfl rfl (fun A=>?_)
 conv=>whnf
 refine ay.mk _ (Rl a.f1 ha) ?_
 conv=>whnf
 exact aA.mk ⟨rfl,rfl⟩ ⟨rfl,rfl⟩ ⟨rfl,rfl,rfl,trivial⟩
theorem aam (a:List LK) (ha:a.length≤1048576) (hb:∀y∈a,y.f1.length≤1048576):aG T Tryz.prog 121 [.c (.sl AQ a)] (.c (.ow eK (a.map tK))):=by
 refine aH hT Tryz.func121 (by kernel_rfl) rfl rfl (fun A=>?_)
 conv=>whnf
 refine Need.mk (Wh (by decide) ha) ?_
 conv=>whnf
 refine dR.mk {k:Nat // k≤a.length} (fun p=>(2,[(4,i64 p.1),(3, .c (.hd 0)),(0,im AQ a)],[(0, .row 1 eK (fill (tK) YO a p.1))])) (fun p=>a.length - p.1) ⟨0,Nat.zero_le _⟩ (aC [(0,0)] rfl rfl rfl ⟨⟨rfl,rfl⟩,⟨rfl,rfl⟩,⟨rfl,rfl⟩,trivial⟩ ⟨fO sK.symm,trivial⟩) ?_
 rintro⟨k,hk⟩
 conv=>whnf
 refine Split.mk (fun c=>?_) (fun c=>?_)
 ·have hk2:k<a.length:=iJ c
  conv=>whnf
  refine Need.mk (idx hk2) ?_
  conv=>whnf
  refine ay.mk _ (ab8 _ (hb _ (getD_mem hk2))) ?_
  conv=>whnf
  refine Need.mk (idx (Nat.lt_of_lt_of_eq hk2 (vU hk).symm)) ?_
  conv=>whnf
  exact bM.mk ⟨⟨k+1,hk2⟩,Nat.sub_lt_sub_left hk2 (Nat.lt_succ_self k),aC [(0,0)] rfl rfl rfl ⟨⟨rfl,congrArg i64 (dZ hk2 (Nat.le_trans ha (by decide)))⟩,⟨rfl,rfl⟩,⟨rfl,rfl⟩,trivial⟩ ⟨fO (vV hk2),trivial⟩⟩
 ·have hk2:k=a.length:=Nat.le_antisymm hk (iK c)
  conv=>whnf
  subst hk2
  exact aA.mk ⟨rfl,rfl⟩ ⟨rfl,rfl⟩ ⟨fO (vT),trivial⟩
mutual
def tN:LN→SN
 | ⟨a,b,c⟩=>⟨a,ZH b,c.map tS⟩
def ZH:List LN→List SN
 | []=>[]
 | x::r=>tN x::ZH r
end
theorem Si:∀l:List LN,ZH l=l.map tN
 | []=>rfl
 | x::r=>by rw [ZH,Si r,List.map_cons]
theorem ab9 (n:SN):(⟨n.f0,n.f1,n.f2⟩:SN)=n:=by cases n;rfl
theorem Tq (n:LN):tN n=⟨n.f0,n.f1.map tN,n.f2.map tS⟩:=by cases n;rw [tN,Si]
theorem UM (a:List LN) (ha:a.length≤1048576) (ih:∀k∈a,aG T Tryz.prog 20 [.ag (T.cells qK k)] (.ag [.ow 9 (tN k).f0, .ow eN (tN k).f1, .ow eS (tN k).f2])):aG T Tryz.prog 97 [.c (.sl qK a)] (.c (.ow eN (a.map tN))):=by
 refine aH hT Tryz.func97 (by kernel_rfl) rfl rfl (fun A=>?_)
 conv=>whnf
 refine Need.mk (Wh (by decide) ha) ?_
 conv=>whnf
 refine dR.mk {k:Nat // k≤a.length} (fun p=>(2,[(4,i64 p.1),(3, .c (.hd 0)),(0,im qK a)],[(0, .row 1 eN (fill (tN) z31 a p.1))])) (fun p=>a.length - p.1) ⟨0,Nat.zero_le _⟩ (aC [(0,0)] rfl rfl rfl ⟨⟨rfl,rfl⟩,⟨rfl,rfl⟩,⟨rfl,rfl⟩,trivial⟩ ⟨fO sK.symm,trivial⟩) ?_
 rintro⟨k,hk⟩
 conv=>whnf
 refine Split.mk (fun c=>?_) (fun c=>?_)
 ·have hk2:k<a.length:=iJ c
  conv=>whnf
  refine Need.mk (idx hk2) ?_
  conv=>whnf
  refine ay.mk _ (ih _ (getD_mem hk2)) ?_
  conv=>whnf
  refine Need.mk (idx (Nat.lt_of_lt_of_eq hk2 (vU hk).symm)) ?_
  conv=>whnf
  exact bM.mk ⟨⟨k+1,hk2⟩,Nat.sub_lt_sub_left hk2 (Nat.lt_succ_self k),aC [(0,0)] rfl rfl rfl ⟨⟨rfl,congrArg i64 (dZ hk2 (Nat.le_trans ha (by decide)))⟩,⟨rfl,rfl⟩,⟨rfl,rfl⟩,trivial⟩ ⟨fO ((congrArg (List.set _ _) (ab9 _)).trans (vV hk2)),trivial⟩⟩
 ·have hk2:k=a.length:=Nat.le_antisymm hk (iK c)
  conv=>whnf
  subst hk2
  exact aA.mk ⟨rfl,rfl⟩ ⟨rfl,rfl⟩ ⟨fO (vT),trivial⟩
theorem WY (a:LN) (h0:a.f0.length≤1048576) (h2:a.f2.length≤1048576) (ih:aG T Tryz.prog 97 [.c (.sl qK a.f1)] (.c (.ow eN (a.f1.map tN)))):aG T Tryz.prog 20 [.ag (T.cells qK a)] (.ag [.ow 9 a.f0, .ow eN (a.f1.map tN), .ow eS (a.f2.map tS)]):=by
 refine aH hT Tryz.func20 (by kernel_rfl) rfl rfl (fun A=>?_)
 conv=>whnf
 refine ay.mk _ (WX a.f0 h0) ?_
 conv=>whnf
 refine ay.mk _ (ih) ?_
 conv=>whnf
 refine ay.mk _ (ab7 a.f2 h2) ?_
 conv=>whnf
 exact aA.mk ⟨rfl,rfl⟩ ⟨rfl,rfl⟩ ⟨rfl,rfl,rfl,trivial⟩
inductive NM:LN→Prop
 | mk (n:LN) (h0:n.f0.length≤1048576) (h1:n.f1.length≤1048576) (h2:n.f2.length≤1048576) (hk:∀k∈n.f1,NM k):NM n
theorem VB:∀(a:LN),NM a→aG T Tryz.prog 20 [.ag (T.cells qK a)] (.ag [.ow 9 (tN a).f0, .ow eN (tN a).f1, .ow eS (tN a).f2]):=fun a ha=>by
 rw [Tq]
 exact WY a (by cases ha;assumption) (by cases ha;assumption) (UM a.f1 (by cases ha;assumption) (fun k hk=>VB k (by cases ha with | mk _ _ _ _ h=>exact h k hk)))
termination_by a=>SizeOf.sizeOf a
decreasing_by exact yg hk
end Go.Proofs.YtcnfgfomholheaaGreatDoor.Q
end
section
namespace Go.Proofs.YtcnfgfomholheaaGreatDoor.Q
open Go.RowKit Go.Proofs.YtcnfgfomholheaaGreatDoor.Z
set_option linter.unusedVariables false
set_option linter.unusedSimpArgs false
set_option maxRecDepth 100000
set_option maxHeartbeats 4000000
def LD (k:Nat) (out:ByteArray):ByteArray:=if h:k=0 then out else LD (k / 10) (strOfNums [IntKind.u8.wrap (wrap64 (48+((k % 10:Nat):Int)))]++out)
termination_by k
decreasing_by omega
def markT (k:Nat):ByteArray:=(⟨#[109]⟩:ByteArray)++LD k (⟨#[]⟩:ByteArray)
theorem WZ (n:Int):(strOfNums [n]).size=1:=rfl
theorem rJ (a b:ByteArray):(a++b).size=a.size+b.size:=ByteArray.size_append
theorem adb (k:Nat):((k:Int).tmod 10)=((k % 10:Nat):Int):=by rw [Int.tmod_eq_emod_of_nonneg (by omega)];omega
theorem ade {k:Nat} (h:k≤4611686018427387904):IntKind.i64.wrap ((k:Int).tdiv 10)=((k / 10:Nat):Int):=by
 rw [Int.tdiv_eq_ediv_of_nonneg (by omega),wrap_i64]
 simp only [wrap64];omega
theorem ad6 (x:Int):strOfNums (List.map (numOf T 5) [x])=strOfNums [x]:=rfl
theorem acd (n:Nat):strOfNums (List.map (numOf T 5) [IntKind.u8.wrap (wrap64 (48+(n:Int).tmod 10))])=strOfNums [IntKind.u8.wrap (wrap64 (48+((n % 10:Nat):Int)))]:=by rw [adb,ad6]
theorem ad7 (out:ByteArray):LD 0 out=out:=by unfold LD;rfl
theorem tx {x y:ByteArray} (h:y=x):Value.string x=Value.string y:=by rw [h]
abbrev tx_ (s:ByteArray):Slot T:= .c (.sc (.string s))
theorem ru (k:Nat) (h0:0<k) (h1:k≤4611686018427387904):aG T Tryz.prog 118 [.c (.sc (.int .i64 (k:Int)))] (.c (.sc (.string (markT k)))):=by
 refine aH hT Tryz.func118 (by kernel_rfl) rfl rfl (fun A=>?_)
 conv=>whnf
 refine Split.mk (fun c=>?_) (fun c=>?_)
 ·exact absurd c (by simp;omega)
 clear c
 conv=>whnf
 refine dR.mk {p:Nat × ByteArray // p.1≤k∧p.2.size+p.1≤k∧LD p.1 p.2=LD k (⟨#[]⟩:ByteArray)} (fun p=>(0,[(0,i64 p.1.1),(3,tx_ p.1.2)],[])) (fun p=>p.1.1) ⟨(k,⟨#[]⟩),Nat.le_refl _,by show(0:Nat)+k≤k;omega,rfl⟩ (aC [] rfl rfl rfl ⟨⟨rfl,rfl⟩,⟨rfl,rfl⟩,trivial⟩ trivial) ?_
 rintro⟨⟨n,out⟩,g1,g2,g3⟩
 dsimp only at g1 g2 g3
 conv=>whnf
 refine Split.mk (fun c=>?_) (fun c=>?_)
 ·have hn:n≠0:=by simp at c;omega
  clear c
  conv=>whnf
  refine Need.mk (fun _=>rfl) ?_
  conv=>whnf
  refine Need.mk (show 1+ByteArray.size out≤9223372036854775807 by omega) ?_
  conv=>whnf
  refine bM.mk ⟨⟨(n / 10,strOfNums [IntKind.u8.wrap (wrap64 (48+((n % 10:Nat):Int)))]++out),by omega,by rw [rJ,WZ];omega,?_⟩,Nat.div_lt_self (by omega) (by decide),aC [] rfl rfl rfl ⟨⟨rfl,congrArg i64 (ade (by omega)).symm⟩,⟨rfl,?_⟩,trivial⟩ trivial⟩
  ·rw [←g3]
   conv=>rhs;unfold LD
   rw [dif_neg hn]
  ·exact congrArg (fun x:ByteArray=>tx_ (x++out)) (acd n).symm
 ·have hn:n=0:=by simp at c;omega
  subst hn
  clear c
  have g4:out=LD k (⟨#[]⟩:ByteArray):=(ad7 out).symm.trans g3
  conv=>whnf
  refine Need.mk (show 1+ByteArray.size out≤9223372036854775807 by omega) ?_
  conv=>whnf
  exact aA.mk ⟨rfl,rfl⟩ ⟨rfl,rfl⟩ ⟨tx (congrArg (fun x:ByteArray=>(⟨#[109]⟩:ByteArray)++x) g4.symm),trivial⟩
def jy {β:Type} (s:Nat) (f:Nat→β) (k n:Nat):List β:=(List.range n).map (fun j=>f (k+s*j))
def tJ {β:Type} (s:Nat) (f:Nat→β) (k:Nat) (a:List β) (i:Nat):List β:=jy s f k i++a.drop i
section
variable {β:Type} {s:Nat} {f:Nat→β} {k i n:Nat} {a:List β}
theorem nU:(jy s f k n).length=n:=by simp [jy]
theorem yG (h:i≤a.length):(tJ s f k a i).length=a.length:=by simp [tJ,nU];omega
theorem W9 (hi:i≤a.length) (h:i<a.length):i<(tJ s f k a i).length:=by rw [yG hi];exact h
theorem Pz:a=tJ s f k a 0:=by simp [tJ,jy]
theorem Sj:tJ s f k a a.length=jy s f k a.length:=by simp [tJ]
theorem Sl (h:i<a.length):(tJ s f k a i).set i (f (k+s*i))=tJ s f k a (i+1):=by
 unfold tJ
 rw [List.set_append_right _ _ (by simp [nU]),nU,Nat.sub_self,List.drop_eq_getElem_cons h,List.set_cons_zero]
 simp [jy,List.range_succ]
theorem Sm {d:β} (h:i<n):(jy s f k n).getD i d=f (k+s*i):=by simp [jy,h]
end
theorem Ap {k n:Nat} (h:k+n≤4611686018427387904) (hn:0<n):((k+1:Nat):Int)=wrap64 ((k:Int)+1):=by simp only [wrap64];omega
theorem ET {m n:Nat} (h:decide ((m:Int)<(n:Int))=true) {l:Nat} (hl:n=l):m<l:=hl▸iJ h
theorem xU {m n:Nat} (h:decide ((m:Int)<(n:Int))=false) {l:Nat} (hl:n=l):l≤m:=hl▸iK h
def fB (n:Nat):Int:=IntKind.u8.wrap (n:Int)
def fS (n:Nat):ByteArray:=markT n
abbrev hd0:Slot T:= .c (.hd 1000)
theorem gs_ {e:Nat} {l:List (T.Tb e)} {i:Nat} {x:T.Tb e} (h:i<l.length):bZ T e (l.set i x) i=x:=by simp [bZ,h]
theorem KQ (a:List Int) (k:Nat) (hl:a.length≤140737488351232) (h0:0<k) (hk:k+1*a.length≤4611686018427387904):CallWOb T Tryz.prog 53 [.c (.ow 5 a 5 (jy 1 fB k a.length)), .c (.c (.sc (.int .i64 (k:Int))))] (.c (.sc (.int .i64 ((k+1*a.length:Nat):Int)))):=by
 refine rH hT Tryz.func53 (by kernel_rfl) rfl rfl (fun A=>?_)
 conv=>whnf
 refine dR.mk {i:Nat // i≤a.length} (fun p=>(1,[(5,i64 p.1),(1,i64 (k+1*p.1:Nat)),(0,hd0)],[(1000, .row 0 5 (tJ 1 fB k a p.1))])) (fun p=>a.length - p.1) ⟨0,Nat.zero_le _⟩ (aC [] rfl rfl rfl ⟨⟨rfl,rfl⟩,⟨rfl,rfl⟩,⟨rfl,rfl⟩,trivial⟩ ⟨show bU (T:=T) 5 a 5 (tJ 1 fB k a 0) from fO Pz,trivial⟩) ?_
 rintro⟨i,hi⟩
 conv=>whnf
 refine Split.mk (fun c=>?_) (fun c=>?_)
 ·have hk2:i<a.length:=ET c (yG hi)
  clear c
  have hb:k+1*i+1≤4611686018427387904:=by omega
  conv=>whnf
  refine Need.mk (idx (W9 hi hk2)) ?_
  conv=>whnf
  exact bM.mk ⟨⟨i+1,hk2⟩,Nat.sub_lt_sub_left hk2 (Nat.lt_succ_self i),aC [] rfl rfl rfl ⟨⟨rfl,congrArg i64 (dZ hk2 hl)⟩,⟨rfl,congrArg i64 (Ap (k:=k+1*i) (n:=1) (by omega) (by decide))⟩,⟨rfl,rfl⟩,trivial⟩ ⟨fO (Sl (s:=1) (f:=fB) hk2),trivial⟩⟩
 ·have hk2:i=a.length:=Nat.le_antisymm hi (xU c (yG hi))
  clear c
  conv=>whnf
  subst hk2
  exact wP.mk ⟨rfl,rfl⟩ ⟨⟨rfl,rfl⟩,rfl⟩ ⟨rfl,trivial⟩ ⟨show bU (T:=T) 5 (tJ 1 fB k a a.length) 5 (jy 1 fB k a.length) from fO Sj,trivial⟩
theorem EU (a:List ByteArray) (k:Nat) (hl:a.length≤140737488351232) (h0:0<k) (hk:k+1*a.length≤4611686018427387904):CallWOb T Tryz.prog 48 [.c (.ow 9 a 9 (jy 1 fS k a.length)), .c (.c (.sc (.int .i64 (k:Int))))] (.c (.sc (.int .i64 ((k+1*a.length:Nat):Int)))):=by
 refine rH hT Tryz.func48 (by kernel_rfl) rfl rfl (fun A=>?_)
 conv=>whnf
 refine dR.mk {i:Nat // i≤a.length} (fun p=>(1,[(5,i64 p.1),(1,i64 (k+1*p.1:Nat)),(0,hd0)],[(1000, .row 0 9 (tJ 1 fS k a p.1))])) (fun p=>a.length - p.1) ⟨0,Nat.zero_le _⟩ (aC [] rfl rfl rfl ⟨⟨rfl,rfl⟩,⟨rfl,rfl⟩,⟨rfl,rfl⟩,trivial⟩ ⟨show bU (T:=T) 9 a 9 (tJ 1 fS k a 0) from fO Pz,trivial⟩) ?_
 rintro⟨i,hi⟩
 conv=>whnf
 refine Split.mk (fun c=>?_) (fun c=>?_)
 ·have hk2:i<a.length:=ET c (yG hi)
  clear c
  have hb:k+1*i+1≤4611686018427387904:=by omega
  conv=>whnf
  refine ay.mk _ (ru (k+1*i) (by omega) (by omega)) ?_
  conv=>whnf
  refine Need.mk (idx (W9 hi hk2)) ?_
  conv=>whnf
  exact bM.mk ⟨⟨i+1,hk2⟩,Nat.sub_lt_sub_left hk2 (Nat.lt_succ_self i),aC [] rfl rfl rfl ⟨⟨rfl,congrArg i64 (dZ hk2 hl)⟩,⟨rfl,congrArg i64 (Ap (k:=k+1*i) (n:=1) (by omega) (by decide))⟩,⟨rfl,rfl⟩,trivial⟩ ⟨fO (Sl (s:=1) (f:=fS) hk2),trivial⟩⟩
 ·have hk2:i=a.length:=Nat.le_antisymm hi (xU c (yG hi))
  clear c
  conv=>whnf
  subst hk2
  exact wP.mk ⟨rfl,rfl⟩ ⟨⟨rfl,rfl⟩,rfl⟩ ⟨rfl,trivial⟩ ⟨show bU (T:=T) 9 (tJ 1 fS k a a.length) 9 (jy 1 fS k a.length) from fO Sj,trivial⟩
end Go.Proofs.YtcnfgfomholheaaGreatDoor.Q
end
section
namespace Go.Proofs.YtcnfgfomholheaaGreatDoor.Q
open Go.RowKit Go.Proofs.YtcnfgfomholheaaGreatDoor.Z
set_option linter.unusedVariables false
set_option linter.unusedSimpArgs false
set_option maxRecDepth 100000
set_option maxHeartbeats 4000000
def aY {β:Type} (f:β→Nat→β × Nat):List β→Nat→List β × Nat
 | [],k=>([],k)
 | p::l,k=>((f p k).1::(aY f l (f p k).2).1,(aY f l (f p k).2).2)
def jL {β:Type} (f:β→Nat→β × Nat) (a:List β) (k i:Nat):List β:=(aY f (a.take i) k).1++a.drop i
section
variable {β:Type} {f:β→Nat→β × Nat} {a:List β} {k i:Nat} {d:β}
theorem Es:∀(l m:List β) (k:Nat),aY f (l++m) k=((aY f l k).1++(aY f m (aY f l k).2).1,(aY f m (aY f l k).2).2)
 | [],_,_=>rfl
 | p::l,m,k=>by simp only [List.cons_append,aY,Es l m]
theorem rC:∀(l:List β) (k:Nat),(aY f l k).1.length=l.length
 | [],_=>rfl
 | p::l,k=>by simp only [aY,List.length_cons,rC l]
theorem oW (h:i<a.length):aY f (a.take (i+1)) k=((aY f (a.take i) k).1++[(f (a.getD i d) (aY f (a.take i) k).2).1],(f (a.getD i d) (aY f (a.take i) k).2).2):=by
 have e:a.getD i d=a[i]:=by simp [h]
 rw [List.take_succ_eq_append_getElem h,Es,e];rfl
theorem gU (hf:∀p k,k≤(f p k).2):∀(l:List β) (k:Nat),k≤(aY f l k).2
 | [],k=>Nat.le_refl _
 | p::l,k=>Nat.le_trans (hf p k) (gU hf l _)
theorem rD (hf:∀p k,k≤(f p k).2) (i:Nat):(aY f (a.take i) k).2≤(aY f a k).2:=by
 have h:=Es (f:=f) (a.take i) (a.drop i) k
 rw [List.take_append_drop] at h
 rw [h];exact gU hf _ _
theorem Gj (h:i≤a.length):(jL f a k i).length=a.length:=by
 rw [jL,List.length_append,rC,List.length_take,List.length_drop];omega
theorem PD (h:i<a.length) (x:β):(jL f a k i).set i x=(aY f (a.take i) k).1++x::a.drop (i+1):=by
 have hl:(aY f (a.take i) k).1.length=i:=by rw [rC,List.length_take];omega
 rw [jL,List.set_append_right _ _ (by omega),hl,Nat.sub_self,List.drop_eq_getElem_cons h];rfl
theorem Dc (h:i<a.length):jL f a k i=(jL f a k i).set i (a.getD i d):=by
 rw [PD h,jL,List.drop_eq_getElem_cons h];simp [h]
theorem Df (h:i<a.length):(jL f a k i).set i (f (a.getD i d) (aY f (a.take i) k).2).1=jL f a k (i+1):=by
 rw [PD h,jL,oW (d:=d) h,List.append_assoc];rfl
theorem Gl:jL f a k a.length=(aY f a k).1:=by rw [jL,List.take_length,List.drop_length,List.append_nil]
theorem uT {e:Nat} {R:List (T.Tb e)} {i:Nat} (h:i<R.length) (x:T.Tb e) (g:T.Tb e→T.Tb e):(R.set i x).set i (g (bZ T e (R.set i x) i))=R.set i (g x):=by
 rw [gs_ h,List.set_set]
theorem ZI {e:Nat} {R:List (T.Tb e)} {i:Nat} (h:i<R.length) (x:T.Tb e) (C:T.Tb e→Prop) (hc:C x):C (bZ T e (R.set i x) i):=by
 rw [gs_ h];exact hc
end
def dO (p:SS) (k:Nat):SS × Nat:=(⟨markT k,((k+1:Nat):Int),((k+2:Nat):Int)⟩,k+3)
def eu (p:SK) (k:Nat):SK × Nat:=(⟨markT k,jy 1 fB (k+1) p.f1.length,((k+1+1*p.f1.length:Nat):Int)⟩,k+1+1*p.f1.length+1)
mutual
def bH:SN→Nat→SN × Nat
 | ⟨a,b,c⟩,k=>(⟨jy 1 fS k a.length,(qM b (k+1*a.length)).1,(aY dO c (qM b (k+1*a.length)).2).1⟩,(aY dO c (qM b (k+1*a.length)).2).2)
def qM:List SN→Nat→List SN × Nat
 | [],k=>([],k)
 | p::l,k=>((bH p k).1::(qM l (bH p k).2).1,(qM l (bH p k).2).2)
end
theorem Sr:∀l:List SN,qM l=aY bH l
 | []=>by funext k;rw [qM];rfl
 | p::l=>by funext k;rw [qM,Sr l];rfl
theorem sN (n:SN) (k:Nat):bH n k=(⟨jy 1 fS k n.f0.length,(aY bH n.f1 (k+1*n.f0.length)).1,(aY dO n.f2 (aY bH n.f1 (k+1*n.f0.length)).2).1⟩,(aY dO n.f2 (aY bH n.f1 (k+1*n.f0.length)).2).2):=by cases n;rw [bH,Sr]
theorem lq (p:SS) (k:Nat):k≤(dO p k).2:=by show k≤k+3;omega
theorem qN (p:SK) (k:Nat):k≤(eu p k).2:=by show k≤k+1+1*p.f1.length+1;omega
theorem Sv {β:Type} {f:β→Nat→β × Nat}:∀(l:List β) (k:Nat),(∀p∈l,∀k,k≤(f p k).2)→k≤(aY f l k).2
 | [],k,_=>Nat.le_refl _
 | p::l,k,h=>Nat.le_trans (h p List.mem_cons_self k) (Sv l _ (fun q hq=>h q (List.mem_cons_of_mem _ hq)))
theorem ku:∀(n:SN) (k:Nat),k≤(bH n k).2:=fun n k=>by
 rw [sN]
 exact Nat.le_trans (Nat.le_trans (Nat.le_add_right _ _) (Sv n.f1 _ (fun p hp k=>ku p k))) (gU lq _ _)
termination_by n=>SizeOf.sizeOf n
decreasing_by exact lY hp
theorem PE (a:List SS) (k:Nat) (ha:a.length≤2097152) (h0:0<k) (hk:(aY (β:=SS) dO a k).2≤4611686018427387904):CallWOb T Tryz.prog 34 [.c (.ow eS a eS (aY (β:=SS) dO a k).1), .c (.c (.sc (.int .i64 (k:Int))))] (.c (.sc (.int .i64 ((aY (β:=SS) dO a k).2:Int)))):=by
 refine rU hT Tryz.func34 (by kernel_rfl) rfl rfl (fun A=>?_)
 refine Vc.seq 0 hT ?_
 conv=>whnf
 refine Vc.JH ?_
 refine Vc.seq 0 hT ?_
 conv=>whnf
 refine Vc.block ?_
 refine Vc.loop (α:={i:Nat // i≤a.length}) (fun s=>([(5,i64 s.1),(1,i64 ((aY (β:=SS) dO (a.take s.1) k).2:Nat)),(0,hd0)],[(1000, .row 0 eS (jL (β:=SS) dO a k s.1))])) (fun s=>a.length - s.1) ⟨0,Nat.zero_le _⟩ (aC [] rfl rfl rfl ⟨⟨rfl,rfl⟩,⟨rfl,rfl⟩,⟨rfl,rfl⟩,trivial⟩ ⟨show bU (T:=T) eS a eS (jL (β:=SS) dO a k 0) from fO rfl,trivial⟩) ?_
 rintro⟨i,hi⟩
 have hR:=Gj (β:=SS) (f:=dO) (k:=k) hi
 refine Vc.seq 1 hT ?_
 conv=>whnf
 refine Split.mk (fun c=>?_) (fun c=>?_)
 ·have hk2:i<a.length:=ET c hR
  clear c
  have hq:=gU (β:=SS) lq (a.take i) k
  have hself:=Dc (β:=SS) (f:=dO) (k:=k) (d:=T.df eS) hk2
  have hnext:=Df (β:=SS) (f:=dO) (k:=k) (d:=T.df eS) hk2
  have hmk:=oW (β:=SS) (f:=dO) (k:=k) (d:=T.df eS) hk2
  have hkp:=Nat.le_trans (rD (β:=SS) (f:=dO) (a:=a) (k:=k) lq (i+1)) hk
  rw [hmk] at hkp
  replace hmk:=congrArg Prod.snd hmk
  have hp:=getD_mem (α:=SS) (d:=T.df eS) hk2
  generalize jL (β:=SS) dO a k i=R at hself hnext hR⊢
  generalize (aY (β:=SS) dO (a.take i) k).2=k at hq hnext hmk hkp⊢
  generalize a.getD i (T.df eS)=p at hself hnext hmk hkp hp⊢
  have hlt:i<R.length:=by omega
  have hk1:0<k:=by omega
  have hkb:(dO p k).2≤4611686018427387904:=hkp
  conv=>whnf
  refine Vc.imp (tm':=[(5,i64 i),(1,i64 (k:Nat)),(0,hd0)]) (rs':=[(1000, .row 0 eS (R.set i p))]) (aC [] rfl rfl rfl ⟨⟨rfl,rfl⟩,⟨rfl,rfl⟩,⟨rfl,rfl⟩,trivial⟩ ⟨show bU (T:=T) eS R eS (R.set i p) from fO hself,trivial⟩) ?_
  clear hself
  refine Vc.JH ?_
  refine Vc.block ?_
  refine Vc.seq 1 hT ?_
  conv=>whnf
  refine ay.mk _ (ru k (by omega) (by simp only [dO] at hkb;omega)) ?_
  conv=>whnf
  refine Need.mk (idx (Nat.lt_of_lt_of_eq hlt List.length_set.symm)) ?_
  conv=>whnf
  refine Vc.cut (α:=Unit) 50 (fun _=>True) (fun _=>[(5,i64 i),(1,i64 ((k+1):Nat)),(0,hd0)]) (fun _=>[(1000, .row 0 eS (R.set i (⟨markT k,p.f1,p.f2⟩:SS)))]) hT ?_ (fun _ _=>?_)
  ·conv=>whnf
   exact jX.mk ⟨(),trivial,aC [] rfl rfl rfl ⟨⟨rfl,rfl⟩,⟨rfl,congrArg i64 (Ap (k:=k) (n:=1) (by simp only [dO] at hkb;omega) (by decide))⟩,⟨rfl,rfl⟩,trivial⟩ ⟨fO (uT (e:=eS) hlt (p:SS) (fun q:T.Tb eS=>(⟨markT k,q.f1,q.f2⟩:SS))),trivial⟩⟩
  refine Vc.seq 1 hT ?_
  conv=>whnf
  refine Need.mk (idx (Nat.lt_of_lt_of_eq hlt List.length_set.symm)) ?_
  conv=>whnf
  refine Vc.cut (α:=Unit) 50 (fun _=>True) (fun _=>[(5,i64 i),(1,i64 (((k+1)+1):Nat)),(0,hd0)]) (fun _=>[(1000, .row 0 eS (R.set i (⟨markT k,(((k+1):Nat):Int),p.f2⟩:SS)))]) hT ?_ (fun _ _=>?_)
  ·conv=>whnf
   exact jX.mk ⟨(),trivial,aC [] rfl rfl rfl ⟨⟨rfl,rfl⟩,⟨rfl,congrArg i64 (Ap (k:=(k+1)) (n:=1) (by simp only [dO] at hkb;omega) (by decide))⟩,⟨rfl,rfl⟩,trivial⟩ ⟨fO (uT (e:=eS) hlt (⟨markT k,p.f1,p.f2⟩:SS) (fun q:T.Tb eS=>(⟨q.f0,(((k+1):Nat):Int),q.f2⟩:SS))),trivial⟩⟩
  refine Vc.seq 1 hT ?_
  conv=>whnf
  refine Need.mk (idx (Nat.lt_of_lt_of_eq hlt List.length_set.symm)) ?_
  conv=>whnf
  refine Vc.of 1 hT ?_
  conv=>whnf
  refine Vc.of 1 hT ?_
  conv=>whnf
  exact bM.mk ⟨⟨i+1,hk2⟩,Nat.sub_lt_sub_left hk2 (Nat.lt_succ_self i),aC [] rfl rfl rfl ⟨⟨rfl,congrArg i64 (dZ hk2 (by omega))⟩,⟨rfl,congrArg i64 ((congrArg (fun x:Nat=>(x:Int)) (hmk)).trans (Ap (k:=((k+1)+1)) (n:=1) (by simp only [dO] at hkb;omega) (by decide)))⟩,⟨rfl,rfl⟩,trivial⟩ ⟨fO ((uT (e:=eS) hlt (⟨markT k,(((k+1):Nat):Int),p.f2⟩:SS) (fun q:T.Tb eS=>(⟨q.f0,q.f1,((((k+1)+1):Nat):Int)⟩:SS))).trans hnext),trivial⟩⟩
 ·have hk2:i=a.length:=Nat.le_antisymm hi (xU c hR)
  clear c hR
  subst hk2
  conv=>whnf
  refine Vc.of 1 hT ?_
  conv=>whnf
  exact wP.mk ⟨rfl,rfl⟩ ⟨⟨rfl,rfl⟩,rfl⟩ ⟨iv (by rw [List.take_length]),trivial⟩ ⟨show bU (T:=T) eS (jL (β:=SS) dO a k a.length) eS (aY (β:=SS) dO a k).1 from fO Gl,trivial⟩
theorem VF (a:List SK) (k:Nat) (ha:a.length≤2097152) (hy:∀y∈a,y.f1.length≤2097152) (h0:0<k) (hk:(aY (β:=SK) eu a k).2≤4611686018427387904):CallWOb T Tryz.prog 67 [.c (.ow eK a eK (aY (β:=SK) eu a k).1), .c (.c (.sc (.int .i64 (k:Int))))] (.c (.sc (.int .i64 ((aY (β:=SK) eu a k).2:Int)))):=by
 refine rU hT Tryz.func67 (by kernel_rfl) rfl rfl (fun A=>?_)
 refine Vc.seq 0 hT ?_
 conv=>whnf
 refine Vc.JH ?_
 refine Vc.seq 0 hT ?_
 conv=>whnf
 refine Vc.block ?_
 refine Vc.loop (α:={i:Nat // i≤a.length}) (fun s=>([(5,i64 s.1),(1,i64 ((aY (β:=SK) eu (a.take s.1) k).2:Nat)),(0,hd0)],[(1000, .row 0 eK (jL (β:=SK) eu a k s.1))])) (fun s=>a.length - s.1) ⟨0,Nat.zero_le _⟩ (aC [] rfl rfl rfl ⟨⟨rfl,rfl⟩,⟨rfl,rfl⟩,⟨rfl,rfl⟩,trivial⟩ ⟨show bU (T:=T) eK a eK (jL (β:=SK) eu a k 0) from fO rfl,trivial⟩) ?_
 rintro⟨i,hi⟩
 have hR:=Gj (β:=SK) (f:=eu) (k:=k) hi
 refine Vc.seq 1 hT ?_
 conv=>whnf
 refine Split.mk (fun c=>?_) (fun c=>?_)
 ·have hk2:i<a.length:=ET c hR
  clear c
  have hq:=gU (β:=SK) qN (a.take i) k
  have hself:=Dc (β:=SK) (f:=eu) (k:=k) (d:=T.df eK) hk2
  have hnext:=Df (β:=SK) (f:=eu) (k:=k) (d:=T.df eK) hk2
  have hmk:=oW (β:=SK) (f:=eu) (k:=k) (d:=T.df eK) hk2
  have hkp:=Nat.le_trans (rD (β:=SK) (f:=eu) (a:=a) (k:=k) qN (i+1)) hk
  rw [hmk] at hkp
  replace hmk:=congrArg Prod.snd hmk
  have hp:=getD_mem (α:=SK) (d:=T.df eK) hk2
  have hpb:=hy _ hp
  generalize jL (β:=SK) eu a k i=R at hself hnext hR⊢
  generalize (aY (β:=SK) eu (a.take i) k).2=k at hq hnext hmk hkp⊢
  generalize a.getD i (T.df eK)=p at hself hnext hmk hkp hp hpb⊢
  have hlt:i<R.length:=by omega
  have hk1:0<k:=by omega
  have hkb:(eu p k).2≤4611686018427387904:=hkp
  conv=>whnf
  refine Vc.imp (tm':=[(5,i64 i),(1,i64 (k:Nat)),(0,hd0)]) (rs':=[(1000, .row 0 eK (R.set i p))]) (aC [] rfl rfl rfl ⟨⟨rfl,rfl⟩,⟨rfl,rfl⟩,⟨rfl,rfl⟩,trivial⟩ ⟨show bU (T:=T) eK R eK (R.set i p) from fO hself,trivial⟩) ?_
  clear hself
  refine Vc.JH ?_
  refine Vc.block ?_
  refine Vc.seq 1 hT ?_
  conv=>whnf
  refine ay.mk _ (ru k (by omega) (by simp only [eu] at hkb;omega)) ?_
  conv=>whnf
  refine Need.mk (idx (Nat.lt_of_lt_of_eq hlt List.length_set.symm)) ?_
  conv=>whnf
  refine Vc.cut (α:=Unit) 50 (fun _=>True) (fun _=>[(5,i64 i),(1,i64 ((k+1):Nat)),(0,hd0)]) (fun _=>[(1000, .row 0 eK (R.set i (⟨markT k,p.f1,p.f2⟩:SK)))]) hT ?_ (fun _ _=>?_)
  ·conv=>whnf
   exact jX.mk ⟨(),trivial,aC [] rfl rfl rfl ⟨⟨rfl,rfl⟩,⟨rfl,congrArg i64 (Ap (k:=k) (n:=1) (by simp only [eu] at hkb;omega) (by decide))⟩,⟨rfl,rfl⟩,trivial⟩ ⟨fO (uT (e:=eK) hlt (p:SK) (fun q:T.Tb eK=>(⟨markT k,q.f1,q.f2⟩:SK))),trivial⟩⟩
  refine Vc.cut (α:=Unit) 50 (fun _=>True) (fun _=>[(5,i64 i),(1,i64 (((k+1)+1*p.f1.length):Nat)),(0,hd0)]) (fun _=>[(1000, .row 0 eK (R.set i (⟨markT k,jy 1 fB (k+1) p.f1.length,p.f2⟩:SK)))]) hT ?_ (fun _ _=>?_)
  ·conv=>whnf
   refine Need.mk (idx (Nat.lt_of_lt_of_eq hlt List.length_set.symm)) ?_
   conv=>whnf
   refine ay.wr [[NW.wr 5 (jy 1 fB (k+1) p.f1.length)],[NW.rd]] (.c (.sc (.int .i64 ((((k+1)+1*p.f1.length):Nat):Int)))) ?_
   conv=>whnf
   refine jG.mk (ZI (e:=eK) hlt (⟨markT k,p.f1,p.f2⟩:SK) (fun q=>CallWOb T Tryz.prog 53 [.c (.ow 5 q.f1 5 (jy 1 fB (k+1) p.f1.length)), .c (.c (.sc (.int .i64 (((k+1):Nat):Int))))] (.c (.sc (.int .i64 ((((k+1)+1*p.f1.length):Nat):Int))))) (KQ p.f1 ((k+1)) (Nat.le_trans hpb (by decide)) (by omega) (by simp only [eu] at hkb;omega))) ?_
   conv=>whnf
   exact jX.mk ⟨(),trivial,aC [] rfl rfl rfl ⟨⟨rfl,rfl⟩,⟨rfl,rfl⟩,⟨rfl,rfl⟩,trivial⟩ ⟨fO (uT (e:=eK) hlt (⟨markT k,p.f1,p.f2⟩:SK) (fun q:T.Tb eK=>(⟨q.f0,jy 1 fB (k+1) p.f1.length,q.f2⟩:SK))),trivial⟩⟩
  refine Vc.seq 1 hT ?_
  conv=>whnf
  refine Need.mk (idx (Nat.lt_of_lt_of_eq hlt List.length_set.symm)) ?_
  conv=>whnf
  refine Vc.of 1 hT ?_
  conv=>whnf
  refine Vc.of 1 hT ?_
  conv=>whnf
  exact bM.mk ⟨⟨i+1,hk2⟩,Nat.sub_lt_sub_left hk2 (Nat.lt_succ_self i),aC [] rfl rfl rfl ⟨⟨rfl,congrArg i64 (dZ hk2 (by omega))⟩,⟨rfl,congrArg i64 ((congrArg (fun x:Nat=>(x:Int)) (hmk)).trans (Ap (k:=((k+1)+1*p.f1.length)) (n:=1) (by simp only [eu] at hkb;omega) (by decide)))⟩,⟨rfl,rfl⟩,trivial⟩ ⟨fO ((uT (e:=eK) hlt (⟨markT k,jy 1 fB (k+1) p.f1.length,p.f2⟩:SK) (fun q:T.Tb eK=>(⟨q.f0,q.f1,((((k+1)+1*p.f1.length):Nat):Int)⟩:SK))).trans hnext),trivial⟩⟩
 ·have hk2:i=a.length:=Nat.le_antisymm hi (xU c hR)
  clear c hR
  subst hk2
  conv=>whnf
  refine Vc.of 1 hT ?_
  conv=>whnf
  exact wP.mk ⟨rfl,rfl⟩ ⟨⟨rfl,rfl⟩,rfl⟩ ⟨iv (by rw [List.take_length]),trivial⟩ ⟨show bU (T:=T) eK (jL (β:=SK) eu a k a.length) eK (aY (β:=SK) eu a k).1 from fO Gl,trivial⟩
theorem PG (a:List SN) (k:Nat) (ha:a.length≤2097152) (hy:∀y∈a,Bd y∧∀k,0<k→(aY bH y.f1 k).2≤4611686018427387904→CallWOb T Tryz.prog 103 [.c (.ow eN y.f1 eN (aY bH y.f1 k).1), .c (.c (.sc (.int .i64 (k:Int))))] (.c (.sc (.int .i64 ((aY bH y.f1 k).2:Int))))) (h0:0<k) (hk:(aY (β:=SN) bH a k).2≤4611686018427387904):CallWOb T Tryz.prog 103 [.c (.ow eN a eN (aY (β:=SN) bH a k).1), .c (.c (.sc (.int .i64 (k:Int))))] (.c (.sc (.int .i64 ((aY (β:=SN) bH a k).2:Int)))):=by
 refine rU hT Tryz.func103 (by kernel_rfl) rfl rfl (fun A=>?_)
 refine Vc.seq 0 hT ?_
 conv=>whnf
 refine Vc.JH ?_
 refine Vc.seq 0 hT ?_
 conv=>whnf
 refine Vc.block ?_
 refine Vc.loop (α:={i:Nat // i≤a.length}) (fun s=>([(5,i64 s.1),(1,i64 ((aY (β:=SN) bH (a.take s.1) k).2:Nat)),(0,hd0)],[(1000, .row 0 eN (jL (β:=SN) bH a k s.1))])) (fun s=>a.length - s.1) ⟨0,Nat.zero_le _⟩ (aC [] rfl rfl rfl ⟨⟨rfl,rfl⟩,⟨rfl,rfl⟩,⟨rfl,rfl⟩,trivial⟩ ⟨show bU (T:=T) eN a eN (jL (β:=SN) bH a k 0) from fO rfl,trivial⟩) ?_
 rintro⟨i,hi⟩
 have hR:=Gj (β:=SN) (f:=bH) (k:=k) hi
 refine Vc.seq 1 hT ?_
 conv=>whnf
 refine Split.mk (fun c=>?_) (fun c=>?_)
 ·have hk2:i<a.length:=ET c hR
  clear c
  have hq:=gU (β:=SN) ku (a.take i) k
  have hself:=Dc (β:=SN) (f:=bH) (k:=k) (d:=T.df eN) hk2
  have hnext:=Df (β:=SN) (f:=bH) (k:=k) (d:=T.df eN) hk2
  have hmk:=oW (β:=SN) (f:=bH) (k:=k) (d:=T.df eN) hk2
  have hkp:=Nat.le_trans (rD (β:=SN) (f:=bH) (a:=a) (k:=k) ku (i+1)) hk
  rw [hmk] at hkp
  replace hmk:=congrArg Prod.snd hmk
  have hp:=getD_mem (α:=SN) (d:=T.df eN) hk2
  have hpb:=hy _ hp
  rw [sN] at hkp
  generalize jL (β:=SN) bH a k i=R at hself hnext hR⊢
  generalize (aY (β:=SN) bH (a.take i) k).2=k at hq hnext hmk hkp⊢
  generalize a.getD i (T.df eN)=p at hself hnext hmk hkp hp hpb⊢
  have hlt:i<R.length:=by omega
  have hk1:0<k:=by omega
  have hkb:(aY dO p.f2 (aY bH p.f1 (k+1*p.f0.length)).2).2≤4611686018427387904:=hkp
  conv=>whnf
  refine Vc.imp (tm':=[(5,i64 i),(1,i64 (k:Nat)),(0,hd0)]) (rs':=[(1000, .row 0 eN (R.set i p))]) (aC [] rfl rfl rfl ⟨⟨rfl,rfl⟩,⟨rfl,rfl⟩,⟨rfl,rfl⟩,trivial⟩ ⟨show bU (T:=T) eN R eN (R.set i p) from fO hself,trivial⟩) ?_
  clear hself
  refine Vc.JH ?_
  refine Vc.block ?_
  refine Vc.cut (α:=Unit) 50 (fun _=>True) (fun _=>[(5,i64 i),(1,i64 ((k+1*p.f0.length):Nat)),(0,hd0)]) (fun _=>[(1000, .row 0 eN (R.set i (⟨jy 1 fS k p.f0.length,p.f1,p.f2⟩:SN)))]) hT ?_ (fun _ _=>?_)
  ·conv=>whnf
   refine Need.mk (idx (Nat.lt_of_lt_of_eq hlt List.length_set.symm)) ?_
   conv=>whnf
   refine ay.wr [[NW.wr 9 (jy 1 fS k p.f0.length)],[NW.rd]] (.c (.sc (.int .i64 (((k+1*p.f0.length):Nat):Int)))) ?_
   conv=>whnf
   refine jG.mk (ZI (e:=eN) hlt (p:SN) (fun q=>CallWOb T Tryz.prog 48 [.c (.ow 9 q.f0 9 (jy 1 fS k p.f0.length)), .c (.c (.sc (.int .i64 ((k:Nat):Int))))] (.c (.sc (.int .i64 (((k+1*p.f0.length):Nat):Int))))) (EU p.f0 (k) (Nat.le_trans hpb.1.l0 (by decide)) (by omega) (Nat.le_trans (Nat.le_trans (gU ku p.f1 _) (gU lq p.f2 _)) hkb))) ?_
   conv=>whnf
   exact jX.mk ⟨(),trivial,aC [] rfl rfl rfl ⟨⟨rfl,rfl⟩,⟨rfl,rfl⟩,⟨rfl,rfl⟩,trivial⟩ ⟨fO (uT (e:=eN) hlt (p:SN) (fun q:T.Tb eN=>(⟨jy 1 fS k p.f0.length,q.f1,q.f2⟩:SN))),trivial⟩⟩
  refine Vc.cut (α:=Unit) 50 (fun _=>True) (fun _=>[(5,i64 i),(1,i64 ((aY bH p.f1 (k+1*p.f0.length)).2:Nat)),(0,hd0)]) (fun _=>[(1000, .row 0 eN (R.set i (⟨jy 1 fS k p.f0.length,(aY bH p.f1 (k+1*p.f0.length)).1,p.f2⟩:SN)))]) hT ?_ (fun _ _=>?_)
  ·conv=>whnf
   refine Need.mk (idx (Nat.lt_of_lt_of_eq hlt List.length_set.symm)) ?_
   conv=>whnf
   refine ay.wr [[NW.wr eN ((aY bH p.f1 (k+1*p.f0.length)).1)],[NW.rd]] (.c (.sc (.int .i64 (((aY bH p.f1 (k+1*p.f0.length)).2:Nat):Int)))) ?_
   conv=>whnf
   refine jG.mk (ZI (e:=eN) hlt (⟨jy 1 fS k p.f0.length,p.f1,p.f2⟩:SN) (fun q=>CallWOb T Tryz.prog 103 [.c (.ow eN q.f1 eN ((aY bH p.f1 (k+1*p.f0.length)).1)), .c (.c (.sc (.int .i64 (((k+1*p.f0.length):Nat):Int))))] (.c (.sc (.int .i64 (((aY bH p.f1 (k+1*p.f0.length)).2:Nat):Int))))) (hpb.2 ((k+1*p.f0.length)) (by omega) (Nat.le_trans (gU lq p.f2 _) hkb))) ?_
   conv=>whnf
   exact jX.mk ⟨(),trivial,aC [] rfl rfl rfl ⟨⟨rfl,rfl⟩,⟨rfl,rfl⟩,⟨rfl,rfl⟩,trivial⟩ ⟨fO (uT (e:=eN) hlt (⟨jy 1 fS k p.f0.length,p.f1,p.f2⟩:SN) (fun q:T.Tb eN=>(⟨q.f0,(aY bH p.f1 (k+1*p.f0.length)).1,q.f2⟩:SN))),trivial⟩⟩
  refine Vc.of 1 hT ?_
  conv=>whnf
  refine Need.mk (idx (Nat.lt_of_lt_of_eq hlt List.length_set.symm)) ?_
  conv=>whnf
  refine ay.wr [[NW.wr eS ((aY dO p.f2 (aY bH p.f1 (k+1*p.f0.length)).2).1)],[NW.rd]] (.c (.sc (.int .i64 (((aY dO p.f2 (aY bH p.f1 (k+1*p.f0.length)).2).2:Nat):Int)))) ?_
  conv=>whnf
  refine jG.mk (ZI (e:=eN) hlt (⟨jy 1 fS k p.f0.length,(aY bH p.f1 (k+1*p.f0.length)).1,p.f2⟩:SN) (fun q=>CallWOb T Tryz.prog 34 [.c (.ow eS q.f2 eS ((aY dO p.f2 (aY bH p.f1 (k+1*p.f0.length)).2).1)), .c (.c (.sc (.int .i64 (((aY bH p.f1 (k+1*p.f0.length)).2:Nat):Int))))] (.c (.sc (.int .i64 (((aY dO p.f2 (aY bH p.f1 (k+1*p.f0.length)).2).2:Nat):Int))))) (PE p.f2 ((aY bH p.f1 (k+1*p.f0.length)).2) hpb.1.l2 (Nat.lt_of_lt_of_le (show 0<k+1*p.f0.length by omega) (gU ku _ _)) hkb)) ?_
  conv=>whnf
  refine Vc.of 1 hT ?_
  conv=>whnf
  exact bM.mk ⟨⟨i+1,hk2⟩,Nat.sub_lt_sub_left hk2 (Nat.lt_succ_self i),aC [] rfl rfl rfl ⟨⟨rfl,congrArg i64 (dZ hk2 (by omega))⟩,⟨rfl,congrArg i64 ((congrArg (fun x:Nat=>(x:Int)) (hmk.trans (show(bH p k).2=_ from congrArg Prod.snd (sN p k)))).trans (rfl))⟩,⟨rfl,rfl⟩,trivial⟩ ⟨fO ((uT (e:=eN) hlt (⟨jy 1 fS k p.f0.length,(aY bH p.f1 (k+1*p.f0.length)).1,p.f2⟩:SN) (fun q:T.Tb eN=>(⟨q.f0,q.f1,(aY dO p.f2 (aY bH p.f1 (k+1*p.f0.length)).2).1⟩:SN))).trans (Eq.trans (congrArg (fun z:SN × Nat=>List.set R i z.1) (sN p k).symm) hnext)),trivial⟩⟩
 ·have hk2:i=a.length:=Nat.le_antisymm hi (xU c hR)
  clear c hR
  subst hk2
  conv=>whnf
  refine Vc.of 1 hT ?_
  conv=>whnf
  exact wP.mk ⟨rfl,rfl⟩ ⟨⟨rfl,rfl⟩,rfl⟩ ⟨iv (by rw [List.take_length]),trivial⟩ ⟨show bU (T:=T) eN (jL (β:=SN) bH a k a.length) eN (aY (β:=SN) bH a k).1 from fO Gl,trivial⟩
theorem LG:∀(n:SN),Bd n→∀k,0<k→(aY bH n.f1 k).2≤4611686018427387904→CallWOb T Tryz.prog 103 [.c (.ow eN n.f1 eN (aY bH n.f1 k).1), .c (.c (.sc (.int .i64 (k:Int))))] (.c (.sc (.int .i64 ((aY bH n.f1 k).2:Int)))):=fun n hn k h0 hk=>
 PG n.f1 k hn.l1 (fun y hy=>⟨hn.kid y hy,LG y (hn.kid y hy)⟩) h0 hk
termination_by n=>SizeOf.sizeOf n
decreasing_by exact lY hy
theorem X6 (n:SN) (k:Nat) (hn:Bd n) (h0:0<k) (hk:(bH n k).2≤4611686018427387904):CallWOb T Tryz.prog 23 [.ag [.ow 9 n.f0 9 (bH n k).1.f0, .ow eN n.f1 eN (bH n k).1.f1, .ow eS n.f2 eS (bH n k).1.f2], .c (.c (.sc (.int .i64 (k:Int))))] (.c (.sc (.int .i64 ((bH n k).2:Int)))):=by
 rw [sN] at hk⊢
 have g1:=gU ku n.f1 (k+1*n.f0.length)
 have g2:=gU lq n.f2 (aY bH n.f1 (k+1*n.f0.length)).2
 have h1:=EU n.f0 k (Nat.le_trans hn.l0 (by decide)) h0 (Nat.le_trans (Nat.le_trans g1 g2) hk)
 have h2:=LG n hn (k+1*n.f0.length) (by omega) (Nat.le_trans g2 hk)
 have h3:=PE n.f2 (aY bH n.f1 (k+1*n.f0.length)).2 hn.l2 (by omega) hk
 refine rH hT Tryz.func23 (by kernel_rfl) rfl rfl (fun A=>?_)
 conv=>whnf
 refine ay.wr [[NW.wr 9 (jy 1 fS k n.f0.length)],[NW.rd]] (.c (.sc (.int .i64 ((k+1*n.f0.length:Nat):Int)))) ?_
 conv=>whnf
 refine jG.mk h1 ?_
 conv=>whnf
 refine ay.wr [[NW.wr eN (aY bH n.f1 (k+1*n.f0.length)).1],[NW.rd]] (.c (.sc (.int .i64 ((aY bH n.f1 (k+1*n.f0.length)).2:Int)))) ?_
 conv=>whnf
 refine jG.mk h2 ?_
 conv=>whnf
 refine ay.wr [[NW.wr eS (aY dO n.f2 (aY bH n.f1 (k+1*n.f0.length)).2).1],[NW.rd]] (.c (.sc (.int .i64 ((aY dO n.f2 (aY bH n.f1 (k+1*n.f0.length)).2).2:Int)))) ?_
 conv=>whnf
 refine jG.mk h3 ?_
 conv=>whnf
 exact wP.mk ⟨rfl,rfl⟩ ⟨⟨rfl,rfl⟩,rfl⟩ ⟨rfl,trivial⟩ ⟨rfl,rfl,rfl,trivial⟩
end Go.Proofs.YtcnfgfomholheaaGreatDoor.Q
end
section
namespace Go.Proofs.YtcnfgfomholheaaGreatDoor.Q
open Go.RowKit Go.Proofs.YtcnfgfomholheaaGreatDoor.Z
set_option linter.unusedVariables false
set_option linter.unusedSimpArgs false
set_option maxRecDepth 100000
set_option maxHeartbeats 4000000
theorem Ag {n:Nat} {q:Prop} (c:decide ((n:Int)<0)=true):q:=by have:=Jo c;omega
theorem Xa (n k:Nat) (hl:n≤140737488351232) (h0:0<k) (hk:k+1*n≤4611686018427387904):aG T Tryz.prog 133 [.c (.sl 5 (jy 1 fB k n)), .c (.sc (.int .i64 (k:Int)))] (.c (.sc (.int .i64 ((k+1*n:Nat):Int)))):=by
 refine aH hT Tryz.func133 (by kernel_rfl) rfl rfl (fun A=>?_)
 conv=>whnf
 refine dR.mk {i:Nat // i≤n} (fun p=>(0,[(5,i64 p.1),(1,i64 (k+1*p.1:Nat)),(0,im 5 (jy 1 fB k n))],[])) (fun p=>n - p.1) ⟨0,Nat.zero_le _⟩ (aC [] rfl rfl rfl ⟨⟨rfl,rfl⟩,⟨rfl,rfl⟩,⟨rfl,rfl⟩,trivial⟩ trivial) ?_
 rintro⟨i,hi⟩
 conv=>whnf
 refine Split.mk (fun c=>?_) (fun c=>?_)
 ·have hk2:i<n:=ET c nU
  clear c
  have hb:k+1*i+1≤4611686018427387904:=by omega
  conv=>whnf
  refine Need.mk (idx (Nat.lt_of_lt_of_eq hk2 nU.symm)) ?_
  conv=>whnf
  refine Split.mk (fun c=>(uY c (Sm (s:=1) (f:=fB) (k:=k) (d:=(0:Int)) hk2)).elim) (fun c=>?_)
  clear c
  conv=>whnf
  exact bM.mk ⟨⟨i+1,hk2⟩,Nat.sub_lt_sub_left hk2 (Nat.lt_succ_self i),aC [] rfl rfl rfl ⟨⟨rfl,congrArg i64 (dZ hk2 hl)⟩,⟨rfl,congrArg i64 (Ap (k:=k+1*i) (n:=1) (by omega) (by decide))⟩,⟨rfl,rfl⟩,trivial⟩ trivial⟩
 ·have hk2:i=n:=Nat.le_antisymm hi (xU c nU)
  clear c
  conv=>whnf
  subst hk2
  exact aA.mk ⟨rfl,rfl⟩ ⟨rfl,rfl⟩ ⟨rfl,trivial⟩
theorem EW (n k:Nat) (hl:n≤140737488351232) (h0:0<k) (hk:k+1*n≤4611686018427387904):aG T Tryz.prog 104 [.c (.sl 9 (jy 1 fS k n)), .c (.sc (.int .i64 (k:Int)))] (.c (.sc (.int .i64 ((k+1*n:Nat):Int)))):=by
 refine aH hT Tryz.func104 (by kernel_rfl) rfl rfl (fun A=>?_)
 conv=>whnf
 refine dR.mk {i:Nat // i≤n} (fun p=>(0,[(5,i64 p.1),(1,i64 (k+1*p.1:Nat)),(0,im 9 (jy 1 fS k n))],[])) (fun p=>n - p.1) ⟨0,Nat.zero_le _⟩ (aC [] rfl rfl rfl ⟨⟨rfl,rfl⟩,⟨rfl,rfl⟩,⟨rfl,rfl⟩,trivial⟩ trivial) ?_
 rintro⟨i,hi⟩
 conv=>whnf
 refine Split.mk (fun c=>?_) (fun c=>?_)
 ·have hk2:i<n:=ET c nU
  clear c
  have hb:k+1*i+1≤4611686018427387904:=by omega
  conv=>whnf
  refine Need.mk (idx (Nat.lt_of_lt_of_eq hk2 nU.symm)) ?_
  conv=>whnf
  refine ay.mk _ (ru (k+1*i) (by omega) (by omega)) ?_
  conv=>whnf
  refine bC.mk ⟨by kernel_rfl,by kernel_rfl⟩ ?_
  conv=>whnf
  refine Split.mk (fun c=>(JI c (Sm (s:=1) (f:=fS) (k:=k) (d:=ByteArray.empty) hk2)).elim) (fun c=>?_)
  clear c
  conv=>whnf
  exact bM.mk ⟨⟨i+1,hk2⟩,Nat.sub_lt_sub_left hk2 (Nat.lt_succ_self i),aC [] rfl rfl rfl ⟨⟨rfl,congrArg i64 (dZ hk2 hl)⟩,⟨rfl,congrArg i64 (Ap (k:=k+1*i) (n:=1) (by omega) (by decide))⟩,⟨rfl,rfl⟩,trivial⟩ trivial⟩
 ·have hk2:i=n:=Nat.le_antisymm hi (xU c nU)
  clear c
  conv=>whnf
  subst hk2
  exact aA.mk ⟨rfl,rfl⟩ ⟨rfl,rfl⟩ ⟨rfl,trivial⟩
theorem J5 {β:Type} {f:β→Nat→β × Nat} {a:List β} {k i:Nat} {d:β} (h:i<a.length):(aY f a k).1.getD i d=(f (a.getD i d) (aY f (a.take i) k).2).1:=by
 have e:a.getD i d=a[i]:=by simp [h]
 have h1:=Es (f:=f) (a.take i) (a.drop i) k
 rw [List.take_append_drop,List.drop_eq_getElem_cons h] at h1
 have hl:(aY f (a.take i) k).1.length=i:=by rw [rC,List.length_take];omega
 rw [h1,List.getD_eq_getElem?_getD,List.getElem?_append_right (by omega),hl,Nat.sub_self,e]
 rfl
theorem UN {e:Nat} {R:List (T.Tb e)} {i:Nat} {x:T.Tb e} (h:R.getD i (T.df e)=x) (C:T.Tb e→Prop) (hc:C x):C (bZ T e R i):=by
 rw [show bZ T e R i=x from h];exact hc
theorem k3_ {k:Nat} (h:k+3≤4611686018427387904):((k+3:Nat):Int)=wrap64 (wrap64 (wrap64 ((k:Int)+1)+1)+1):=by simp only [wrap64];omega
theorem ad8 {k:Nat} (h:k+2≤4611686018427387904):((k+2:Nat):Int)=wrap64 (wrap64 ((k:Int)+1)+1):=by simp only [wrap64];omega
theorem PI (a:List SS) (k:Nat) (ha:a.length≤2097152) (h0:0<k) (hk:(aY (β:=SS) dO a k).2≤4611686018427387904):aG T Tryz.prog 35 [.c (.sl eS (aY (β:=SS) dO a k).1), .c (.sc (.int .i64 (k:Int)))] (.c (.sc (.int .i64 ((aY (β:=SS) dO a k).2:Int)))):=by
 refine aH hT Tryz.func35 (by kernel_rfl) rfl rfl (fun A=>?_)
 conv=>whnf
 refine dR.mk {i:Nat // i≤a.length} (fun p=>(0,[(5,i64 p.1),(1,i64 ((aY (β:=SS) dO (a.take p.1) k).2:Nat)),(0,im eS (aY (β:=SS) dO a k).1)],[])) (fun p=>a.length - p.1) ⟨0,Nat.zero_le _⟩ (aC [] rfl rfl rfl ⟨⟨rfl,rfl⟩,⟨rfl,rfl⟩,⟨rfl,rfl⟩,trivial⟩ trivial) ?_
 rintro⟨i,hi⟩
 have hR:=rC (f:=dO) a k
 conv=>whnf
 refine Split.mk (fun c=>?_) (fun c=>?_)
 ·have hk2:i<a.length:=ET c hR
  clear c
  have hq:=gU (β:=SS) lq (a.take i) k
  have hg:=J5 (β:=SS) (f:=dO) (k:=k) (d:=T.df eS) hk2
  have hmk:=congrArg Prod.snd (oW (β:=SS) (f:=dO) (k:=k) (d:=T.df eS) hk2)
  have hkb:=Nat.le_trans (rD (β:=SS) (f:=dO) (a:=a) (k:=k) lq (i+1)) hk
  rw [hmk] at hkb
  have hp:=getD_mem (α:=SS) (d:=T.df eS) hk2
  dsimp only at hkb
  generalize (aY (β:=SS) dO (a.take i) k).2=k2 at hq hg hmk hkb⊢
  generalize a.getD i (T.df eS)=p at hg hmk hkb hp⊢
  have hk1:0<k2:=by omega
  generalize hrw:(aY (β:=SS) dO a k).1=R at hg hR⊢
  have hlt:i<R.length:=by omega
  conv=>whnf
  refine Need.mk (idx hlt) ?_
  conv=>whnf
  refine ay.mk _ (ru k2 (by omega) (by simp only [dO] at hkb;omega)) ?_
  conv=>whnf
  refine bC.mk ⟨by kernel_rfl,by kernel_rfl⟩ ?_
  conv=>whnf
  refine Split.mk (fun c=>(JI c (congrArg (fun z:SS=>z.f0) hg)).elim) (fun c=>?_)
  clear c
  conv=>whnf
  refine Need.mk (idx hlt) ?_
  conv=>whnf
  refine Split.mk (fun c=>(uY c ((congrArg (fun z:SS=>z.f1) hg).trans (Ap (k:=k2) (n:=1) (by simp only [dO] at hkb;omega) (by decide)))).elim) (fun c=>?_)
  clear c
  conv=>whnf
  refine Need.mk (idx hlt) ?_
  conv=>whnf
  refine Split.mk (fun c=>(uY c ((congrArg (fun z:SS=>z.f2) hg).trans (ad8 (k:=k2) (by simp only [dO] at hkb;omega)))).elim) (fun c=>?_)
  clear c
  conv=>whnf
  exact bM.mk ⟨⟨i+1,hk2⟩,Nat.sub_lt_sub_left hk2 (Nat.lt_succ_self i),aC [] rfl rfl rfl ⟨⟨rfl,congrArg i64 (dZ hk2 (by omega))⟩,⟨rfl,congrArg i64 ((congrArg (fun x:Nat=>(x:Int)) (hmk)).trans (k3_ (k:=k2) (by simp only [dO] at hkb;omega)))⟩,⟨rfl,rfl⟩,trivial⟩ trivial⟩
 ·have hk2:i=a.length:=Nat.le_antisymm hi (xU c hR)
  clear c
  conv=>whnf
  subst hk2
  exact aA.mk ⟨rfl,rfl⟩ ⟨rfl,rfl⟩ ⟨iv (by rw [List.take_length]),trivial⟩
theorem VG (a:List SK) (k:Nat) (ha:a.length≤2097152) (hy:∀y∈a,y.f1.length≤2097152) (h0:0<k) (hk:(aY (β:=SK) eu a k).2≤4611686018427387904):aG T Tryz.prog 68 [.c (.sl eK (aY (β:=SK) eu a k).1), .c (.sc (.int .i64 (k:Int)))] (.c (.sc (.int .i64 ((aY (β:=SK) eu a k).2:Int)))):=by
 refine aH hT Tryz.func68 (by kernel_rfl) rfl rfl (fun A=>?_)
 conv=>whnf
 refine dR.mk {i:Nat // i≤a.length} (fun p=>(0,[(5,i64 p.1),(1,i64 ((aY (β:=SK) eu (a.take p.1) k).2:Nat)),(0,im eK (aY (β:=SK) eu a k).1)],[])) (fun p=>a.length - p.1) ⟨0,Nat.zero_le _⟩ (aC [] rfl rfl rfl ⟨⟨rfl,rfl⟩,⟨rfl,rfl⟩,⟨rfl,rfl⟩,trivial⟩ trivial) ?_
 rintro⟨i,hi⟩
 have hR:=rC (f:=eu) a k
 conv=>whnf
 refine Split.mk (fun c=>?_) (fun c=>?_)
 ·have hk2:i<a.length:=ET c hR
  clear c
  have hq:=gU (β:=SK) qN (a.take i) k
  have hg:=J5 (β:=SK) (f:=eu) (k:=k) (d:=T.df eK) hk2
  have hmk:=congrArg Prod.snd (oW (β:=SK) (f:=eu) (k:=k) (d:=T.df eK) hk2)
  have hkb:=Nat.le_trans (rD (β:=SK) (f:=eu) (a:=a) (k:=k) qN (i+1)) hk
  rw [hmk] at hkb
  have hp:=getD_mem (α:=SK) (d:=T.df eK) hk2
  have hpb:=hy _ hp
  dsimp only at hkb
  generalize (aY (β:=SK) eu (a.take i) k).2=k2 at hq hg hmk hkb⊢
  generalize a.getD i (T.df eK)=p at hg hmk hkb hp hpb⊢
  have hk1:0<k2:=by omega
  generalize hrw:(aY (β:=SK) eu a k).1=R at hg hR⊢
  have hlt:i<R.length:=by omega
  conv=>whnf
  refine Need.mk (idx hlt) ?_
  conv=>whnf
  refine ay.mk _ (ru k2 (by omega) (by simp only [eu] at hkb;omega)) ?_
  conv=>whnf
  refine bC.mk ⟨by kernel_rfl,by kernel_rfl⟩ ?_
  conv=>whnf
  refine Split.mk (fun c=>(JI c (congrArg (fun z:SK=>z.f0) hg)).elim) (fun c=>?_)
  clear c
  conv=>whnf
  refine Need.mk (idx hlt) ?_
  conv=>whnf
  refine ay.mk (.c (.sc (.int .i64 (((k2+1+1*p.f1.length):Nat):Int)))) (UN (e:=eK) hg (fun q=>aG T Tryz.prog 133 [.c (.sl 5 q.f1), .c (.sc (.int .i64 (wrap64 ((k2:Int)+1))))] (.c (.sc (.int .i64 (((k2+1+1*p.f1.length):Nat):Int))))) (by have h:=Xa p.f1.length (k2+1) (Nat.le_trans hpb (by decide)) (by omega) (by simp only [eu] at hkb;omega);rw [Ap (k:=k2) (n:=1) (by simp only [eu] at hkb;omega) (by decide)] at h;exact h)) ?_
  conv=>whnf
  refine Split.mk (fun c=>Ag c) (fun c=>?_)
  clear c
  conv=>whnf
  refine Need.mk (idx hlt) ?_
  conv=>whnf
  refine Split.mk (fun c=>(uY c ((congrArg (fun z:SK=>z.f2) hg).trans rfl)).elim) (fun c=>?_)
  clear c
  conv=>whnf
  exact bM.mk ⟨⟨i+1,hk2⟩,Nat.sub_lt_sub_left hk2 (Nat.lt_succ_self i),aC [] rfl rfl rfl ⟨⟨rfl,congrArg i64 (dZ hk2 (by omega))⟩,⟨rfl,congrArg i64 ((congrArg (fun x:Nat=>(x:Int)) (hmk)).trans (Ap (k:=(k2+1+1*p.f1.length)) (n:=1) (by simp only [eu] at hkb;omega) (by decide)))⟩,⟨rfl,rfl⟩,trivial⟩ trivial⟩
 ·have hk2:i=a.length:=Nat.le_antisymm hi (xU c hR)
  clear c
  conv=>whnf
  subst hk2
  exact aA.mk ⟨rfl,rfl⟩ ⟨rfl,rfl⟩ ⟨iv (by rw [List.take_length]),trivial⟩
theorem PK (a:List SN) (k:Nat) (ha:a.length≤2097152) (hy:∀y∈a,Bd y∧∀k,0<k→(aY bH y.f1 k).2≤4611686018427387904→aG T Tryz.prog 105 [.c (.sl eN (aY bH y.f1 k).1), .c (.sc (.int .i64 (k:Int)))] (.c (.sc (.int .i64 ((aY bH y.f1 k).2:Int))))) (h0:0<k) (hk:(aY (β:=SN) bH a k).2≤4611686018427387904):aG T Tryz.prog 105 [.c (.sl eN (aY (β:=SN) bH a k).1), .c (.sc (.int .i64 (k:Int)))] (.c (.sc (.int .i64 ((aY (β:=SN) bH a k).2:Int)))):=by
 refine aH hT Tryz.func105 (by kernel_rfl) rfl rfl (fun A=>?_)
 conv=>whnf
 refine dR.mk {i:Nat // i≤a.length} (fun p=>(0,[(5,i64 p.1),(1,i64 ((aY (β:=SN) bH (a.take p.1) k).2:Nat)),(0,im eN (aY (β:=SN) bH a k).1)],[])) (fun p=>a.length - p.1) ⟨0,Nat.zero_le _⟩ (aC [] rfl rfl rfl ⟨⟨rfl,rfl⟩,⟨rfl,rfl⟩,⟨rfl,rfl⟩,trivial⟩ trivial) ?_
 rintro⟨i,hi⟩
 have hR:=rC (f:=bH) a k
 conv=>whnf
 refine Split.mk (fun c=>?_) (fun c=>?_)
 ·have hk2:i<a.length:=ET c hR
  clear c
  have hq:=gU (β:=SN) ku (a.take i) k
  have hg:=J5 (β:=SN) (f:=bH) (k:=k) (d:=T.df eN) hk2
  have hmk:=congrArg Prod.snd (oW (β:=SN) (f:=bH) (k:=k) (d:=T.df eN) hk2)
  have hkb:=Nat.le_trans (rD (β:=SN) (f:=bH) (a:=a) (k:=k) ku (i+1)) hk
  rw [hmk] at hkb
  have hp:=getD_mem (α:=SN) (d:=T.df eN) hk2
  have hpb:=hy _ hp
  rw [sN] at hkb hg
  dsimp only at hkb
  generalize (aY (β:=SN) bH (a.take i) k).2=k2 at hq hg hmk hkb⊢
  generalize a.getD i (T.df eN)=p at hg hmk hkb hp hpb⊢
  have hk1:0<k2:=by omega
  generalize hrw:(aY (β:=SN) bH a k).1=R at hg hR⊢
  have hlt:i<R.length:=by omega
  conv=>whnf
  refine Need.mk (idx hlt) ?_
  conv=>whnf
  refine ay.mk (.c (.sc (.int .i64 (((k2+1*p.f0.length):Nat):Int)))) (UN (e:=eN) hg (fun q=>aG T Tryz.prog 104 [.c (.sl 9 q.f0), .c (.sc (.int .i64 ((k2:Nat))))] (.c (.sc (.int .i64 (((k2+1*p.f0.length):Nat):Int))))) (EW p.f0.length k2 (Nat.le_trans hpb.1.l0 (by decide)) (by omega) (Nat.le_trans (Nat.le_trans (gU ku p.f1 _) (gU lq p.f2 _)) hkb))) ?_
  conv=>whnf
  refine Split.mk (fun c=>Ag c) (fun c=>?_)
  clear c
  conv=>whnf
  refine Need.mk (idx hlt) ?_
  conv=>whnf
  refine ay.mk (.c (.sc (.int .i64 (((aY bH p.f1 (k2+1*p.f0.length)).2:Nat):Int)))) (UN (e:=eN) hg (fun q=>aG T Tryz.prog 105 [.c (.sl eN q.f1), .c (.sc (.int .i64 (((k2+1*p.f0.length):Nat))))] (.c (.sc (.int .i64 (((aY bH p.f1 (k2+1*p.f0.length)).2:Nat):Int))))) (hpb.2 ((k2+1*p.f0.length)) (by omega) (Nat.le_trans (gU lq p.f2 _) hkb))) ?_
  conv=>whnf
  refine Split.mk (fun c=>Ag c) (fun c=>?_)
  clear c
  conv=>whnf
  refine Need.mk (idx hlt) ?_
  conv=>whnf
  refine ay.mk (.c (.sc (.int .i64 (((aY dO p.f2 (aY bH p.f1 (k2+1*p.f0.length)).2).2:Nat):Int)))) (UN (e:=eN) hg (fun q=>aG T Tryz.prog 35 [.c (.sl eS q.f2), .c (.sc (.int .i64 (((aY bH p.f1 (k2+1*p.f0.length)).2:Nat))))] (.c (.sc (.int .i64 (((aY dO p.f2 (aY bH p.f1 (k2+1*p.f0.length)).2).2:Nat):Int))))) (PI p.f2 ((aY bH p.f1 (k2+1*p.f0.length)).2) hpb.1.l2 (Nat.lt_of_lt_of_le (show 0<k2+1*p.f0.length by omega) (gU ku _ _)) hkb)) ?_
  conv=>whnf
  refine Split.mk (fun c=>Ag c) (fun c=>?_)
  clear c
  conv=>whnf
  exact bM.mk ⟨⟨i+1,hk2⟩,Nat.sub_lt_sub_left hk2 (Nat.lt_succ_self i),aC [] rfl rfl rfl ⟨⟨rfl,congrArg i64 (dZ hk2 (by omega))⟩,⟨rfl,congrArg i64 ((congrArg (fun x:Nat=>(x:Int)) (hmk.trans (show(bH p k2).2=_ from congrArg Prod.snd (sN p k2)))).trans (rfl))⟩,⟨rfl,rfl⟩,trivial⟩ trivial⟩
 ·have hk2:i=a.length:=Nat.le_antisymm hi (xU c hR)
  clear c
  conv=>whnf
  subst hk2
  exact aA.mk ⟨rfl,rfl⟩ ⟨rfl,rfl⟩ ⟨iv (by rw [List.take_length]),trivial⟩
theorem LH:∀(n:SN),Bd n→∀k,0<k→(aY bH n.f1 k).2≤4611686018427387904→aG T Tryz.prog 105 [.c (.sl eN (aY bH n.f1 k).1), .c (.sc (.int .i64 (k:Int)))] (.c (.sc (.int .i64 ((aY bH n.f1 k).2:Int)))):=fun n hn k h0 hk=>
 PK n.f1 k hn.l1 (fun y hy=>⟨hn.kid y hy,LH y (hn.kid y hy)⟩) h0 hk
termination_by n=>SizeOf.sizeOf n
decreasing_by exact lY hy
theorem X8 (n:SN) (k:Nat) (hn:Bd n) (h0:0<k) (hk:(bH n k).2≤4611686018427387904):aG T Tryz.prog 24 [.ag [.sl 9 (bH n k).1.f0, .sl eN (bH n k).1.f1, .sl eS (bH n k).1.f2], .c (.sc (.int .i64 (k:Int)))] (.c (.sc (.int .i64 ((bH n k).2:Int)))):=by
 rw [sN] at hk⊢
 have g1:=gU ku n.f1 (k+1*n.f0.length)
 have g2:=gU lq n.f2 (aY bH n.f1 (k+1*n.f0.length)).2
 have h1:=EW n.f0.length k (Nat.le_trans hn.l0 (by decide)) h0 (Nat.le_trans (Nat.le_trans g1 g2) hk)
 have h2:=LH n hn (k+1*n.f0.length) (by omega) (Nat.le_trans g2 hk)
 have h3:=PI n.f2 (aY bH n.f1 (k+1*n.f0.length)).2 hn.l2 (by omega) hk
 refine aH hT Tryz.func24 (by kernel_rfl) rfl rfl (fun A=>?_)
 conv=>whnf
 refine ay.mk _ h1 ?_
 conv=>whnf
 refine Split.mk (fun c=>Ag c) (fun c=>?_)
 clear c
 conv=>whnf
 refine ay.mk _ h2 ?_
 conv=>whnf
 refine Split.mk (fun c=>Ag c) (fun c=>?_)
 clear c
 conv=>whnf
 refine ay.mk _ h3 ?_
 conv=>whnf
 refine Split.mk (fun c=>Ag c) (fun c=>?_)
 clear c
 conv=>whnf
 exact aA.mk ⟨rfl,rfl⟩ ⟨rfl,rfl⟩ ⟨rfl,trivial⟩
end Go.Proofs.YtcnfgfomholheaaGreatDoor.Q
end
section
namespace Go.Proofs.YtcnfgfomholheaaGreatDoor.Q
open Go.RowKit Go.Proofs.YtcnfgfomholheaaGreatDoor.Z Go.Proofs.YtcnfgfomholheaaGreatDoor.X Go.Proofs.YtcnfgfomholheaaGreatDoor.Pure
set_option linter.unusedVariables false
set_option linter.unusedSimpArgs false
abbrev NI:=SN
abbrev SI:=SS
abbrev EI:=SE
theorem YP (b:Nat) (h:Lib.firstT b % 8=2∨Lib.firstT b % 8=3∨Lib.firstT b % 8=4):128≤Lib.accLo (Lib.firstT b / 16):=by
 unfold Lib.firstT at h⊢
 unfold Lib.accLo
 repeat' split at h
 all_goals first | (exfalso;omega) | (simp [*];done) | (simp [*];omega)
theorem PL (a b:List UInt8) (i:Nat) (h:i<a.length):(a++47::b).getD i 0=a.getD i 0:=by
 rw [List.getD_eq_getElem?_getD,List.getD_eq_getElem?_getD,List.getElem?_append_left h]
theorem PN (a b:List UInt8) (i:Nat) (h:i=a.length):(a++47::b).getD i 0=47:=by
 subst h
 rw [List.getD_eq_getElem?_getD,List.getElem?_append_right (Nat.le_refl _)]
 simp
theorem YQ (a b:List UInt8) (k:Nat) (h:k≤a.length):(a++47::b).drop k=a.drop k++47::b:=List.drop_append_of_le_length h
theorem Xb (a b:List UInt8) (h0:0<a.length) (sz lo hi k:Nat) (hlo:sz=2∨sz=3∨sz=4→128≤lo)
  (h:Lib.checkN (a++47::b).length ((a++47::b).getD 1 0).toNat ((a++47::b).getD 2 0).toNat ((a++47::b).getD 3 0).toNat sz lo hi=some k):
  k≤a.length∧1≤k∧Lib.checkN a.length (a.getD 1 0).toNat (a.getD 2 0).toNat (a.getD 3 0).toNat sz lo hi=some k:=by
 have e47:(47:UInt8).toNat=47:=rfl
 have at1:a.length=1→((a++47::b).getD 1 0).toNat=47:=fun e=>by rw [PN a b 1 e.symm];rfl
 have at2:a.length=2→((a++47::b).getD 2 0).toNat=47:=fun e=>by rw [PN a b 2 e.symm];rfl
 have at3:a.length=3→((a++47::b).getD 3 0).toNat=47:=fun e=>by rw [PN a b 3 e.symm];rfl
 have in1:1<a.length→(a++47::b).getD 1 0=a.getD 1 0:=fun e=>PL a b 1 e
 have in2:2<a.length→(a++47::b).getD 2 0=a.getD 2 0:=fun e=>PL a b 2 e
 have in3:3<a.length→(a++47::b).getD 3 0=a.getD 3 0:=fun e=>PL a b 3 e
 unfold Lib.checkN at h⊢
 by_cases c1:sz=2
 ·have hlo:=hlo (.inl c1)
  rw [if_pos c1] at h⊢
  split at h
  ·cases h
  ·rename_i q
   obtain rfl:k=2:=by injection h with h;exact h.symm
   have l1:a.length≠1:=fun e=>by have:=at1 e;omega
   have:=in1 (by omega)
   rw [this] at q
   refine⟨by omega,by omega,?_⟩
   rw [if_neg (by omega)]
 rw [if_neg c1] at h⊢
 by_cases c2:sz=3
 ·have hlo:=hlo (.inr (.inl c2))
  rw [if_pos c2] at h⊢
  split at h
  ·cases h
  ·rename_i q
   obtain rfl:k=3:=by injection h with h;exact h.symm
   have l1:a.length≠1:=fun e=>by have:=at1 e;omega
   have l2:a.length≠2:=fun e=>by have:=at2 e;omega
   have e1:=in1 (by omega)
   have e2:=in2 (by omega)
   rw [e1,e2] at q
   refine⟨by omega,by omega,?_⟩
   rw [if_neg (by omega)]
 rw [if_neg c2] at h⊢
 by_cases c3:sz=4
 ·have hlo:=hlo (.inr (.inr c3))
  rw [if_pos c3] at h⊢
  split at h
  ·cases h
  ·rename_i q
   obtain rfl:k=4:=by injection h with h;exact h.symm
   have l1:a.length≠1:=fun e=>by have:=at1 e;omega
   have l2:a.length≠2:=fun e=>by have:=at2 e;omega
   have l3:a.length≠3:=fun e=>by have:=at3 e;omega
   have e1:=in1 (by omega)
   have e2:=in2 (by omega)
   have e3:=in3 (by omega)
   rw [e1,e2,e3] at q
   refine⟨by omega,by omega,?_⟩
   rw [if_neg (by omega)]
 ·rw [if_neg c3] at h
  cases h
theorem Dh:∀(n:Nat) (a b:List UInt8),a.length≤n→Lib.validD (a++47::b)=true→Lib.validD a=true∧Lib.validD b=true
 | n,[],b,_,h=>⟨rfl,by rw [←Lib.validD_cons 47 b (by decide)];exact h⟩
 | 0,x::t,b,hn,h=>by simp at hn
 | n+1,x::t,b,hn,h=>by
   have hn':t.length≤n:=by simpa using hn
   by_cases hx:x.toNat<128
   ·rw [List.cons_append,Lib.validD_cons x _ hx] at h
    rw [Lib.validD_cons x t hx]
    exact Dh n t b hn' h
   ·have h128:128≤(((x::t)++47::b).getD 0 0).toNat:=by show 128≤x.toNat;omega
    have h128':128≤((x::t).getD 0 0).toNat:=by show 128≤x.toNat;omega
    have hg:((x::t)++47::b).getD 0 0=(x::t).getD 0 0:=rfl
    rw [Lib.validD_lead _ (by simp) h128,hg] at h
    split at h
    ·cases h
    ·rename_i k hk
     obtain⟨hk1,hk2,hk3⟩:=Xb (x::t) b (by simp) _ _ _ k (YP _) hk
     rw [YQ _ _ _ hk1] at h
     have hl:((x::t).drop k).length≤n:=by rw [List.length_drop,List.length_cons];omega
     obtain⟨i1,i2⟩:=Dh n ((x::t).drop k) b hl h
     refine⟨?_,i2⟩
     rw [Lib.validD_lead _ (by simp) h128',hk3]
     exact i1
theorem YR (n b0 b1 b2 b3:Nat):(Lib.decodeN n b0 b1 b2 b3).1=0↔b0=0:=by
 unfold Lib.decodeN
 repeat' split
 all_goals first | (simp only [];omega) | (constructor<;>intro h<;>first | omega | (simp at h;omega))
theorem YS (n b0 b1 b2 b3:Nat):1≤(Lib.decodeN n b0 b1 b2 b3).2∧(Lib.decodeN n b0 b1 b2 b3).2≤4∧(2≤(Lib.decodeN n b0 b1 b2 b3).2→128≤b1)∧(3≤(Lib.decodeN n b0 b1 b2 b3).2→128≤b2)∧(4≤(Lib.decodeN n b0 b1 b2 b3).2→128≤b3):=by
 unfold Lib.decodeN
 repeat' split
 all_goals (refine⟨?_,?_,?_,?_,?_⟩<;>simp only []<;>omega)
theorem IG (s:ByteArray):∀(b pos:Nat),s.size≤pos+b→(kE s b pos=true↔∀j,pos≤j→j<s.size→(s.get! j).toNat≠0)
 | 0,pos,h=>by
   constructor
   ·intro _ j h1 h2
    omega
   ·intro _
    rfl
 | b+1,pos,h=>by
   unfold kE
   by_cases hp:pos<s.size
   ·rw [if_pos hp]
    have e:=Lib.decode_at s pos
    have hz:=YR (s.size - pos) (s.get! pos).toNat (s.get! (pos+1)).toNat (s.get! (pos+2)).toNat (s.get! (pos+3)).toNat
    obtain⟨w1,w4,t1,t2,t3⟩:=YS (s.size - pos) (s.get! pos).toNat (s.get! (pos+1)).toNat (s.get! (pos+2)).toNat (s.get! (pos+3)).toNat
    rw [←e] at hz w1 w4 t1 t2 t3
    by_cases h0:(Utf8.decode s pos).1=0
    ·rw [if_pos h0]
     constructor
     ·intro q
      cases q
     ·intro q
      exact absurd (hz.1 h0) (q pos (Nat.le_refl _) hp)
    ·rw [if_neg h0,IG s b _ (by omega)]
     constructor
     ·intro q j h1 h2
      by_cases hj:pos+(Utf8.decode s pos).2≤j
      ·exact q j hj h2
      ·have:j=pos∨j=pos+1∨j=pos+2∨j=pos+3:=by omega
       rcases this with rfl | rfl | rfl | rfl
       ·exact fun hh=>h0 (hz.2 hh)
       ·have:=t1 (by omega);omega
       ·have:=t2 (by omega);omega
       ·have:=t3 (by omega);omega
     ·intro q j h1 h2
      exact q j (by omega) h2
   ·rw [if_neg hp]
    constructor
    ·intro _ j h1 h2
     omega
    ·intro _
     rfl
theorem tail_cons (y:List UInt8) (r:List (List UInt8)):Lib.joinTail [47] (y::r)=47::(y++Lib.joinTail [47] r):=by simp [Lib.joinTail]
theorem II:∀(t:List (List UInt8)) (x:List UInt8),Lib.validD (x++Lib.joinTail [47] t)=true→∀y∈x::t,Lib.validD y=true
 | [],x,h,y,hy=>by
   have:y=x:=by simpa using hy
   subst this
   simpa [Lib.joinTail] using h
 | z::t,x,h,y,hy=>by
   rw [tail_cons] at h
   obtain⟨h1,h2⟩:=Dh _ x _ (Nat.le_refl _) h
   rcases List.mem_cons.1 hy with rfl | hy
   ·exact h1
   ·exact II t z h2 y hy
theorem PO:∀(t:List (List UInt8)) (x:List UInt8) (b:UInt8),∀y∈x::t,b∈y→b∈x++Lib.joinTail [47] t
 | [],x,b,y,hy,hb=>by
   have:y=x:=by simpa using hy
   subst this
   simp [hb]
 | z::t,x,b,y,hy,hb=>by
   rw [tail_cons]
   rcases List.mem_cons.1 hy with rfl | hy
   ·simp [hb]
   ·have:=PO t z b y hy hb
    simp only [List.mem_append,List.mem_cons] at this⊢
    exact .inr (.inr this)
theorem LJ:∀(t:List (List UInt8)) (x:List UInt8),∀y∈x::t,y.length≤(x++Lib.joinTail [47] t).length
 | [],x,y,hy=>by
   have:y=x:=by simpa using hy
   subst this
   simp
 | z::t,x,y,hy=>by
   rw [tail_cons]
   rcases List.mem_cons.1 hy with rfl | hy
   ·simp
   ·have:=LJ t z y hy
    simp only [List.length_append,List.length_cons] at this⊢
    omega
theorem zU (s:ByteArray):fF s=true↔(0:UInt8)∉dl s∧Lib.validD (dl s)=true∧s.size≤60:=by
 unfold fF
 rw [Bool.and_eq_true,Bool.and_eq_true,decide_eq_true_eq,IG s s.size 0 (by omega)]
 have e:(∀j,0≤j→j<s.size→(s.get! j).toNat≠0)↔(0:UInt8)∉dl s:=by
  have g:∀(j:Nat) (h:j<(dl s).length),s.get! j=(dl s)[j]:=by
   intro j h
   have h2:j<s.data.size:=by rw [lu] at h;exact h
   show s.data[j]! =_
   rw [getElem!_pos s.data j h2]
   rfl
  constructor
  ·intro h m
   obtain⟨j,hj,e⟩:=List.mem_iff_getElem.1 m
   refine h j (Nat.zero_le _) (by rw [lu] at hj;exact hj) ?_
   rw [g j hj,e]
   rfl
  ·intro h j _ hj hz
   have hj':j<(dl s).length:=by rw [lu];exact hj
   rw [g j hj'] at hz
   refine h ?_
   have:(dl s)[j]=0:=UInt8.toNat_inj.1 hz
   rw [←this]
   exact List.getElem_mem hj'
 rw [e]
def dB (p:List ByteArray):ByteArray:=⟨(Lib.join (p.map dl) [47]).toArray⟩
theorem wC (p:List ByteArray):dl (dB p)=Lib.join (p.map dl) [47]:=rfl
theorem IJ (p:List ByteArray):(dB p).size=(Lib.join (p.map dl) [47]).length:=by rw [←lu,wC]
theorem PS (p:List ByteArray) (h:fF (dB p)=true):∀x∈p,fF x=true:=by
 intro x hx
 obtain⟨h1,h2,h3⟩:=(zU _).1 h
 cases p with
 | nil=>cases hx
 | cons y t=>
   rw [wC,List.map_cons,Lib.join_cons] at h1 h2
   rw [IJ,List.map_cons,Lib.join_cons] at h3
   have hm:dl x∈dl y::t.map dl:=by rw [←List.map_cons];exact List.mem_map_of_mem hx
   refine(zU x).2 ⟨fun m=>h1 (PO _ _ 0 _ hm m),II _ _ h2 _ hm,?_⟩
   have:=LJ (t.map dl) (dl y) _ hm
   rw [lu] at this
   omega
theorem Xc (x:ByteArray):dB [x]=x:=by
 refine Go.WideShapes.bytes_inj ?_
 show dl (dB [x])=dl x
 rw [wC]
 exact Lib.join_one _ _
theorem UO (p:List ByteArray) (hp:p≠[]) (x:ByteArray):dB (p++[x])=(dB p++(⟨#[47]⟩:ByteArray))++x:=by
 refine Go.WideShapes.bytes_inj ?_
 show dl (dB (p++[x]))=dl ((dB p++(⟨#[47]⟩:ByteArray))++x)
 have ap:∀a b:ByteArray,dl (a++b)=dl a++dl b:=fun a b=>by
  unfold dl
  rw [ByteArray.data_append,Array.toList_append]
 rw [ap,ap,wC,wC]
 cases p with
 | nil=>exact absurd rfl hp
 | cons y t=>
   rw [List.cons_append,List.map_cons,List.map_append,Lib.join_cons,show(y::t).map dl=dl y::t.map dl from rfl,Lib.join_cons]
   have e:∀l:List (List UInt8),Lib.joinTail [47] (l++[dl x])=Lib.joinTail [47] l++[47]++dl x:=fun l=>by simp [Lib.joinTail]
   show dl y++Lib.joinTail [47] (t.map dl++[dl x])=_
   rw [e]
   simp [List.append_assoc]
   rfl
theorem YT (m:Nat):∀(p:List ByteArray),(∀x∈p,x.size≤m)→(dB p).size≤p.length*(m+1):=by
 intro p h
 rw [IJ]
 cases p with
 | nil=>simp [Lib.join_nil]
 | cons y t=>
   have aux:∀(t:List ByteArray),(∀x∈t,x.size≤m)→(Lib.joinTail [47] (t.map dl)).length≤t.length*(m+1):=by
    intro t
    induction t with
    | nil=>intro _;simp [Lib.joinTail]
    | cons z t ih=>
      intro h
      have h1:=h z List.mem_cons_self
      have h2:=ih (fun x hx=>h x (List.mem_cons_of_mem _ hx))
      rw [List.map_cons,tail_cons,List.length_cons,List.length_append,lu,List.length_cons,Nat.succ_mul]
      omega
   have h1:=h y List.mem_cons_self
   have h2:=aux t (fun x hx=>h x (List.mem_cons_of_mem _ hx))
   rw [List.map_cons,Lib.join_cons,List.length_append,lu,List.length_cons,Nat.succ_mul]
   omega
mutual
def cnt:NI→Nat
 | ⟨a,b,c⟩=>a.length+c.length+sW b
def sW:List NI→Nat
 | []=>0
 | k::r=>cnt k+sW r
end
theorem abf (n:NI):cnt n=n.f0.length+n.f2.length+sW n.f1:=by cases n;rw [cnt]
def nameP (s:ByteArray):Bool:=fF s && !(dl s).isEmpty
def lT (x:SI):Bool:=nameP x.f0 && ((decide (0≤x.f1) && decide (x.f1≤2)) && decide (x.f2≥0))
def lC (x:ByteArray):Bool:=(fZ x && !(dl x).contains 47) || (dl x).isEmpty
def mO:Option ByteArray→ByteArray→Bool
 | none,_=>true
 | some y,x=>Op.bytesLess y.toList x.toList
def xA:Option ByteArray→List SI→Bool
 | _,[]=>true
 | y,s::r=>lT s && (mO y s.f0 && xA (some s.f0) r)
def rX (l:List SI):Bool:=xA none l
def kT (x:ByteArray):Bool:=decide (x.toList=([35]:List UInt8))
mutual
def okS:Nat→NI→Bool
 | d,⟨ns,ks,ss⟩=>decide (ns.length=ks.length) && (!(decide (0<ns.length) && decide (d=6)) && (rX ss && lU d ns none ks))
def lU:Nat→List ByteArray→Option ByteArray→List NI→Bool
 | d,x::r,p,k::q=>lC x && (mO p x && (!(decide (k.f0.length=0) && decide (k.f2.length=0)) && (!(kT x && !decide (k.f0.length=0)) && (okS (d+1) k && lU d r (some x) q))))
 | _,_,_,_=>true
end
theorem IK (d:Nat) (n:NI):okS d n=(decide (n.f0.length=n.f1.length) && (!(decide (0<n.f0.length) && decide (d=6)) && (rX n.f2 && lU d n.f0 none n.f1))):=by
 cases n;rw [okS]
mutual
def yH:Nat→ByteArray→NI→Bool
 | d,a,⟨ns,ks,ss⟩=>!(decide (0<d) && (decide (0<ss.length) && !fZ a)) && oZ d a ns ks
def oZ:Nat→ByteArray→List ByteArray→List NI→Bool
 | d,a,x::r,k::q=>yH (d+1) (if 0<d then (a++(⟨#[47]⟩:ByteArray))++x else x) k && oZ d a r q
 | _,_,_,_=>true
end
theorem Xd (d:Nat) (a:ByteArray) (n:NI):yH d a n=(!(decide (0<d) && (decide (0<n.f2.length) && !fZ a)) && oZ d a n.f0 n.f1):=by
 cases n;rw [yH]
theorem ace (s:ByteArray):(s.toList==([]:List UInt8))=(dl s).isEmpty:=by
 rw [Bool.eq_iff_iff,beq_iff_eq]
 exact uG s
def Jk (x:ByteArray) (k:NI):Bool:=decide ((iR (dl x)).length≤1) && jH (dl x) (decide (k.f1.length=0))
mutual
def okI:List ByteArray→NI→Bool
 | p,⟨ns,ks,ss⟩=>decide (ns.length=ks.length) && (decide (p.length≤6) && (rX ss && ((decide (ss.length=0) || fZ (dB p)) && lK p ns none ks)))
def lK:List ByteArray→List ByteArray→Option ByteArray→List NI→Bool
 | p,x::r,y,k::q=>mO y x && (Jk x k && (!(decide (k.f1.length=0) && decide (k.f2.length=0)) && (okI (p++[x]) k && lK p r (some x) q)))
 | _,_,_,_=>true
end
theorem Xe (p:List ByteArray) (n:NI):okI p n=(decide (n.f0.length=n.f1.length) && (decide (p.length≤6) && (rX n.f2 && ((decide (n.f2.length=0) || fZ (dB p)) && lK p n.f0 none n.f1)))):=by
 cases n;rw [okI]
theorem PU (d:Nat):∀(ns:List ByteArray) (pr:Option ByteArray) (ks:List NI),ns.length=ks.length→lU d ns pr ks=true→∀k∈ks,okS (d+1) k=true
 | [],pr,[],_,_,k,hk=>by cases hk
 | [],pr,_::_,e,_,k,hk=>by simp at e
 | _::_,pr,[],e,_,k,hk=>by cases hk
 | x::r,pr,y::q,e,h,k,hk=>by
   rw [lU] at h
   simp only [Bool.and_eq_true] at h
   obtain⟨_,_,_,_,h1,h2⟩:=h
   rcases List.mem_cons.1 hk with rfl | hk
   ·exact h1
   ·exact PU d r (some x) q (by simpa using e) h2 k hk
theorem sO {d:Nat} {n:NI} (h:okS d n=true):n.f0.length=n.f1.length∧(0<n.f0.length→d≠6)∧rX n.f2=true∧lU d n.f0 none n.f1=true:=by
 rw [IK] at h
 simp only [Bool.and_eq_true,decide_eq_true_eq,Bool.not_eq_true',Bool.and_eq_false_iff,decide_eq_false_iff_not] at h
 obtain⟨h1,h2,h3,h4⟩:=h
 exact⟨h1,fun q=>by rcases h2 with h2 | h2<;>omega,h3,h4⟩
theorem su {p:List ByteArray} {n:NI}:okI p n=true↔n.f0.length=n.f1.length∧p.length≤6∧rX n.f2=true∧(n.f2.length=0∨fZ (dB p)=true)∧lK p n.f0 none n.f1=true:=by
 rw [Xe]
 simp only [Bool.and_eq_true,decide_eq_true_eq,Bool.or_eq_true]
theorem LM (a b:Nat):((!(decide (a=0) && decide (b=0)))=true)↔(a≠0∨b≠0):=by
 by_cases h:a=0<;>by_cases k:b=0<;>simp [h,k]
theorem Xf (c:Bool) (a:Nat):((!(c && !decide (a=0)))=true)↔(c=false∨a=0):=by
 cases c<;>by_cases h:a=0<;>simp [h]
theorem rZ {p:List ByteArray} {x:ByteArray} {r:List ByteArray} {y:Option ByteArray} {k:NI} {q:List NI}:lK p (x::r) y (k::q)=true↔mO y x=true∧Jk x k=true∧(k.f1.length≠0∨k.f2.length≠0)∧okI (p++[x]) k=true∧lK p r (some x) q=true:=by
 rw [lK,Bool.and_eq_true,Bool.and_eq_true,Bool.and_eq_true,Bool.and_eq_true,LM]
theorem Xg {d:Nat} {x:ByteArray} {r:List ByteArray} {y:Option ByteArray} {k:NI} {q:List NI}:lU d (x::r) y (k::q)=true↔lC x=true∧mO y x=true∧(k.f0.length≠0∨k.f2.length≠0)∧(kT x=false∨k.f0.length=0)∧okS (d+1) k=true∧lU d r (some x) q=true:=by
 rw [lU,Bool.and_eq_true,Bool.and_eq_true,Bool.and_eq_true,Bool.and_eq_true,Bool.and_eq_true,LM,Xf]
theorem acf {n:NI} (hn:Bd n):∀p:List ByteArray,okI p n=true→(n.f1.length≠0∨n.f2.length≠0)→∃ext,fZ (dB (p++ext))=true:=by
 induction hn with
 | mk n h0 z0 h1 h2 z2 hk ih=>
   intro p h hne
   obtain⟨e1,e2,e3,e4,e5⟩:=su.1 h
   by_cases c:n.f2.length=0
   ·have c1:n.f1.length≠0:=by omega
    cases hk0:n.f1 with
    | nil=>rw [hk0] at c1;simp at c1
    | cons k q=>
      cases hx0:n.f0 with
      | nil=>rw [hx0,hk0] at e1;simp at e1
      | cons x r=>
        rw [hx0,hk0] at e5
        obtain⟨_,_,f1,f2,_⟩:=rZ.1 e5
        obtain⟨ext,he⟩:=ih k (by rw [hk0];exact List.mem_cons_self) (p++[x]) f2 f1
        exact⟨x::ext,by rw [List.append_assoc] at he;exact he⟩
   ·refine⟨[],?_⟩
    rw [List.append_nil]
    rcases e4 with e4 | e4
    ·exact absurd e4 c
    ·exact e4
theorem YU (l:List UInt8):allL [l]=jH l true:=by
 rw [allL,allL,Bool.and_true]
 rfl
theorem UQ (l:List UInt8):(iR l).length≤1↔(47:UInt8)∉l:=by
 constructor
 ·intro h
  obtain⟨a,r,e⟩:=rE l
  rw [e,List.length_cons] at h
  have:r=[]:=List.length_eq_zero_iff.1 (by omega)
  subst this
  have e2:=Gm l
  rw [e,Lib.join_one] at e2
  rw [←e2]
  exact Sz l a (by rw [e];exact List.mem_cons_self)
 ·intro h
  rw [Gn l h]
  exact Nat.le_refl _
theorem Xh {l:List UInt8} {b:Bool} (h:jH l b=true):jH l true=true:=by
 unfold jH at h⊢
 cases b
 ·simp only [Bool.and_false,Bool.or_false] at h
  rw [h,Bool.true_or]
 ·exact h
theorem filter_one {x:ByteArray} (h:(47:UInt8)∉dl x):fZ x=(jH (dl x) true && fF x && !(dl x).isEmpty):=by
 unfold fZ
 rw [Gn _ h,YU]
 simp
theorem SA (x:ByteArray):kT x=true↔dl x=[35]:=by
 unfold kT
 rw [decide_eq_true_eq,Lib.toList_data]
theorem level_hash {b:Bool} (h:jH [35] b=true):b=true:=by
 cases b
 ·exact absurd h (by decide)
 ·rfl
theorem UR {l:List UInt8} (h:l≠[35]) (a b:Bool):jH l a=jH l b:=by
 unfold jH
 have:(l==[35])=false:=beq_eq_false_iff_ne.2 h
 rw [this,Bool.false_and,Bool.false_and]
theorem LP {p:List ByteArray} {x:ByteArray} {k:NI} (hb:Bd k) (he:k.f0.length=k.f1.length) (ht:fF x=true):Jk x k=true↔lC x=true∧(kT x=false∨k.f0.length=0):=by
 unfold Jk lC
 rw [Bool.and_eq_true,decide_eq_true_eq,UQ]
 constructor
 ·rintro⟨h1,h2⟩
  refine⟨?_,?_⟩
  ·rw [filter_one h1,Xh h2,ht]
   have:(dl x).contains 47=false:=by
    rw [Bool.eq_false_iff]
    intro m
    exact h1 (List.contains_iff_mem.1 m)
   rw [this]
   cases (dl x).isEmpty<;>rfl
  ·by_cases q:kT x=true
   ·right
    rw [(SA x).1 q] at h2
    have:=level_hash h2
    rw [decide_eq_true_eq] at this
    omega
   ·exact .inl (Bool.eq_false_iff.2 q)
 ·rintro⟨h1,h2⟩
  rw [Bool.or_eq_true] at h1
  rcases h1 with h1 | h1
  ·rw [Bool.and_eq_true,Bool.not_eq_true'] at h1
   obtain⟨f1,f2⟩:=h1
   have n47:(47:UInt8)∉dl x:=fun m=>by
    rw [List.contains_iff_mem.2 m] at f2
    cases f2
   refine⟨n47,?_⟩
   rw [filter_one n47,Bool.and_eq_true,Bool.and_eq_true] at f1
   by_cases q:dl x=[35]
   ·rcases h2 with h2 | h2
    ·rw [(SA x).2 q] at h2;cases h2
    ·rw [show decide (k.f1.length=0)=true from decide_eq_true (by omega)]
     exact f1.1.1
   ·rw [UR q _ true]
    exact f1.1.1
  ·rw [List.isEmpty_iff] at h1
   rw [h1]
   refine⟨by simp,?_⟩
   rfl
theorem QI {x:ByteArray} (h:lC x=true):fF x=true:=by
 unfold lC at h
 rw [Bool.or_eq_true] at h
 rcases h with h | h
 ·rw [Bool.and_eq_true] at h
  have h:=h.1
  unfold fZ at h
  rw [Bool.and_eq_true,Bool.and_eq_true,Bool.and_eq_true] at h
  exact h.1.1.2
 ·rw [List.isEmpty_iff] at h
  refine(zU x).2 ⟨by rw [h];simp,by rw [h];rfl,?_⟩
  have:(dl x).length=0:=by rw [h];rfl
  rw [lu] at this
  omega
theorem QJ {s:ByteArray} (h:fZ s=true):fF s=true:=by
 unfold fZ at h
 rw [Bool.and_eq_true,Bool.and_eq_true,Bool.and_eq_true] at h
 exact h.1.1.2
theorem AX (p:List ByteArray) (d:Nat) (hp:p.length=d) (x:ByteArray):(if 0<d then (dB p++(⟨#[47]⟩:ByteArray))++x else x)=dB (p++[x]):=by
 cases p with
 | nil=>
   rw [if_neg (by simp at hp;omega)]
   exact(Xc x).symm
 | cons y t=>
   rw [if_pos (by simp at hp;omega),UO _ (by simp)]
theorem PV (p:List ByteArray) (d:Nat) (hp:p.length=d) (hd:d<6):∀(ns:List ByteArray) (ks:List NI) (y:Option ByteArray),ns.length=ks.length→(∀k∈ks,Bd k)→
  (∀k∈ks,∀x:ByteArray,(okI (p++[x]) k=true↔okS (d+1) k=true∧yH (d+1) (dB (p++[x])) k=true))→
  (lK p ns y ks=true↔lU d ns y ks=true∧oZ d (dB p) ns ks=true)
 | [],[],y,_,_,_=>by
   rw [lK,lU,oZ]
   ·simp
   all_goals (intro x1 x2 x3 x4 e;cases e)
 | [],_::_,y,e,_,_=>by simp at e
 | _::_,[],y,e,_,_=>by simp at e
 | x::r,k::q,y,e,hb,ih=>by
   have ih2:=PV p d hp hd r q (some x) (by simpa using e) (fun k hk=>hb k (List.mem_cons_of_mem _ hk)) (fun k hk=>ih k (List.mem_cons_of_mem _ hk))
   have hk:=hb k List.mem_cons_self
   have ihk:=ih k List.mem_cons_self x
   rw [rZ,Xg,oZ,Bool.and_eq_true,AX p d hp x,ih2]
   constructor
   ·rintro⟨a1,a2,a3,a4,a5,a6⟩
    obtain⟨b1,b2⟩:=ihk.1 a4
    obtain⟨e1,_,_,_⟩:=sO b1
    obtain⟨ext,he⟩:=acf hk (p++[x]) a4 a3
    have ht:fF x=true:=PS _ (QJ he) x (by simp)
    obtain⟨c1,c2⟩:=(LP (p:=p) hk e1 ht).1 a2
    exact⟨⟨c1,a1,by omega,c2,b1,a5⟩,b2,a6⟩
   ·rintro⟨⟨c1,a1,a3,c2,b1,a5⟩,b2,a6⟩
    obtain⟨e1,_,_,_⟩:=sO b1
    exact⟨a1,(LP (p:=p) hk e1 (QI c1)).2 ⟨c1,c2⟩,by omega,ihk.2 ⟨b1,b2⟩,a5,a6⟩
theorem Xi {n:NI} (hn:Bd n):∀(p:List ByteArray) (d:Nat),p.length=d→d≤6→(d=0→n.f2.length=0)→(okI p n=true↔okS d n=true∧yH d (dB p) n=true):=by
 induction hn with
 | mk n h0 z0 h1 h2 z2 hk ih=>
   intro p d hp hd h00
   have ihk:d<6→∀k∈n.f1,∀x:ByteArray,(okI (p++[x]) k=true↔okS (d+1) k=true∧yH (d+1) (dB (p++[x])) k=true):=fun hd2 k hk2 x=>
    ih k hk2 (p++[x]) (d+1) (by simp only [List.length_append,List.length_cons,List.length_nil];omega) (by omega) (fun z=>by omega)
   have tx:yH d (dB p) n=true↔(n.f2.length=0∨fZ (dB p)=true)∧oZ d (dB p) n.f0 n.f1=true:=by
    rw [Xd,Bool.and_eq_true]
    simp only [Bool.not_eq_true',Bool.and_eq_false_iff,decide_eq_false_iff_not,Bool.not_eq_false']
    constructor
    ·rintro⟨a,b⟩
     refine⟨?_,b⟩
     rcases a with a | a | a
     ·exact .inl (h00 (by omega))
     ·exact .inl (by omega)
     ·exact .inr a
    ·rintro⟨a,b⟩
     refine⟨?_,b⟩
     rcases a with a | a
     ·exact .inr (.inl (by omega))
     ·exact .inr (.inr a)
   rw [su,tx]
   constructor
   ·rintro⟨e1,e2,e3,e4,e5⟩
    by_cases c:n.f0.length=0
    ·have c0:n.f0=[]:=List.length_eq_zero_iff.1 c
     have c1:n.f1=[]:=List.length_eq_zero_iff.1 (by omega)
     refine⟨?_,e4,?_⟩
     ·rw [IK,e3,c0,c1]
      rw [lU]
      ·simp
      ·intro x1 x2 x3 x4 e;cases e
     ·rw [c0,c1,oZ]
      intro x1 x2 x3 x4 e;cases e
    ·have hd2:d<6:=by
      cases hx0:n.f0 with
      | nil=>rw [hx0] at c;simp at c
      | cons x r=>
        cases hk0:n.f1 with
        | nil=>rw [hx0,hk0] at e1;simp at e1
        | cons k q=>
          rw [hx0,hk0] at e5
          obtain⟨_,_,_,f2,_⟩:=rZ.1 e5
          obtain⟨_,g2,_⟩:=su.1 f2
          simp only [List.length_append,List.length_cons,List.length_nil] at g2
          omega
     obtain⟨a,b⟩:=(PV p d hp hd2 n.f0 n.f1 none e1 hk (ihk hd2)).1 e5
     refine⟨?_,e4,b⟩
     rw [IK,e3,a,decide_eq_true e1,show decide (d=6)=false from decide_eq_false (by omega),Bool.and_false]
     rfl
   ·rintro⟨h,e4,b⟩
    obtain⟨e1,e2,e3,a⟩:=sO h
    refine⟨e1,by omega,e3,e4,?_⟩
    by_cases c:n.f0.length=0
    ·have c0:n.f0=[]:=List.length_eq_zero_iff.1 c
     rw [c0,lK]
     intro x1 x2 x3 x4 e;cases e
    ·have hd2:d<6:=by have:=e2 (by omega);omega
     exact(PV p d hp hd2 n.f0 n.f1 none e1 hk (ihk hd2)).2 ⟨a,b⟩
def jJ (n:NI):Bool:=decide (n.f2.length=0) && okI [] n
mutual
def iM:List ByteArray→NI→List EI
 | p,⟨ns,ks,ss⟩=>ss.map (fun s=>⟨dB p,s.f0,s.f1,s.f2⟩)++fA p ns ks
def fA:List ByteArray→List ByteArray→List NI→List EI
 | p,x::r,k::q=>iM (p++[x]) k++fA p r q
 | _,[],_=>[]
 | _,_::_,[]=>[]
end
theorem aaj (p:List ByteArray) (n:NI):iM p n=n.f2.map (fun s=>⟨dB p,s.f0,s.f1,s.f2⟩)++fA p n.f0 n.f1:=by cases n;rw [iM]
mutual
theorem SB:∀(p:List ByteArray) (n:NI),(iM p n).length≤cnt n
 | p,⟨ns,ks,ss⟩=>by
   rw [iM,cnt,List.length_append,List.length_map]
   have:=PW p ns ks
   omega
theorem PW:∀(p:List ByteArray) (ns:List ByteArray) (ks:List NI),(fA p ns ks).length≤sW ks
 | p,x::r,k::q=>by
   rw [fA,sW,List.length_append]
   have:=SB (p++[x]) k
   have:=PW p r q
   omega
 | _,[],_=>by rw [fA];exact Nat.zero_le _
 | _,_::_,[]=>by rw [fA];exact Nat.zero_le _
end
theorem rG (p:List ByteArray) (hp:p.length≤7) (hz:∀x∈p,x.size≤1048576):(dB p).size≤1073741824:=by
 have h3:=YT 1048576 p hz
 have h4:p.length*(1048576+1)≤7*(1048576+1):=Nat.mul_le_mul_right _ hp
 omega
def jZ (n:NI):List EI:=if jJ n=true then iM [] n else []
theorem X9 (n:NI):(jZ n).length≤cnt n:=by
 unfold jZ
 split
 ·exact SB [] n
 ·exact Nat.zero_le _
end Go.Proofs.YtcnfgfomholheaaGreatDoor.Q
end
section
namespace Go.Proofs.YtcnfgfomholheaaGreatDoor.Q
open Go.RowKit Go.Proofs.YtcnfgfomholheaaGreatDoor.Z
set_option linter.unusedVariables false
theorem YV {r:List (T.Tb 9)} {j:Nat} {l:List V} (h:(r.map (T.enc 9))[j]? =some l):∃s:ByteArray,r[j]? =some s∧l=[.sc (.string s)]:=by
 rw [List.getElem?_map] at h
 obtain⟨s,hs,rfl⟩:=Option.map_eq_some_iff.1 h
 exact⟨s,hs,rfl⟩
theorem aaU {r:List (T.Tb 9)} {j:Nat} {s:ByteArray} (h:r[j]? =some s):(r.map (T.enc 9))[j]? =some [.sc (.string s)]:=by
 rw [List.getElem?_map,h];rfl
open Go.Proofs.YtcnfgfomholheaaGreatDoorW.PrintWords in
theorem acg {w:World} {base:Nat} {v:Value} {r:List (T.Tb 9)} (h:Kd.R Kd.string 9 w base (fun _=>True) v r):Ow T.sz w (fun k=>base≤k∧k<w.heap.size) (.sl 9 (r.map (T.enc 9))) v:=by
 obtain⟨_,inner,ho,hr⟩:=h
 have hone:∀(j:Nat) (s:ByteArray),r[j]? =some s→inner[j]? =some (.string s):=fun j s hj=>by
  have h2:(inner.drop (j*1)).take 1=[.string s]:=hr.2 j s hj
  have h3:((inner.drop (j*1)).take 1)[0]? =some (.string s):=by rw [h2];rfl
  rw [List.getElem?_take_of_lt (by decide),List.getElem?_drop] at h3
  simpa using h3
 have hlen:(r.map (T.enc 9)).length=r.length:=List.length_map ..
 have hget:∀{j:Nat} {l:List V},(r.map (T.enc 9))[j]? =some l→∃s:ByteArray,r[j]? =some s∧l=[.sc (.string s)]:=fun h=>YV h
 generalize r.map (T.enc 9)=xs at hlen hget
 have ho2:w.ownsRow 0 9 (T.sz 9) v xs.length inner:=by
  rw [hlen]
  exact Gx ho (Nat.zero_le _)
 refine Ec ho2 (fun j _=>inner.getD j undef) (fun _ _ _=>False) (fun j l hj=>?_) (fun j l q x hj hq=>?_) (fun _ _ _ h=>h.elim) (fun _ _ _ _ _ h=>h.elim) (fun g hg=>⟨own_base ho g hg,fK ho g hg⟩)
 ·obtain⟨s,_,rfl⟩:=hget hj
  rfl
 ·obtain⟨s,hs,rfl⟩:=hget hj
  have hq0:q=0:=by have:=(List.getElem?_eq_some_iff.1 hq).1;simp at this;exact this
  subst hq0
  have hx:x= .sc (.string s):=(Option.some.inj hq).symm
  subst hx
  have h1:=hone j s hs
  have e:j*T.sz 9+0=j:=Nat.mul_one j
  rw [e]
  refine⟨by rw [List.getD_eq_getElem?_getD,h1];rfl,?_⟩
  rw [List.getD_eq_getElem?_getD,h1]
  exact .sc _ _ rfl
open Go.Proofs.YtcnfgfomholheaaGreatDoorW.PrintWords in
theorem adf {w:World} {S:Nat→Prop} {v:Value} {l:List (T.Tb 9)} (h:Rd T.sz w S (.sl 9 (l.map (T.enc 9))) v) (hl:l.length≤9223372036854775807):∃A c,v= .slice A l.length c∧l.length≤c∧Kd.C Kd.string w A l.length l:=by
 have hlen:(l.map (T.enc 9)).length=l.length:=List.length_map ..
 have hat:∀{j:Nat} {s:ByteArray},l[j]? =some s→(l.map (T.enc 9))[j]? =some [.sc (.string s)]:=fun h=>aaU h
 generalize l.map (T.enc 9)=xs at hlen hat h
 obtain⟨A,c,e,hc⟩:=h.slice
 rw [hlen] at e hc
 subst e
 refine⟨A,c,rfl,hc,rfl,hl,fun h0=>?_⟩
 have hj0:=hat (List.getElem?_eq_getElem h0)
 obtain⟨ad,c',e,_⟩:=h.elem hj0
 have eA:A=some ad:=(Value.slice.inj e).1
 subst eA
 refine⟨ad,rfl,fun j s hj=>⟨[.string s],rfl,rfl,fun i u hi=>?_⟩⟩
 have hi0:i=0:=by have:=(List.getElem?_eq_some_iff.1 hi).1;simp at this;exact this
 subst hi0
 have hu:u= .string s:=(Option.some.inj hi).symm
 subst hu
 obtain⟨ad',c'',e',_,_,_,_,hx⟩:=h.elem (hat hj)
 have:ad'=ad:=(Option.some.inj (Value.slice.inj e').1).symm
 subst this
 obtain⟨u,h1,h2⟩:=hx 0 (.sc (.string s)) rfl
 have e3:u= .string s:=by cases h2;rfl
 rw [e3] at h1
 exact h1
theorem uQ {f:FuncId} {fn:Func} {c:Code} (hf:Tryz.prog.funcs[f]? =some fn) (hname:(fn.name== "runtime.NumGoroutine")=false) (hb:fn.body=some c) {s:ByteArray} {b:Bool}
  (h:∀w,Go.Proofs.YtcnfgfomholheaaGreatDoor.X.Tabs w→Calls Tryz.prog f #[.string s] w fun e w'=>e= .returned (.bool b)∧Below w.heap.size w w'):aG T Tryz.prog f [.c (.sc (.string s))] (.c (.sc (.bool b))):=by
 refine⟨⟨fn,hf,hname,by rw [hb];rfl⟩,fun w vs S hj ha=>?_⟩
 obtain⟨v,r,rfl,⟨rfl,_⟩,rfl⟩:=ha
 refine(h w hj).mono ?_
 rintro e w' ⟨rfl,hb⟩
 exact⟨.bool b,fun _ _=>False,rfl,hb,fun _ _ h=>h.elim,fun _ _ _ h=>h.elim,[.bool b],rfl,[],rfl,rfl,rfl⟩
theorem Xj {f:FuncId} {fn:Func} {c:Code} (hf:Tryz.prog.funcs[f]? =some fn) (hname:(fn.name== "runtime.NumGoroutine")=false) (hb:fn.body=some c) {s t:Value} {b:Bool}
  (h:∀w,Go.Proofs.YtcnfgfomholheaaGreatDoor.X.Tabs w→Calls Tryz.prog f #[s,t] w fun e w'=>e= .returned (.bool b)∧Below w.heap.size w w'):aG T Tryz.prog f [.c (.sc s), .c (.sc t)] (.c (.sc (.bool b))):=by
 refine⟨⟨fn,hf,hname,by rw [hb];rfl⟩,fun w vs S hj ha=>?_⟩
 obtain⟨v,r,rfl,⟨rfl,_⟩,v2,r2,rfl,⟨rfl,_⟩,rfl⟩:=ha
 refine(h w hj).mono ?_
 rintro e w' ⟨rfl,hb⟩
 exact⟨.bool b,fun _ _=>False,rfl,hb,fun _ _ h=>h.elim,fun _ _ _ h=>h.elim,[.bool b],rfl,[],rfl,rfl,rfl⟩
theorem ach {f:FuncId} {fn:Func} {c:Code} (hf:Tryz.prog.funcs[f]? =some fn) (hname:(fn.name== "runtime.NumGoroutine")=false) (hb:fn.body=some c) {s:ByteArray} {r:List (T.Tb 9)}
  (h:∀w,Go.Proofs.YtcnfgfomholheaaGreatDoor.X.Tabs w→Calls Tryz.prog f #[.string s] w fun e w'=>∃Di:Value,e= .returned (Di)∧Go.Proofs.YtcnfgfomholheaaGreatDoorW.PrintWords.Kd.R Go.Proofs.YtcnfgfomholheaaGreatDoorW.PrintWords.Kd.string 9 w' w.heap.size (fun _=>True) Di r∧Below w.heap.size w w'):aG T Tryz.prog f [.c (.sc (.string s))] (.c (.ow 9 r)):=by
 refine⟨⟨fn,hf,hname,by rw [hb];rfl⟩,fun w vs S hj ha=>?_⟩
 obtain⟨v,q,rfl,⟨rfl,_⟩,rfl⟩:=ha
 refine(h w hj).mono ?_
 rintro e w' ⟨v,rfl,hr,hb⟩
 exact⟨v,fun i k=>i=0∧w.heap.size≤k∧k<w'.heap.size,rfl,hb,fun i k hk=>hk.2,fun i j k h1 h2=>h1.1.trans h2.1.symm,[v],rfl,v,[],rfl,(acg hr).mono (fun k hk=>⟨rfl,hk⟩),rfl⟩
theorem UU (s:ByteArray) (hs:s.size≤140737488351232):aG T Tryz.prog 147 [.c (.sc (.string s))] (.c (.sc (.bool (X.fF s)))):=
 uQ Tryz.func147 (by kernel_rfl) rfl (fun w hT=>X.eH.calls s _ w hT (Pure.tq s hs))
theorem UW (s:ByteArray):aG T Tryz.prog 177 [.c (.sc (.string s))] (.c (.sc (.bool (X.fF s)))):=by
 obtain⟨k,h⟩:=(Pure.tC s)
 exact uQ Tryz.func177 (by kernel_rfl) rfl (fun w hT=>P.eP.calls _ s _ w (h k (Nat.le_refl _)))
theorem EG (s:ByteArray) (hs:s.size≤1073741824):aG T Tryz.prog 149 [.c (.sc (.string s))] (.c (.sc (.bool (Pure.kV s)))):=
 uQ Tryz.func149 (by kernel_rfl) rfl (fun w hT=>P.nK.calls s _ w hT (Pure.J6 s hs))
theorem EH (s:ByteArray) (hs:s.size≤1073741824):aG T Tryz.prog 181 [.c (.sc (.string s))] (.c (.sc (.bool (Pure.kV s)))):=by
 obtain⟨k,h⟩:=(Pure.J7 s hs)
 exact uQ Tryz.func181 (by kernel_rfl) rfl (fun w hT=>P.nM.calls _ s _ w (h k (Nat.le_refl _)))
theorem PX (s:ByteArray) (hs:s.size≤1073741824):aG T Tryz.prog 77 [.c (.sc (.string s))] (.c (.sc (.bool (Pure.fZ s)))):=by
 obtain⟨k,h⟩:=(Pure.IL s hs)
 exact uQ Tryz.func77 (by kernel_rfl) rfl (fun w hT=>P.dG.calls _ s _ w hT (h k (Nat.le_refl _)))
theorem Dj (s:ByteArray) (hs:s.size≤1073741824):aG T Tryz.prog 106 [.c (.sc (.string s))] (.c (.sc (.bool (Pure.fZ s)))):=by
 obtain⟨k,h⟩:=(Pure.IQ s hs)
 exact uQ Tryz.func106 (by kernel_rfl) rfl (fun w hT=>P.aT.calls _ s _ w (h k (Nat.le_refl _)))
abbrev SC (s:ByteArray):List ByteArray:=X.pieces s Pure.stroke
theorem IU (s:ByteArray) (hs:s.size≤1073741824):aG T Tryz.prog 101 [.c (.sc (.string s))] (.c (.ow 9 (SC s))):=
 ach Tryz.func101 (by kernel_rfl) rfl (fun w hT=>P.fH.calls s _ w hT (Pure.tH s hs))
theorem EX (s:ByteArray) (b:Bool) (hs:s.size≤1073741824):aG T Tryz.prog 146 [.c (.sc (.string s)), .c (.sc (.bool b))] (.c (.sc (.bool (Pure.jH (Pure.dl s) b)))):=
 Xj Tryz.func146 (by kernel_rfl) rfl (fun w hT=>P.jC.calls s b _ w (Pure.IV s b hs))
theorem YW (s:ByteArray) (hs:s.size≤1073741824):Go.Proofs.YtcnfgfomholheaaGreatDoorW.PrintWords.Ev (fun k=>P.aI.f k s 47) ((Pure.dl s).contains 47):=by
 unfold P.aI.f
 exact Pure.MS s 47 hs s.size 0 (by omega)
theorem Xk (s:ByteArray) (hs:s.size≤1073741824):aG T Tryz.prog 176 [.c (.sc (.string s)), .c (.sc (.int .u8 47))] (.c (.sc (.bool ((Pure.dl s).contains 47)))):=by
 obtain⟨k,h⟩:=(YW s hs)
 exact Xj Tryz.func176 (by kernel_rfl) rfl (fun w hT=>(P.aI.calls _ s _ _ w (h k (Nat.le_refl _))).mono (fun e w' h=>⟨h.1,h.2.below⟩))
theorem QK (p:List ByteArray) (h:p.length≤1048576) (hs:(dB p).size≤1073741824):P.sQ.f p=some (dB p):=by
 unfold P.sQ.f X.strings_Join.f
 have e:dB p=⟨(Lib.join (p.map (fun x=>x.data.toList)) [47]).toArray⟩:=rfl
 have hs2:(Lib.join (p.map (fun x=>x.data.toList)) [47]).length≤1073741824:=by rw [e] at hs;simpa [ByteArray.size] using hs
 rw [if_pos ⟨by omega,Nat.le_trans hs2 (by decide)⟩]
 rfl
theorem Nw (p:List ByteArray) (hp:p.length≤1048576) (hs:(dB p).size≤1073741824):aG T Tryz.prog 189 [.c (.sl 9 p)] (.c (.sc (.string (dB p)))):=by
 refine⟨⟨_,Tryz.func189,(by kernel_rfl),rfl⟩,fun w vs S hj ha=>?_⟩
 obtain⟨v,r,rfl,hv,rfl⟩:=ha
 obtain⟨A,c,rfl,hc,hC⟩:=adf hv (Nat.le_trans hp (by decide))
 refine(P.sQ.calls A c p _ w hC hc (QK p hp hs)).mono ?_
 rintro e w' ⟨rfl,hb⟩
 exact⟨.string (dB p),fun _ _=>False,rfl,hb,fun _ _ h=>h.elim,fun _ _ _ h=>h.elim,[.string (dB p)],rfl,[],rfl,rfl,rfl⟩
end Go.Proofs.YtcnfgfomholheaaGreatDoor.Q
end
section
namespace Go.Proofs.YtcnfgfomholheaaGreatDoor.Q
open Go.RowKit Go.Proofs.YtcnfgfomholheaaGreatDoor.Z Go.Proofs.YtcnfgfomholheaaGreatDoor.Pure
set_option linter.unusedVariables false
set_option linter.unusedSimpArgs false
set_option maxRecDepth 100000
set_option maxHeartbeats 4000000
abbrev zS:SS:=z44
abbrev zN:SN:=z31
abbrev aci (s:ByteArray):Slot T:= .c (.sc (.string s))
theorem yI (s:ByteArray):(s.toList==(⟨#[]⟩:ByteArray).toList)=(dl s).isEmpty:=by
 rw [show(⟨#[]⟩:ByteArray).toList=[] by simp [ByteArray.toList_eq]];exact ace s
theorem UY (s:ByteArray) (hs:s.size≤1073741824):aG T Tryz.prog 127 [.c (.sc (.string s))] (.c (.sc (.bool (nameP s)))):=by
 refine aH hT Tryz.func127 (by kernel_rfl) rfl rfl (fun A=>?_)
 conv=>whnf
 refine ay.mk _ (UU s (Nat.le_trans hs (by decide))) ?_
 conv=>whnf
 refine Split.mk (fun c=>?_) (fun c=>?_)
 ·conv=>whnf
  exact aA.mk ⟨rfl,rfl⟩ ⟨rfl,rfl⟩ ⟨bv (by rw [yI];unfold nameP;rw [c];rfl),trivial⟩
 ·conv=>whnf
  exact aA.mk ⟨rfl,rfl⟩ ⟨rfl,rfl⟩ ⟨bv (by unfold nameP;rw [c];rfl),trivial⟩
theorem yT (a lo hi:Int):aG T Tryz.prog 161 [.c (.sc (.int .i64 a)), .c (.sc (.int .i64 lo)), .c (.sc (.int .i64 hi))] (.c (.sc (.bool (decide (lo≤a) && decide (a≤hi))))):=by
 refine aH hT Tryz.func161 (by kernel_rfl) rfl rfl (fun A=>?_)
 conv=>whnf
 refine Split.mk (fun c=>?_) (fun c=>?_)
 ·conv=>whnf
  exact aA.mk ⟨rfl,rfl⟩ ⟨rfl,rfl⟩ ⟨bv (by rw [show decide (lo≤a)=true from c];rfl),trivial⟩
 ·conv=>whnf
  exact aA.mk ⟨rfl,rfl⟩ ⟨rfl,rfl⟩ ⟨bv (by rw [show decide (lo≤a)=false from c];rfl),trivial⟩
theorem Ba (a lo hi:Int):aG T Tryz.prog 159 [.c (.sc (.int .i64 a)), .c (.sc (.int .i64 lo)), .c (.sc (.int .i64 hi))] (.c (.sc (.bool (decide (lo≤a) && decide (a≤hi))))):=by
 refine aH hT Tryz.func159 (by kernel_rfl) rfl rfl (fun A=>?_)
 conv=>whnf
 refine Split.mk (fun c=>?_) (fun c=>?_)
 ·conv=>whnf
  exact aA.mk ⟨rfl,rfl⟩ ⟨rfl,rfl⟩ ⟨bv (by rw [show decide (lo≤a)=true from c];rfl),trivial⟩
 ·conv=>whnf
  exact aA.mk ⟨rfl,rfl⟩ ⟨rfl,rfl⟩ ⟨bv (by rw [show decide (lo≤a)=false from c];rfl),trivial⟩
theorem AZ (a:Int):aG T Tryz.prog 128 [.c (.sc (.int .i64 a))] (.c (.sc (.bool (decide (0≤a) && decide (a≤2))))):=by
 refine aH hT Tryz.func128 (by kernel_rfl) rfl rfl (fun A=>?_)
 conv=>whnf
 refine ay.mk _ (yT a 0 2) ?_
 conv=>whnf
 exact aA.mk ⟨rfl,rfl⟩ ⟨rfl,rfl⟩ ⟨rfl,trivial⟩
theorem Xl (x:SS) (hs:x.f0.size≤1073741824):aG T Tryz.prog 111 [.ag (T.cells eS x)] (.c (.sc (.bool (lT x)))):=by
 refine aH hT Tryz.func111 (by kernel_rfl) rfl rfl (fun A=>?_)
 conv=>whnf
 refine ay.mk _ (UY x.f0 hs) ?_
 conv=>whnf
 refine Split.mk (fun c=>?_) (fun c=>?_)
 ·conv=>whnf
  refine ay.mk _ (AZ x.f1) ?_
  conv=>whnf
  refine Split.mk (fun d=>?_) (fun d=>?_)
  ·conv=>whnf
   exact aA.mk ⟨rfl,rfl⟩ ⟨rfl,rfl⟩ ⟨bv (by unfold lT;rw [c,d];rfl),trivial⟩
  ·conv=>whnf
   exact aA.mk ⟨rfl,rfl⟩ ⟨rfl,rfl⟩ ⟨bv (by unfold lT;rw [c,d];rfl),trivial⟩
 ·conv=>whnf
  refine Split.mk (fun d=>jM d) (fun d=>?_)
  conv=>whnf
  exact aA.mk ⟨rfl,rfl⟩ ⟨rfl,rfl⟩ ⟨bv (by unfold lT;rw [c];rfl),trivial⟩
theorem Xm (x:SS):aG T Tryz.prog 109 [.ag (T.cells eS x)] (.c (.sc (.bool (lT x)))):=by
 refine aH hT Tryz.func109 (by kernel_rfl) rfl rfl (fun A=>?_)
 conv=>whnf
 refine ay.mk _ (UW x.f0) ?_
 conv=>whnf
 refine Split.mk (fun c=>?_) (fun c=>?_)
 ·conv=>whnf
  refine Split.mk (fun d=>?_) (fun d=>?_)
  ·conv=>whnf
   refine ay.mk _ (Ba x.f1 0 2) ?_
   conv=>whnf
   refine Split.mk (fun e=>?_) (fun e=>?_)
   ·conv=>whnf
    exact aA.mk ⟨rfl,rfl⟩ ⟨rfl,rfl⟩ ⟨bv (by rw [yI] at d;unfold lT nameP;rw [c,d,e];rfl),trivial⟩
   ·conv=>whnf
    exact aA.mk ⟨rfl,rfl⟩ ⟨rfl,rfl⟩ ⟨bv (by rw [yI] at d;unfold lT nameP;rw [c,d,e];rfl),trivial⟩
  ·conv=>whnf
   refine Split.mk (fun e=>jM e) (fun e=>?_)
   conv=>whnf
   exact aA.mk ⟨rfl,rfl⟩ ⟨rfl,rfl⟩ ⟨bv (by rw [yI] at d;unfold lT nameP;rw [c,d];rfl),trivial⟩
 ·conv=>whnf
  repeat (refine Split.mk (fun e=>jM e) (fun e=>?_);conv=>whnf)
  exact aA.mk ⟨rfl,rfl⟩ ⟨rfl,rfl⟩ ⟨bv (by unfold lT nameP;rw [c];rfl),trivial⟩
theorem Xn (x:ByteArray) (hs:x.size≤1073741824):aG T Tryz.prog 192 [.c (.sc (.string x))] (.c (.sc (.bool (lC x)))):=by
 refine aH hT Tryz.func192 (by kernel_rfl) rfl rfl (fun A=>?_)
 conv=>whnf
 refine ay.mk _ (Dj x hs) ?_
 conv=>whnf
 refine Split.mk (fun c=>?_) (fun c=>?_)
 ·conv=>whnf
  refine ay.mk _ (Xk x hs) ?_
  conv=>whnf
  refine Split.mk (fun d=>?_) (fun d=>?_)
  ·conv=>whnf
   exact aA.mk ⟨rfl,rfl⟩ ⟨rfl,rfl⟩ ⟨bv (by unfold lC;rw [c,d];rfl),trivial⟩
  ·conv=>whnf
   exact aA.mk ⟨rfl,rfl⟩ ⟨rfl,rfl⟩ ⟨bv (by rw [yI];unfold lC;rw [c,d];rfl),trivial⟩
 ·conv=>whnf
  refine Split.mk (fun d=>jM d) (fun d=>?_)
  conv=>whnf
  exact aA.mk ⟨rfl,rfl⟩ ⟨rfl,rfl⟩ ⟨bv (by rw [yI];unfold lC;rw [c];rfl),trivial⟩
def iZ (l:List ByteArray) (i:Nat):Option ByteArray:=if i=0 then none else l[i - 1]?
theorem xW {l:List ByteArray} {i:Nat} (h:i<l.length):iZ l (i+1)=some (l.getD i ByteArray.empty):=by
 unfold iZ;rw [if_neg (by omega)];simp [h]
def nm (l:List SS):List ByteArray:=l.map (fun s=>s.f0)
theorem IW {l:List SS} {i:Nat} (h:i<l.length):xA (iZ (nm l) i) (l.drop i)=(lT (l.getD i zS) && (mO (iZ (nm l) i) (l.getD i zS).f0 && xA (iZ (nm l) (i+1)) (l.drop (i+1)))):=by
 have e:l.getD i zS=l[i]:=by simp [h]
 rw [List.drop_eq_getElem_cons h,xA,e,xW (by simpa [nm] using h)]
 simp [nm,h]
theorem LQ {l:List SS} {p:Option ByteArray}:xA p (l.drop l.length)=true:=by rw [List.drop_length];cases p<;>rfl
theorem IX {l:List ByteArray} {x:ByteArray}:mO (iZ l 0) x=true:=rfl
theorem SG {l:List SS} {i:Nat} (h0:0<i) (h:i<l.length) {x:ByteArray}:mO (iZ (nm l) i) x=Op.bytesLess (l.getD (i - 1) zS).f0.toList x.toList:=by
 unfold iZ
 rw [if_neg (by omega)]
 have h1:i - 1<l.length:=by omega
 simp [nm,h1,mO]
theorem DL {i:Nat} (h0:0<i) (hi:i≤140737488351232):wrap64 ((i:Int) - 1)=((i - 1:Nat):Int):=by simp only [wrap64];omega
theorem kN {i:Nat} (c:decide ((i:Int)>0)=true):0<i:=by simp at c;omega
theorem kP {i:Nat} (c:decide ((i:Int)>0)=false):i=0:=by simp at c;omega
theorem UZ (l:List SS) (hl:l.length≤2097152) (hs:∀x∈l,x.f0.size≤1073741824):aG T Tryz.prog 190 [.c (.sl eS l)] (.c (.sc (.bool (rX l)))):=by
 refine aH hT Tryz.func190 (by kernel_rfl) rfl rfl (fun A=>?_)
 generalize hR:rX l=R
 conv=>whnf
 refine dR.mk {i:Nat // i≤l.length∧xA (iZ (nm l) i) (l.drop i)=R} (fun p=>(0,[(7,i64 p.1),(6,i64 l.length),(5,im eS l),(0,im eS l)],[])) (fun p=>l.length - p.1) ⟨0,Nat.zero_le _,hR⟩ (aC [] rfl rfl rfl ⟨⟨rfl,rfl⟩,⟨rfl,rfl⟩,⟨rfl,rfl⟩,⟨rfl,rfl⟩,trivial⟩ trivial) ?_
 rintro⟨i,hi,hR⟩
 conv=>whnf
 refine Split.mk (fun c=>?_) (fun c=>?_)
 ·have hk2:i<l.length:=iJ c
  clear c
  rw [IW hk2] at hR
  conv=>whnf
  refine Need.mk (idx hk2) ?_
  conv=>whnf
  refine ay.mk _ (Xl _ (hs _ (getD_mem hk2))) ?_
  conv=>whnf
  refine Split.mk (fun c=>?_) (fun c=>?_)
  ·have c1:lT (l.getD i zS)=false:=bI c
   conv=>whnf
   refine bC.mk ⟨by kernel_rfl,by kernel_rfl⟩ ?_
   conv=>whnf
   refine Split.mk (fun _=>?_) (fun e=>je e)
   conv=>whnf
   exact aA.mk ⟨rfl,rfl⟩ ⟨rfl,rfl⟩ ⟨bv (by rw [←hR,c1];rfl),trivial⟩
  ·have c1:lT (l.getD i zS)=true:=bQ c
   rw [c1,Bool.true_and] at hR
   clear c
   conv=>whnf
   refine Split.mk (fun c=>?_) (fun c=>?_)
   ·have h0:0<i:=kN c
    rw [SG h0 hk2] at hR
    have hpr:=DL h0 (by omega)
    have hpt:(wrap64 ((i:Int) - 1)).toNat=i - 1:=by rw [hpr];rfl
    clear c
    conv=>whnf
    refine Need.mk (by rw [hpr];exact idx (show i - 1<l.length by omega)) ?_
    conv=>whnf
    refine bC.mk ⟨by kernel_rfl,by kernel_rfl⟩ ?_
    conv=>whnf
    refine Split.mk (fun c=>?_) (fun c=>?_)
    ·have c2:Op.bytesLess (l.getD (i - 1) zS).f0.toList (l.getD i zS).f0.toList=false:=(congrArg (fun j=>Op.bytesLess (l.getD j zS).f0.toList (l.getD i zS).f0.toList) hpt.symm).trans (bI c)
     conv=>whnf
     exact aA.mk ⟨rfl,rfl⟩ ⟨rfl,rfl⟩ ⟨bv (by rw [←hR,c2];rfl),trivial⟩
    ·have c2:Op.bytesLess (l.getD (i - 1) zS).f0.toList (l.getD i zS).f0.toList=true:=(congrArg (fun j=>Op.bytesLess (l.getD j zS).f0.toList (l.getD i zS).f0.toList) hpt.symm).trans (bQ c)
     rw [c2,Bool.true_and] at hR
     conv=>whnf
     exact bM.mk ⟨⟨i+1,hk2,hR⟩,Nat.sub_lt_sub_left hk2 (Nat.lt_succ_self i),aC [] rfl rfl rfl ⟨⟨rfl,congrArg i64 (dZ hk2 (by omega))⟩,⟨rfl,rfl⟩,⟨rfl,rfl⟩,⟨rfl,rfl⟩,trivial⟩ trivial⟩
   ·have h0:i=0:=kP c
    subst h0
    rw [IX,Bool.true_and] at hR
    clear c
    conv=>whnf
    refine bC.mk ⟨by kernel_rfl,by kernel_rfl⟩ ?_
    conv=>whnf
    refine Split.mk (fun e=>jM e) (fun _=>?_)
    conv=>whnf
    exact bM.mk ⟨⟨0+1,hk2,hR⟩,Nat.sub_lt_sub_left hk2 (Nat.lt_succ_self 0),aC [] rfl rfl rfl ⟨⟨rfl,congrArg i64 (dZ hk2 (by omega))⟩,⟨rfl,rfl⟩,⟨rfl,rfl⟩,⟨rfl,rfl⟩,trivial⟩ trivial⟩
 ·have hk2:i=l.length:=Nat.le_antisymm hi (iK c)
  subst hk2
  conv=>whnf
  exact aA.mk ⟨rfl,rfl⟩ ⟨rfl,rfl⟩ ⟨bv (hR.symm.trans LQ),trivial⟩
end Go.Proofs.YtcnfgfomholheaaGreatDoor.Q
end
section
namespace Go.Proofs.YtcnfgfomholheaaGreatDoor.Q
open Go.RowKit Go.Proofs.YtcnfgfomholheaaGreatDoor.Z Go.Proofs.YtcnfgfomholheaaGreatDoor.Pure
set_option linter.unusedVariables false
set_option linter.unusedSimpArgs false
set_option maxRecDepth 100000
set_option maxHeartbeats 4000000
abbrev Ae (n:SN):dA T:= .bx eN ((T.cells eN n).map (toCell none))
theorem xX {a:Nat} (c:((a:Int)==0)=true):a=0:=by simp at c;omega
theorem xY {a:Nat} (c:((a:Int)==0)=false):a≠0:=by simp at c;omega
section
variable {a b:Nat} {x:ByteArray} {r R q:Bool}
theorem dH (h:q=true) (hR:(q && r)=R):r=R:=by rw [h,Bool.true_and] at hR;exact hR
theorem dP (h:q=false) (hR:(q && r)=R):R=false:=by rw [h,Bool.false_and] at hR;exact hR.symm
theorem ZJ {c:Bool} (h:a≠0) (hR:(!(decide (a=0) && c) && r)=R):r=R:=dH (by simp [h]) hR
theorem ZK (h:a=0) (h2:b≠0) (hR:(!(decide (a=0) && decide (b=0)) && r)=R):r=R:=dH (by simp [h,h2]) hR
theorem ZL (h:a=0) (h2:b=0) (hR:(!(decide (a=0) && decide (b=0)) && r)=R):R=false:=dP (by simp [h,h2]) hR
theorem ha1 (h:kT x=true) (h2:a≠0) (hR:(!(kT x && !decide (a=0)) && r)=R):R=false:=dP (by simp [h,h2]) hR
theorem ha2 (h2:a=0) (hR:(!(kT x && !decide (a=0)) && r)=R):r=R:=dH (by simp [h2]) hR
theorem ZM (h:kT x=false) (hR:(!(kT x && !decide (a=0)) && r)=R):r=R:=dH (by simp [h]) hR
end
theorem IY {x:ByteArray} (c:(x.toList==(⟨#[35]⟩:ByteArray).toList)=true):kT x=true:=by
 rw [show(⟨#[35]⟩:ByteArray).toList=[35] by simp [ByteArray.toList_eq]] at c
 unfold kT;simpa using c
theorem IZ {x:ByteArray} (c:(x.toList==(⟨#[35]⟩:ByteArray).toList)=false):kT x=false:=by
 rw [show(⟨#[35]⟩:ByteArray).toList=[35] by simp [ByteArray.toList_eq]] at c
 unfold kT;simpa using c
theorem Xo {l:List ByteArray} {i:Nat} (h0:0<i) (h:i<l.length) {x:ByteArray}:mO (iZ l i) x=Op.bytesLess (l.getD (i - 1) ByteArray.empty).toList x.toList:=by
 unfold iZ
 rw [if_neg (by omega)]
 have h1:i - 1<l.length:=by omega
 simp [h1,mO]
theorem Xp {d i:Nat} {ns:List ByteArray} {ks:List SN} (h:i<ns.length) (h2:i<ks.length):lU d (ns.drop i) (iZ ns i) (ks.drop i)=(lC (ns.getD i ByteArray.empty) && (mO (iZ ns i) (ns.getD i ByteArray.empty) && (!(decide ((ks.getD i zN).f0.length=0) && decide ((ks.getD i zN).f2.length=0)) && (!(kT (ns.getD i ByteArray.empty) && !decide ((ks.getD i zN).f0.length=0)) && (okS (d+1) (ks.getD i zN) && lU d (ns.drop (i+1)) (iZ ns (i+1)) (ks.drop (i+1))))))):=by
 have e:ns.getD i ByteArray.empty=ns[i]:=by simp [h]
 have e2:ks.getD i zN=ks[i]:=by simp [h2]
 rw [List.drop_eq_getElem_cons h,List.drop_eq_getElem_cons h2,lU,e,e2,xW h,e]
theorem YX {d:Nat} {ns:List ByteArray} {ks:List SN} {p:Option ByteArray}:lU d (ns.drop ns.length) p ks=true:=by
 rw [List.drop_length];cases ks<;>rw [lU]<;>(intro x1 x2 x3 x4 e;cases e)
theorem d1_ {d:Nat} (h:d≤1000):((d+1:Nat):Int)=wrap64 ((d:Int)+1):=by simp only [wrap64];omega
theorem Xq (n:SN) (d:Nat) (hn:Bd n) (hd:d≤6) (ih:d<6→∀k∈n.f1,aG T Tryz.prog 144 [.ag (T.cells eN k), .c (.sc (.int .i64 ((d+1:Nat):Int)))] (.c (.sc (.bool (okS (d+1) k))))):aG T Tryz.prog 144 [.ag (T.cells eN n), .c (.sc (.int .i64 (d:Int)))] (.c (.sc (.bool (okS d n)))):=by
 refine lJ hT Tryz.func144 (by kernel_rfl) rfl rfl (fun A=>?_)
 have hR:=IK d n
 generalize okS d n=R at hR⊢
 refine Vc.seq 0 hT ?_
 conv=>whnf
 refine Vc.cut (α:=Unit) 2 (fun _=>n.f0.length=n.f1.length∧(n.f0.length=0∨d<6)) (fun _=>[(2, .c (.px 0 0)),(1,i64 d)]) (fun _=>[(0,Ae n)]) hT ?_ (fun _ ⟨hl,h6⟩=>?_)
 ·conv=>whnf
  refine Split.mk (fun c=>?_) (fun c=>?_)
  ·have h1:¬n.f0.length=n.f1.length:=FY c
   rw [decide_eq_false h1,Bool.false_and] at hR
   conv=>whnf
   refine Split.mk (fun _=>?_) (fun e=>je e)
   conv=>whnf
   exact aA.mk ⟨rfl,rfl⟩ ⟨rfl,rfl⟩ ⟨bv (hR),trivial⟩
  ·have h1:n.f0.length=n.f1.length:=FX c
   clear c
   conv=>whnf
   refine Split.mk (fun c=>?_) (fun c=>?_)
   ·have h2:0<n.f0.length:=kN c
    clear c
    conv=>whnf
    refine Split.mk (fun c=>?_) (fun c=>?_)
    ·have h3:d=6:=by have:=adT c;omega
     rw [decide_eq_true h1,decide_eq_true h2,decide_eq_true h3] at hR
     conv=>whnf
     exact aA.mk ⟨rfl,rfl⟩ ⟨rfl,rfl⟩ ⟨bv (hR),trivial⟩
    ·have h3:¬d=6:=by have:=adU c;omega
     conv=>whnf
     exact jX.mk ⟨(),⟨h1, .inr (by omega)⟩,aC [(0,0)] rfl rfl rfl ⟨⟨rfl,rfl⟩,⟨rfl,rfl⟩,trivial⟩ ⟨⟨rfl,rfl⟩,trivial⟩⟩
   ·have h2:n.f0.length=0:=kP c
    clear c
    conv=>whnf
    refine Split.mk (fun e=>jM e) (fun _=>?_)
    conv=>whnf
    exact jX.mk ⟨(),⟨h1, .inl h2⟩,aC [(0,0)] rfl rfl rfl ⟨⟨rfl,rfl⟩,⟨rfl,rfl⟩,trivial⟩ ⟨⟨rfl,rfl⟩,trivial⟩⟩
 refine Vc.of 1 hT ?_
 conv=>whnf
 have hb:(!(decide (0<n.f0.length) && decide (d=6)))=true:=by
  rcases h6 with h | h
  ·rw [decide_eq_false (by omega)];rfl
  ·rw [decide_eq_false (p:=d=6) (by omega),Bool.and_false];rfl
 rw [decide_eq_true hl,Bool.true_and,hb,Bool.true_and] at hR
 replace hR:=hR.symm
 clear hb
 conv=>whnf
 refine dR.mk {i:Nat // i≤n.f2.length∧(xA (iZ (nm n.f2) i) (n.f2.drop i) && lU d n.f0 none n.f1)=R} (fun p=>(1,[(5,i64 p.1),(2, .c (.px 0 0)),(1,i64 d)],[(0,Ae n)])) (fun p=>n.f2.length - p.1) ⟨0,Nat.zero_le _,hR⟩ (aC [(0,0)] rfl rfl rfl ⟨⟨rfl,rfl⟩,⟨rfl,rfl⟩,⟨rfl,rfl⟩,trivial⟩ ⟨⟨rfl,rfl⟩,trivial⟩) ?_
 clear hR
 rintro⟨i,hi,hR⟩
 conv=>whnf
 refine Split.mk (fun c=>?_) (fun c=>?_)
 ·have hk2:i<n.f2.length:=iJ c
  clear c
  rw [IW hk2,Bool.and_assoc,Bool.and_assoc] at hR
  conv=>whnf
  refine Need.mk (idx hk2) ?_
  conv=>whnf
  refine ay.mk _ (Xm _) ?_
  conv=>whnf
  refine Split.mk (fun c=>?_) (fun c=>?_)
  ·have c1:lT (n.f2.getD i zS)=false:=bI c
   clear c
   conv=>whnf
   refine bC.mk ⟨by kernel_rfl,by kernel_rfl⟩ ?_
   conv=>whnf
   refine Split.mk (fun _=>?_) (fun e=>je e)
   conv=>whnf
   exact aA.mk ⟨rfl,rfl⟩ ⟨rfl,rfl⟩ ⟨bv (dP c1 hR),trivial⟩
  ·have c1:lT (n.f2.getD i zS)=true:=bQ c
   clear c
   replace hR:=dH c1 hR
   conv=>whnf
   refine Split.mk (fun c=>?_) (fun c=>?_)
   ·have h0:0<i:=kN c
    clear c
    have hl2:=hn.l2
    rw [SG h0 hk2] at hR
    have hpr:=DL h0 (by omega)
    have hpt:(wrap64 ((i:Int) - 1)).toNat=i - 1:=by rw [hpr];rfl
    conv=>whnf
    refine Need.mk (by rw [hpr];exact idx (show i - 1<n.f2.length by omega)) ?_
    conv=>whnf
    refine Need.mk (idx hk2) ?_
    conv=>whnf
    refine bC.mk ⟨by kernel_rfl,by kernel_rfl⟩ ?_
    conv=>whnf
    refine Split.mk (fun c=>?_) (fun c=>?_)
    ·have c2:Op.bytesLess (n.f2.getD (i - 1) zS).f0.toList (n.f2.getD i zS).f0.toList=false:=(congrArg (fun j=>Op.bytesLess (n.f2.getD j zS).f0.toList (n.f2.getD i zS).f0.toList) hpt.symm).trans (bI c)
     conv=>whnf
     exact aA.mk ⟨rfl,rfl⟩ ⟨rfl,rfl⟩ ⟨bv (dP c2 hR),trivial⟩
    ·have c2:Op.bytesLess (n.f2.getD (i - 1) zS).f0.toList (n.f2.getD i zS).f0.toList=true:=(congrArg (fun j=>Op.bytesLess (n.f2.getD j zS).f0.toList (n.f2.getD i zS).f0.toList) hpt.symm).trans (bQ c)
     replace hR:=dH c2 hR
     conv=>whnf
     exact bM.mk ⟨⟨i+1,hk2,hR⟩,Nat.sub_lt_sub_left hk2 (Nat.lt_succ_self i),aC [(0,0)] rfl rfl rfl ⟨⟨rfl,congrArg i64 (dZ hk2 (Nat.le_trans hn.l2 (by decide)))⟩,⟨rfl,rfl⟩,⟨rfl,rfl⟩,trivial⟩ ⟨⟨rfl,rfl⟩,trivial⟩⟩
   ·have h0:i=0:=kP c
    clear c
    subst h0
    rw [IX,Bool.true_and] at hR
    conv=>whnf
    refine bC.mk ⟨by kernel_rfl,by kernel_rfl⟩ ?_
    conv=>whnf
    refine Split.mk (fun e=>jM e) (fun _=>?_)
    conv=>whnf
    exact bM.mk ⟨⟨0+1,hk2,hR⟩,Nat.sub_lt_sub_left hk2 (Nat.lt_succ_self 0),aC [(0,0)] rfl rfl rfl ⟨⟨rfl,congrArg i64 (dZ hk2 (Nat.le_trans hn.l2 (by decide)))⟩,⟨rfl,rfl⟩,⟨rfl,rfl⟩,trivial⟩ ⟨⟨rfl,rfl⟩,trivial⟩⟩
 ·have hk2:i=n.f2.length:=Nat.le_antisymm hi (iK c)
  subst hk2
  rw [LQ,Bool.true_and] at hR
  clear c
  conv=>whnf
  refine dR.mk {i:Nat // i≤n.f0.length∧lU d (n.f0.drop i) (iZ n.f0 i) (n.f1.drop i)=R} (fun p=>(1,[(6,i64 p.1),(2, .c (.px 0 0)),(1,i64 d)],[(0,Ae n)])) (fun p=>n.f0.length - p.1) ⟨0,Nat.zero_le _,hR⟩ (aC [(0,0)] rfl rfl rfl ⟨⟨rfl,rfl⟩,⟨rfl,rfl⟩,⟨rfl,rfl⟩,trivial⟩ ⟨⟨rfl,rfl⟩,trivial⟩) ?_
  clear hR
  rintro⟨i,hi,hR⟩
  conv=>whnf
  refine Split.mk (fun c=>?_) (fun c=>?_)
  ·have hk2:i<n.f0.length:=iJ c
   clear c
   have hk3:i<n.f1.length:=hl▸hk2
   have hd6:d<6:=by omega
   have ihk:=ih hd6 _ (getD_mem (d:=zN) hk3)
   rw [d1_ (by omega)] at ihk
   rw [Xp hk2 hk3] at hR
   have hx:=hn.z0 _ (getD_mem (d:=ByteArray.empty) hk2)
   conv=>whnf
   refine Need.mk (idx hk3) ?_
   conv=>whnf
   refine Need.mk (idx hk2) ?_
   conv=>whnf
   refine ay.mk _ (Xn _ (Nat.le_trans hx (by decide))) ?_
   conv=>whnf
   refine Split.mk (fun c=>?_) (fun c=>?_)
   ·have c1:lC (n.f0.getD i ByteArray.empty)=false:=bI c
    clear c
    conv=>whnf
    refine Split.mk (fun _=>?_) (fun e=>je e)
    conv=>whnf
    refine Split.mk (fun _=>?_) (fun e=>je e)
    conv=>whnf
    refine Split.mk (fun _=>?_) (fun e=>je e)
    conv=>whnf
    refine bC.mk ⟨by kernel_rfl,by kernel_rfl⟩ ?_
    conv=>whnf
    refine Split.mk (fun _=>?_) (fun e=>je e)
    conv=>whnf
    exact aA.mk ⟨rfl,rfl⟩ ⟨rfl,rfl⟩ ⟨bv (dP c1 hR),trivial⟩
   ·have c1:lC (n.f0.getD i ByteArray.empty)=true:=bQ c
    clear c
    replace hR:=dH c1 hR
    conv=>whnf
    refine Split.mk (fun c=>?_) (fun c=>?_)
    ·have h0:0<i:=kN c
     clear c
     have hl0:=hn.l0
     rw [Xo h0 hk2] at hR
     have hpr:=DL h0 (by omega)
     have hpt:(wrap64 ((i:Int) - 1)).toNat=i - 1:=by rw [hpr];rfl
     conv=>whnf
     refine Need.mk (by rw [hpr];exact idx (show i - 1<n.f0.length by omega)) ?_
     conv=>whnf
     refine Need.mk (idx hk2) ?_
     conv=>whnf
     refine Split.mk (fun c=>?_) (fun c=>?_)
     ·have c2:Op.bytesLess (n.f0.getD (i - 1) ByteArray.empty).toList (n.f0.getD i ByteArray.empty).toList=false:=(congrArg (fun j=>Op.bytesLess (n.f0.getD j ByteArray.empty).toList (n.f0.getD i ByteArray.empty).toList) hpt.symm).trans (bI c)
      clear c
      conv=>whnf
      refine Split.mk (fun _=>?_) (fun e=>je e)
      conv=>whnf
      refine Split.mk (fun _=>?_) (fun e=>je e)
      conv=>whnf
      refine bC.mk ⟨by kernel_rfl,by kernel_rfl⟩ ?_
      conv=>whnf
      refine Split.mk (fun _=>?_) (fun e=>je e)
      conv=>whnf
      exact aA.mk ⟨rfl,rfl⟩ ⟨rfl,rfl⟩ ⟨bv (dP c2 hR),trivial⟩
     ·have c2:Op.bytesLess (n.f0.getD (i - 1) ByteArray.empty).toList (n.f0.getD i ByteArray.empty).toList=true:=(congrArg (fun j=>Op.bytesLess (n.f0.getD j ByteArray.empty).toList (n.f0.getD i ByteArray.empty).toList) hpt.symm).trans (bQ c)
      clear c
      replace hR:=dH c2 hR
      conv=>whnf
      refine Split.mk (fun c=>?_) (fun c=>?_)
      ·have c3:(n.f1.getD i zN).f0.length=0:=xX c
       clear c
       conv=>whnf
       refine Split.mk (fun c=>?_) (fun c=>?_)
       ·have c5:(n.f1.getD i zN).f2.length=0:=xX c
        clear c
        conv=>whnf
        refine Split.mk (fun _=>?_) (fun e=>je e)
        conv=>whnf
        refine bC.mk ⟨by kernel_rfl,by kernel_rfl⟩ ?_
        conv=>whnf
        refine Split.mk (fun _=>?_) (fun e=>je e)
        conv=>whnf
        exact aA.mk ⟨rfl,rfl⟩ ⟨rfl,rfl⟩ ⟨bv (ZL c3 c5 hR),trivial⟩
       ·have c5:(n.f1.getD i zN).f2.length≠0:=xY c
        clear c
        replace hR:=ZK c3 c5 hR
        conv=>whnf
        refine Need.mk (idx hk2) ?_
        conv=>whnf
        refine Split.mk (fun c=>?_) (fun c=>?_)
        ·have c3:=IY c
         clear c
         conv=>whnf
         refine Split.mk (fun c=>?_) (fun c=>?_)
         ·have c5:(n.f1.getD i zN).f0.length≠0:=Nat.ne_of_gt (kN c)
          clear c
          conv=>whnf
          refine bC.mk ⟨by kernel_rfl,by kernel_rfl⟩ ?_
          conv=>whnf
          refine Split.mk (fun _=>?_) (fun e=>je e)
          conv=>whnf
          exact aA.mk ⟨rfl,rfl⟩ ⟨rfl,rfl⟩ ⟨bv (ha1 c3 c5 hR),trivial⟩
         ·have c5:(n.f1.getD i zN).f0.length=0:=kP c
          clear c
          replace hR:=ha2 c5 hR
          conv=>whnf
          refine ay.mk _ ihk ?_
          conv=>whnf
          refine bC.mk ⟨by kernel_rfl,by kernel_rfl⟩ ?_
          conv=>whnf
          refine Split.mk (fun c=>?_) (fun c=>?_)
          ·have c4:okS (d+1) (n.f1.getD i zN)=false:=bI c
           conv=>whnf
           exact aA.mk ⟨rfl,rfl⟩ ⟨rfl,rfl⟩ ⟨bv (dP c4 hR),trivial⟩
          ·have c4:okS (d+1) (n.f1.getD i zN)=true:=bQ c
           replace hR:=dH c4 hR
           conv=>whnf
           exact bM.mk ⟨⟨i+1,hk2,hR⟩,Nat.sub_lt_sub_left hk2 (Nat.lt_succ_self i),aC [(0,0)] rfl rfl rfl ⟨⟨rfl,congrArg i64 (dZ hk2 (Nat.le_trans hn.l0 (by decide)))⟩,⟨rfl,rfl⟩,⟨rfl,rfl⟩,trivial⟩ ⟨⟨rfl,rfl⟩,trivial⟩⟩
        ·have c3:=IZ c
         clear c
         replace hR:=ZM c3 hR
         conv=>whnf
         refine Split.mk (fun e=>jM e) (fun _=>?_)
         conv=>whnf
         refine ay.mk _ ihk ?_
         conv=>whnf
         refine bC.mk ⟨by kernel_rfl,by kernel_rfl⟩ ?_
         conv=>whnf
         refine Split.mk (fun c=>?_) (fun c=>?_)
         ·have c4:okS (d+1) (n.f1.getD i zN)=false:=bI c
          conv=>whnf
          exact aA.mk ⟨rfl,rfl⟩ ⟨rfl,rfl⟩ ⟨bv (dP c4 hR),trivial⟩
         ·have c4:okS (d+1) (n.f1.getD i zN)=true:=bQ c
          replace hR:=dH c4 hR
          conv=>whnf
          exact bM.mk ⟨⟨i+1,hk2,hR⟩,Nat.sub_lt_sub_left hk2 (Nat.lt_succ_self i),aC [(0,0)] rfl rfl rfl ⟨⟨rfl,congrArg i64 (dZ hk2 (Nat.le_trans hn.l0 (by decide)))⟩,⟨rfl,rfl⟩,⟨rfl,rfl⟩,trivial⟩ ⟨⟨rfl,rfl⟩,trivial⟩⟩
      ·have c3:(n.f1.getD i zN).f0.length≠0:=xY c
       clear c
       replace hR:=ZJ c3 hR
       conv=>whnf
       refine Split.mk (fun e=>jM e) (fun _=>?_)
       conv=>whnf
       refine Need.mk (idx hk2) ?_
       conv=>whnf
       refine Split.mk (fun c=>?_) (fun c=>?_)
       ·have c3:=IY c
        clear c
        conv=>whnf
        refine Split.mk (fun c=>?_) (fun c=>?_)
        ·have c5:(n.f1.getD i zN).f0.length≠0:=Nat.ne_of_gt (kN c)
         clear c
         conv=>whnf
         refine bC.mk ⟨by kernel_rfl,by kernel_rfl⟩ ?_
         conv=>whnf
         refine Split.mk (fun _=>?_) (fun e=>je e)
         conv=>whnf
         exact aA.mk ⟨rfl,rfl⟩ ⟨rfl,rfl⟩ ⟨bv (ha1 c3 c5 hR),trivial⟩
        ·have c5:(n.f1.getD i zN).f0.length=0:=kP c
         clear c
         replace hR:=ha2 c5 hR
         conv=>whnf
         refine ay.mk _ ihk ?_
         conv=>whnf
         refine bC.mk ⟨by kernel_rfl,by kernel_rfl⟩ ?_
         conv=>whnf
         refine Split.mk (fun c=>?_) (fun c=>?_)
         ·have c4:okS (d+1) (n.f1.getD i zN)=false:=bI c
          conv=>whnf
          exact aA.mk ⟨rfl,rfl⟩ ⟨rfl,rfl⟩ ⟨bv (dP c4 hR),trivial⟩
         ·have c4:okS (d+1) (n.f1.getD i zN)=true:=bQ c
          replace hR:=dH c4 hR
          conv=>whnf
          exact bM.mk ⟨⟨i+1,hk2,hR⟩,Nat.sub_lt_sub_left hk2 (Nat.lt_succ_self i),aC [(0,0)] rfl rfl rfl ⟨⟨rfl,congrArg i64 (dZ hk2 (Nat.le_trans hn.l0 (by decide)))⟩,⟨rfl,rfl⟩,⟨rfl,rfl⟩,trivial⟩ ⟨⟨rfl,rfl⟩,trivial⟩⟩
       ·have c3:=IZ c
        clear c
        replace hR:=ZM c3 hR
        conv=>whnf
        refine Split.mk (fun e=>jM e) (fun _=>?_)
        conv=>whnf
        refine ay.mk _ ihk ?_
        conv=>whnf
        refine bC.mk ⟨by kernel_rfl,by kernel_rfl⟩ ?_
        conv=>whnf
        refine Split.mk (fun c=>?_) (fun c=>?_)
        ·have c4:okS (d+1) (n.f1.getD i zN)=false:=bI c
         conv=>whnf
         exact aA.mk ⟨rfl,rfl⟩ ⟨rfl,rfl⟩ ⟨bv (dP c4 hR),trivial⟩
        ·have c4:okS (d+1) (n.f1.getD i zN)=true:=bQ c
         replace hR:=dH c4 hR
         conv=>whnf
         exact bM.mk ⟨⟨i+1,hk2,hR⟩,Nat.sub_lt_sub_left hk2 (Nat.lt_succ_self i),aC [(0,0)] rfl rfl rfl ⟨⟨rfl,congrArg i64 (dZ hk2 (Nat.le_trans hn.l0 (by decide)))⟩,⟨rfl,rfl⟩,⟨rfl,rfl⟩,trivial⟩ ⟨⟨rfl,rfl⟩,trivial⟩⟩
    ·have h0:i=0:=kP c
     clear c
     subst h0
     rw [IX,Bool.true_and] at hR
     conv=>whnf
     refine Split.mk (fun e=>jM e) (fun _=>?_)
     conv=>whnf
     refine Split.mk (fun c=>?_) (fun c=>?_)
     ·have c3:(n.f1.getD 0 zN).f0.length=0:=xX c
      clear c
      conv=>whnf
      refine Split.mk (fun c=>?_) (fun c=>?_)
      ·have c5:(n.f1.getD 0 zN).f2.length=0:=xX c
       clear c
       conv=>whnf
       refine Split.mk (fun _=>?_) (fun e=>je e)
       conv=>whnf
       refine bC.mk ⟨by kernel_rfl,by kernel_rfl⟩ ?_
       conv=>whnf
       refine Split.mk (fun _=>?_) (fun e=>je e)
       conv=>whnf
       exact aA.mk ⟨rfl,rfl⟩ ⟨rfl,rfl⟩ ⟨bv (ZL c3 c5 hR),trivial⟩
      ·have c5:(n.f1.getD 0 zN).f2.length≠0:=xY c
       clear c
       replace hR:=ZK c3 c5 hR
       conv=>whnf
       refine Need.mk (idx hk2) ?_
       conv=>whnf
       refine Split.mk (fun c=>?_) (fun c=>?_)
       ·have c3:=IY c
        clear c
        conv=>whnf
        refine Split.mk (fun c=>?_) (fun c=>?_)
        ·have c5:(n.f1.getD 0 zN).f0.length≠0:=Nat.ne_of_gt (kN c)
         clear c
         conv=>whnf
         refine bC.mk ⟨by kernel_rfl,by kernel_rfl⟩ ?_
         conv=>whnf
         refine Split.mk (fun _=>?_) (fun e=>je e)
         conv=>whnf
         exact aA.mk ⟨rfl,rfl⟩ ⟨rfl,rfl⟩ ⟨bv (ha1 c3 c5 hR),trivial⟩
        ·have c5:(n.f1.getD 0 zN).f0.length=0:=kP c
         clear c
         replace hR:=ha2 c5 hR
         conv=>whnf
         refine ay.mk _ ihk ?_
         conv=>whnf
         refine bC.mk ⟨by kernel_rfl,by kernel_rfl⟩ ?_
         conv=>whnf
         refine Split.mk (fun c=>?_) (fun c=>?_)
         ·have c4:okS (d+1) (n.f1.getD 0 zN)=false:=bI c
          conv=>whnf
          exact aA.mk ⟨rfl,rfl⟩ ⟨rfl,rfl⟩ ⟨bv (dP c4 hR),trivial⟩
         ·have c4:okS (d+1) (n.f1.getD 0 zN)=true:=bQ c
          replace hR:=dH c4 hR
          conv=>whnf
          exact bM.mk ⟨⟨0+1,hk2,hR⟩,Nat.sub_lt_sub_left hk2 (Nat.lt_succ_self 0),aC [(0,0)] rfl rfl rfl ⟨⟨rfl,congrArg i64 (dZ hk2 (Nat.le_trans hn.l0 (by decide)))⟩,⟨rfl,rfl⟩,⟨rfl,rfl⟩,trivial⟩ ⟨⟨rfl,rfl⟩,trivial⟩⟩
       ·have c3:=IZ c
        clear c
        replace hR:=ZM c3 hR
        conv=>whnf
        refine Split.mk (fun e=>jM e) (fun _=>?_)
        conv=>whnf
        refine ay.mk _ ihk ?_
        conv=>whnf
        refine bC.mk ⟨by kernel_rfl,by kernel_rfl⟩ ?_
        conv=>whnf
        refine Split.mk (fun c=>?_) (fun c=>?_)
        ·have c4:okS (d+1) (n.f1.getD 0 zN)=false:=bI c
         conv=>whnf
         exact aA.mk ⟨rfl,rfl⟩ ⟨rfl,rfl⟩ ⟨bv (dP c4 hR),trivial⟩
        ·have c4:okS (d+1) (n.f1.getD 0 zN)=true:=bQ c
         replace hR:=dH c4 hR
         conv=>whnf
         exact bM.mk ⟨⟨0+1,hk2,hR⟩,Nat.sub_lt_sub_left hk2 (Nat.lt_succ_self 0),aC [(0,0)] rfl rfl rfl ⟨⟨rfl,congrArg i64 (dZ hk2 (Nat.le_trans hn.l0 (by decide)))⟩,⟨rfl,rfl⟩,⟨rfl,rfl⟩,trivial⟩ ⟨⟨rfl,rfl⟩,trivial⟩⟩
     ·have c3:(n.f1.getD 0 zN).f0.length≠0:=xY c
      clear c
      replace hR:=ZJ c3 hR
      conv=>whnf
      refine Split.mk (fun e=>jM e) (fun _=>?_)
      conv=>whnf
      refine Need.mk (idx hk2) ?_
      conv=>whnf
      refine Split.mk (fun c=>?_) (fun c=>?_)
      ·have c3:=IY c
       clear c
       conv=>whnf
       refine Split.mk (fun c=>?_) (fun c=>?_)
       ·have c5:(n.f1.getD 0 zN).f0.length≠0:=Nat.ne_of_gt (kN c)
        clear c
        conv=>whnf
        refine bC.mk ⟨by kernel_rfl,by kernel_rfl⟩ ?_
        conv=>whnf
        refine Split.mk (fun _=>?_) (fun e=>je e)
        conv=>whnf
        exact aA.mk ⟨rfl,rfl⟩ ⟨rfl,rfl⟩ ⟨bv (ha1 c3 c5 hR),trivial⟩
       ·have c5:(n.f1.getD 0 zN).f0.length=0:=kP c
        clear c
        replace hR:=ha2 c5 hR
        conv=>whnf
        refine ay.mk _ ihk ?_
        conv=>whnf
        refine bC.mk ⟨by kernel_rfl,by kernel_rfl⟩ ?_
        conv=>whnf
        refine Split.mk (fun c=>?_) (fun c=>?_)
        ·have c4:okS (d+1) (n.f1.getD 0 zN)=false:=bI c
         conv=>whnf
         exact aA.mk ⟨rfl,rfl⟩ ⟨rfl,rfl⟩ ⟨bv (dP c4 hR),trivial⟩
        ·have c4:okS (d+1) (n.f1.getD 0 zN)=true:=bQ c
         replace hR:=dH c4 hR
         conv=>whnf
         exact bM.mk ⟨⟨0+1,hk2,hR⟩,Nat.sub_lt_sub_left hk2 (Nat.lt_succ_self 0),aC [(0,0)] rfl rfl rfl ⟨⟨rfl,congrArg i64 (dZ hk2 (Nat.le_trans hn.l0 (by decide)))⟩,⟨rfl,rfl⟩,⟨rfl,rfl⟩,trivial⟩ ⟨⟨rfl,rfl⟩,trivial⟩⟩
      ·have c3:=IZ c
       clear c
       replace hR:=ZM c3 hR
       conv=>whnf
       refine Split.mk (fun e=>jM e) (fun _=>?_)
       conv=>whnf
       refine ay.mk _ ihk ?_
       conv=>whnf
       refine bC.mk ⟨by kernel_rfl,by kernel_rfl⟩ ?_
       conv=>whnf
       refine Split.mk (fun c=>?_) (fun c=>?_)
       ·have c4:okS (d+1) (n.f1.getD 0 zN)=false:=bI c
        conv=>whnf
        exact aA.mk ⟨rfl,rfl⟩ ⟨rfl,rfl⟩ ⟨bv (dP c4 hR),trivial⟩
       ·have c4:okS (d+1) (n.f1.getD 0 zN)=true:=bQ c
        replace hR:=dH c4 hR
        conv=>whnf
        exact bM.mk ⟨⟨0+1,hk2,hR⟩,Nat.sub_lt_sub_left hk2 (Nat.lt_succ_self 0),aC [(0,0)] rfl rfl rfl ⟨⟨rfl,congrArg i64 (dZ hk2 (Nat.le_trans hn.l0 (by decide)))⟩,⟨rfl,rfl⟩,⟨rfl,rfl⟩,trivial⟩ ⟨⟨rfl,rfl⟩,trivial⟩⟩
  ·have hk2:i=n.f0.length:=Nat.le_antisymm hi (iK c)
   subst hk2
   conv=>whnf
   exact aA.mk ⟨rfl,rfl⟩ ⟨rfl,rfl⟩ ⟨bv (hR.symm.trans YX),trivial⟩
theorem Xr:∀(n:SN),Bd n→∀d:Nat,d≤6→aG T Tryz.prog 144 [.ag (T.cells eN n), .c (.sc (.int .i64 (d:Int)))] (.c (.sc (.bool (okS d n)))):=fun n hn d hd=>
 Xq n d hn hd (fun h k hk=>Xr k (hn.kid k hk) (d+1) h)
termination_by n=>SizeOf.sizeOf n
decreasing_by exact lY hk
end Go.Proofs.YtcnfgfomholheaaGreatDoor.Q
end
section
namespace Go.Proofs.YtcnfgfomholheaaGreatDoor.Q
open Go.RowKit Go.Proofs.YtcnfgfomholheaaGreatDoor.Z Go.Proofs.YtcnfgfomholheaaGreatDoor.Pure
set_option linter.unusedVariables false
set_option linter.unusedSimpArgs false
set_option maxRecDepth 100000
set_option maxHeartbeats 4000000
theorem Xt {d i:Nat} {a:ByteArray} {ns:List ByteArray} {ks:List SN} (h:i<ns.length) (h2:i<ks.length):oZ d a (ns.drop i) (ks.drop i)=(yH (d+1) (if 0<d then (a++(⟨#[47]⟩:ByteArray))++ns.getD i ByteArray.empty else ns.getD i ByteArray.empty) (ks.getD i zN) && oZ d a (ns.drop (i+1)) (ks.drop (i+1))):=by
 have e:ns.getD i ByteArray.empty=ns[i]:=by simp [h]
 have e2:ks.getD i zN=ks[i]:=by simp [h2]
 rw [List.drop_eq_getElem_cons h,List.drop_eq_getElem_cons h2,oZ,e,e2]
theorem YZ {d:Nat} {a:ByteArray} {ns:List ByteArray} {ks:List SN}:oZ d a (ns.drop ns.length) ks=true:=by
 rw [List.drop_length];cases ks<;>rw [oZ]<;>(intro x1 x2 x3 x4 e;cases e)
theorem acj {d i:Nat} {n:SN} (h:okS d n=true) (hi:i<n.f1.length):okS (d+1) (n.f1.getD i zN)=true:=by
 obtain⟨e1,e2,e3,e4⟩:=sO h
 exact PU d n.f0 none n.f1 e1 e4 _ (getD_mem hi)
theorem PY (n:SN) (d:Nat) (a:ByteArray) (hn:Bd n) (hd:d≤6) (ha:a.size≤d*1048577) (hok:okS d n=true) (ih:∀k∈n.f1,okS (d+1) k=true→d<6→∀b:ByteArray,b.size≤(d+1)*1048577→aG T Tryz.prog 145 [.ag (T.cells eN k), .c (.sc (.string b)), .c (.sc (.int .i64 ((d+1:Nat):Int)))] (.c (.sc (.bool (yH (d+1) b k))))):aG T Tryz.prog 145 [.ag (T.cells eN n), .c (.sc (.string a)), .c (.sc (.int .i64 (d:Int)))] (.c (.sc (.bool (yH d a n)))):=by
 refine lJ hT Tryz.func145 (by kernel_rfl) rfl rfl (fun A=>?_)
 have hR:=Xd d a n
 generalize yH d a n=R at hR⊢
 replace hR:=hR.symm
 obtain⟨hl,h6,_,_⟩:=sO hok
 refine Vc.seq 0 hT ?_
 conv=>whnf
 refine Vc.cut (α:=Unit) 2 (fun _=>oZ d a n.f0 n.f1=R) (fun _=>[(3, .c (.px 0 0)),(1,aci a),(2,i64 d)]) (fun _=>[(0,Ae n)]) hT ?_ (fun _ hR=>?_)
 ·conv=>whnf
  refine Split.mk (fun c=>?_) (fun c=>?_)
  ·have h1:0<d:=kN c
   clear c
   rw [decide_eq_true h1,Bool.true_and] at hR
   conv=>whnf
   refine Split.mk (fun c=>?_) (fun c=>?_)
   ·have h2:0<n.f2.length:=kN c
    clear c
    rw [decide_eq_true h2,Bool.true_and,Bool.not_not] at hR
    conv=>whnf
    refine ay.mk _ (Dj a (by omega)) ?_
    conv=>whnf
    refine Split.mk (fun c=>?_) (fun c=>?_)
    ·have c1:fZ a=false:=bI c
     clear c
     conv=>whnf
     exact aA.mk ⟨rfl,rfl⟩ ⟨rfl,rfl⟩ ⟨bv (dP c1 hR),trivial⟩
    ·have c1:fZ a=true:=bQ c
     clear c
     conv=>whnf
     exact jX.mk ⟨(),dH c1 hR,aC [(0,0)] rfl rfl rfl ⟨⟨rfl,rfl⟩,⟨rfl,rfl⟩,⟨rfl,rfl⟩,trivial⟩ ⟨⟨rfl,rfl⟩,trivial⟩⟩
   ·have h2:n.f2.length=0:=kP c
    clear c
    have hR:=dH (by rw [decide_eq_false (by omega)];rfl) hR
    conv=>whnf
    refine Split.mk (fun e=>jM e) (fun _=>?_)
    conv=>whnf
    exact jX.mk ⟨(),hR,aC [(0,0)] rfl rfl rfl ⟨⟨rfl,rfl⟩,⟨rfl,rfl⟩,⟨rfl,rfl⟩,trivial⟩ ⟨⟨rfl,rfl⟩,trivial⟩⟩
  ·have h1:d=0:=kP c
   clear c
   have hR:=dH (by rw [decide_eq_false (by omega)];rfl) hR
   conv=>whnf
   refine Split.mk (fun e=>jM e) (fun _=>?_)
   conv=>whnf
   refine Split.mk (fun e=>jM e) (fun _=>?_)
   conv=>whnf
   exact jX.mk ⟨(),hR,aC [(0,0)] rfl rfl rfl ⟨⟨rfl,rfl⟩,⟨rfl,rfl⟩,⟨rfl,rfl⟩,trivial⟩ ⟨⟨rfl,rfl⟩,trivial⟩⟩
 refine Vc.of 1 hT ?_
 conv=>whnf
 refine dR.mk {i:Nat // i≤n.f0.length∧oZ d a (n.f0.drop i) (n.f1.drop i)=R} (fun p=>(1,[(7,i64 p.1),(3, .c (.px 0 0)),(1,aci a),(2,i64 d)],[(0,Ae n)])) (fun p=>n.f0.length - p.1) ⟨0,Nat.zero_le _,hR⟩ (aC [(0,0)] rfl rfl rfl ⟨⟨rfl,rfl⟩,⟨rfl,rfl⟩,⟨rfl,rfl⟩,⟨rfl,rfl⟩,trivial⟩ ⟨⟨rfl,rfl⟩,trivial⟩) ?_
 rename_i hR0
 clear hR hR0
 rintro⟨i,hi,hR⟩
 conv=>whnf
 refine Split.mk (fun c=>?_) (fun c=>?_)
 ·have hk2:i<n.f0.length:=iJ c
  clear c
  have hk3:i<n.f1.length:=hl▸hk2
  have hd6:d<6:=by have:=h6 (by omega);omega
  have hx:=hn.z0 _ (getD_mem (d:=ByteArray.empty) hk2)
  have ihk:=ih _ (getD_mem (d:=zN) hk3) (acj hok hk3) hd6
  rw [d1_ (by omega)] at ihk
  rw [Xt hk2 hk3] at hR
  conv=>whnf
  refine Need.mk (idx hk2) ?_
  conv=>whnf
  refine Split.mk (fun c=>?_) (fun c=>?_)
  ·have h1:0<d:=kN c
   clear c
   rw [if_pos h1] at hR
   have hs1:(a++(⟨#[47]⟩:ByteArray)).size=a.size+1:=rJ _ _
   have hs2:((a++(⟨#[47]⟩:ByteArray))++n.f0.getD i ByteArray.empty).size=a.size+1+(n.f0.getD i ByteArray.empty).size:=by rw [rJ,hs1]
   conv=>whnf
   refine Need.mk (show a.size+1≤9223372036854775807 by omega) ?_
   conv=>whnf
   refine Need.mk (show(a++(⟨#[47]⟩:ByteArray)).size+(n.f0.getD i ByteArray.empty).size≤9223372036854775807 by omega) ?_
   conv=>whnf
   refine Need.mk (idx hk3) ?_
   conv=>whnf
   refine ay.mk _ (ihk _ (by show((a++(⟨#[47]⟩:ByteArray))++n.f0.getD i ByteArray.empty).size≤_;omega)) ?_
   conv=>whnf
   refine Split.mk (fun c=>?_) (fun c=>?_)
   ·have c4:=bI c
    conv=>whnf
    exact aA.mk ⟨rfl,rfl⟩ ⟨rfl,rfl⟩ ⟨bv (dP c4 hR),trivial⟩
   ·have c4:=bQ c
    replace hR:=dH c4 hR
    conv=>whnf
    exact bM.mk ⟨⟨i+1,hk2,hR⟩,Nat.sub_lt_sub_left hk2 (Nat.lt_succ_self i),aC [(0,0)] rfl rfl rfl ⟨⟨rfl,congrArg i64 (dZ hk2 (Nat.le_trans hn.l0 (by decide)))⟩,⟨rfl,rfl⟩,⟨rfl,rfl⟩,⟨rfl,rfl⟩,trivial⟩ ⟨⟨rfl,rfl⟩,trivial⟩⟩
  ·have h1:d=0:=kP c
   clear c
   rw [if_neg (by omega)] at hR
   conv=>whnf
   refine Need.mk (idx hk3) ?_
   conv=>whnf
   refine ay.mk _ (ihk _ (by show(n.f0.getD i ByteArray.empty).size≤_;omega)) ?_
   conv=>whnf
   refine Split.mk (fun c=>?_) (fun c=>?_)
   ·have c4:=bI c
    conv=>whnf
    exact aA.mk ⟨rfl,rfl⟩ ⟨rfl,rfl⟩ ⟨bv (dP c4 hR),trivial⟩
   ·have c4:=bQ c
    replace hR:=dH c4 hR
    conv=>whnf
    exact bM.mk ⟨⟨i+1,hk2,hR⟩,Nat.sub_lt_sub_left hk2 (Nat.lt_succ_self i),aC [(0,0)] rfl rfl rfl ⟨⟨rfl,congrArg i64 (dZ hk2 (Nat.le_trans hn.l0 (by decide)))⟩,⟨rfl,rfl⟩,⟨rfl,rfl⟩,⟨rfl,rfl⟩,trivial⟩ ⟨⟨rfl,rfl⟩,trivial⟩⟩
 ·have hk2:i=n.f0.length:=Nat.le_antisymm hi (iK c)
  subst hk2
  conv=>whnf
  exact aA.mk ⟨rfl,rfl⟩ ⟨rfl,rfl⟩ ⟨bv (hR.symm.trans YZ),trivial⟩
theorem LU:∀(n:SN),Bd n→∀(d:Nat) (a:ByteArray),d≤6→a.size≤d*1048577→okS d n=true→aG T Tryz.prog 145 [.ag (T.cells eN n), .c (.sc (.string a)), .c (.sc (.int .i64 (d:Int)))] (.c (.sc (.bool (yH d a n)))):=fun n hn d a hd ha hok=>
 PY n d a hn hd ha hok (fun k hk hok2 h b hb=>LU k (hn.kid k hk) (d+1) b h hb hok2)
termination_by n=>SizeOf.sizeOf n
decreasing_by exact lY hk
theorem QL {n:SN} (hn:Bd n) (h0:n.f2.length=0):jJ n=(okS 0 n && yH 0 (⟨#[]⟩:ByteArray) n):=by
 have hB:=Xi hn [] 0 rfl (by omega) (fun _=>h0)
 have e:dB []=(⟨#[]⟩:ByteArray):=rfl
 rw [e] at hB
 unfold jJ
 rw [decide_eq_true h0,Bool.true_and,Bool.eq_iff_iff,hB,Bool.and_eq_true]
theorem GN (n:SN) (hn:Bd n):aG T Tryz.prog 76 [.ag (T.cells eN n)] (.c (.sc (.bool (jJ n)))):=by
 refine aH hT Tryz.func76 (by kernel_rfl) rfl rfl (fun A=>?_)
 conv=>whnf
 refine Split.mk (fun c=>?_) (fun c=>?_)
 ·have h0:n.f2.length=0:=xX c
  clear c
  rw [QL hn h0]
  conv=>whnf
  refine ay.mk _ (Xr n hn 0 (by decide)) ?_
  conv=>whnf
  refine Split.mk (fun c=>?_) (fun c=>?_)
  ·conv=>whnf
   refine ay.mk _ (LU n hn 0 _ (by decide) (by show(0:Nat)≤_;omega) c) ?_
   conv=>whnf
   exact aA.mk ⟨rfl,rfl⟩ ⟨rfl,rfl⟩ ⟨bv (by rw [c];rfl),trivial⟩
  ·conv=>whnf
   exact aA.mk ⟨rfl,rfl⟩ ⟨rfl,rfl⟩ ⟨bv (by rw [c];rfl),trivial⟩
 ·have h0:n.f2.length≠0:=xY c
  clear c
  conv=>whnf
  refine Split.mk (fun e=>jM e) (fun _=>?_)
  conv=>whnf
  exact aA.mk ⟨rfl,rfl⟩ ⟨rfl,rfl⟩ ⟨bv (by unfold jJ;rw [decide_eq_false h0];rfl),trivial⟩
end Go.Proofs.YtcnfgfomholheaaGreatDoor.Q
end
section
namespace Go.Proofs.YtcnfgfomholheaaGreatDoor.Q
open Go.RowKit Go.Proofs.YtcnfgfomholheaaGreatDoor.Z Go.Proofs.YtcnfgfomholheaaGreatDoor.Pure
set_option linter.unusedVariables false
set_option linter.unusedSimpArgs false
set_option maxRecDepth 100000
set_option maxHeartbeats 4000000
theorem Xu {i:Nat} {p:List ByteArray} {ns:List ByteArray} {ks:List SN} (h:i<ns.length) (h2:i<ks.length):lK p (ns.drop i) (iZ ns i) (ks.drop i)=(mO (iZ ns i) (ns.getD i ByteArray.empty) && (decide ((SC (ns.getD i ByteArray.empty)).length≤1) && (jH (dl (ns.getD i ByteArray.empty)) (((ks.getD i zN).f1.length:Int)==0) && (!(decide ((ks.getD i zN).f1.length=0) && decide ((ks.getD i zN).f2.length=0)) && (okI (p++[ns.getD i ByteArray.empty]) (ks.getD i zN) && lK p (ns.drop (i+1)) (iZ ns (i+1)) (ks.drop (i+1))))))):=by
 have e:ns.getD i ByteArray.empty=ns[i]:=by simp [h]
 have e2:ks.getD i zN=ks[i]:=by simp [h2]
 have e3:((ks[i].f1.length:Int)==0)=decide (ks[i].f1.length=0):=by rw [Bool.eq_iff_iff];simp
 rw [List.drop_eq_getElem_cons h,List.drop_eq_getElem_cons h2,lK,e,e2,xW h,e,Jk,pieces_len,e3,Bool.and_assoc]
theorem Y0 {p:List ByteArray} {ns:List ByteArray} {ks:List SN} {y:Option ByteArray}:lK p (ns.drop ns.length) y ks=true:=by
 rw [List.drop_length];cases ks<;>rw [lK]<;>(intro x1 x2 x3 x4 e;cases e)
theorem U0 {a b:Nat} (c:decide ((a:Int)>(b:Int))=true):b<a:=by simp at c;omega
theorem U2 {a b:Nat} (c:decide ((a:Int)>(b:Int))=false):a≤b:=by simp at c;omega
theorem yP:qO T 9:=fun _=>rfl
theorem Zh:qO T eS:=fun _=>rfl
theorem dD {a b:Nat} {bt:Nat} (h:a+b≤8388608) (hb:bt≤1024):a+b≤maxLen∧(a+b)*bt≤140737488355328:=by
 have:(a+b)*bt≤8388608*1024:=Nat.mul_le_mul h hb
 unfold maxLen;omega
theorem KI {f:FuncId} {x:Arg T.Tb} {e:Nat} {r:RS T.Tb} (h:aG T Tryz.prog f [x, .c (.sl e [])] r):aG T Tryz.prog f [x, .c (.sc (.slice none 0 0))] r:=by
 refine⟨h.1,fun w vs S hj ha=>h.2 w vs S hj ?_⟩
 obtain⟨v,q,rfl,h1,v2,q2,rfl,⟨rfl,_⟩,rfl⟩:=ha
 exact⟨v,_,rfl,h1,_,_,rfl, .nil e none 0,rfl⟩
theorem Xv (n:SN) (p:List ByteArray) (hn:Bd n) (hp:p.length≤7) (hz:∀x∈p,x.size≤1048576) (ih:p.length≤6→∀k∈n.f1,∀x:ByteArray,x.size≤1048576→aG T Tryz.prog 137 [.ag (T.cells eN k), .c (.sl 9 (p++[x]))] (.c (.sc (.bool (okI (p++[x]) k))))):aG T Tryz.prog 137 [.ag (T.cells eN n), .c (.sl 9 (p))] (.c (.sc (.bool (okI (p) n)))):=by
 refine lJ hT Tryz.func137 (by kernel_rfl) rfl rfl (fun A=>?_)
 have hR:=Xe p n
 generalize okI p n=R at hR⊢
 replace hR:=hR.symm
 refine Vc.seq 0 hT ?_
 conv=>whnf
 refine Vc.seq 1 hT ?_
 conv=>whnf
 refine Split.mk (fun c=>?_) (fun c=>?_)
 ·have h1:¬n.f0.length=n.f1.length:=FY c
  clear c
  conv=>whnf
  refine Split.mk (fun _=>?_) (fun e=>je e)
  conv=>whnf
  refine Split.mk (fun _=>?_) (fun e=>je e)
  conv=>whnf
  exact aA.mk ⟨rfl,rfl⟩ ⟨rfl,rfl⟩ ⟨bv (dP (decide_eq_false h1) hR),trivial⟩
 have hl:n.f0.length=n.f1.length:=FX c
 clear c
 replace hR:=dH (decide_eq_true hl) hR
 conv=>whnf
 refine Split.mk (fun c=>?_) (fun c=>?_)
 ·have h1:¬p.length≤6:=Nat.not_le.2 (U0 (b:=6) c)
  clear c
  conv=>whnf
  refine Split.mk (fun _=>?_) (fun e=>je e)
  conv=>whnf
  exact aA.mk ⟨rfl,rfl⟩ ⟨rfl,rfl⟩ ⟨bv (dP (decide_eq_false h1) hR),trivial⟩
 have h6:p.length≤6:=U2 (b:=6) c
 clear c
 replace hR:=dH (decide_eq_true h6) hR
 conv=>whnf
 refine ay.mk _ (UZ n.f2 hn.l2 (fun x hx=>Nat.le_trans (hn.z2 x hx) (by decide))) ?_
 conv=>whnf
 refine Split.mk (fun c=>?_) (fun c=>?_)
 ·have c1:rX n.f2=false:=bI c
  clear c
  conv=>whnf
  exact aA.mk ⟨rfl,rfl⟩ ⟨rfl,rfl⟩ ⟨bv (dP c1 hR),trivial⟩
 have c1:rX n.f2=true:=bQ c
 clear c
 replace hR:=dH c1 hR
 conv=>whnf
 refine Vc.cut (α:=Unit) 2 (fun _=>lK p n.f0 none n.f1=R) (fun _=>[(2, .c (.px 0 0)),(1,im 9 p)]) (fun _=>[(0,Ae n)]) hT ?_ (fun _ hR=>?_)
 ·conv=>whnf
  refine Split.mk (fun c=>?_) (fun c=>?_)
  ·have h1:0<n.f2.length:=kN c
   clear c
   rw [decide_eq_false (p:=n.f2.length=0) (by omega),Bool.false_or] at hR
   conv=>whnf
   refine ay.mk _ (Nw p (by omega) (rG p hp hz)) ?_
   conv=>whnf
   refine ay.mk _ (PX _ (rG p hp hz)) ?_
   conv=>whnf
   refine Split.mk (fun c=>?_) (fun c=>?_)
   ·have c1:fZ (dB p)=false:=bI c
    clear c
    conv=>whnf
    exact aA.mk ⟨rfl,rfl⟩ ⟨rfl,rfl⟩ ⟨bv (dP c1 hR),trivial⟩
   ·have c1:fZ (dB p)=true:=bQ c
    clear c
    conv=>whnf
    exact jX.mk ⟨(),dH c1 hR,aC [(0,0)] rfl rfl rfl ⟨⟨rfl,rfl⟩,⟨rfl,rfl⟩,trivial⟩ ⟨⟨rfl,rfl⟩,trivial⟩⟩
  ·have h1:n.f2.length=0:=kP c
   clear c
   replace hR:=dH (by rw [decide_eq_true h1];rfl) hR
   conv=>whnf
   refine Split.mk (fun e=>jM e) (fun _=>?_)
   conv=>whnf
   exact jX.mk ⟨(),hR,aC [(0,0)] rfl rfl rfl ⟨⟨rfl,rfl⟩,⟨rfl,rfl⟩,trivial⟩ ⟨⟨rfl,rfl⟩,trivial⟩⟩
 refine Vc.of 1 hT ?_
 conv=>whnf
 refine dR.mk {i:Nat // i≤n.f0.length∧lK p (n.f0.drop i) (iZ n.f0 i) (n.f1.drop i)=R} (fun p_=>(1,[(39,i64 p_.1),(38,i64 n.f0.length),(37,im 9 n.f0),(2, .c (.px 0 0)),(1,im 9 p)],[(0,Ae n)])) (fun p=>n.f0.length - p.1) ⟨0,Nat.zero_le _,hR⟩ (aC [(0,0)] rfl rfl rfl ⟨⟨rfl,rfl⟩,⟨rfl,rfl⟩,⟨rfl,rfl⟩,⟨rfl,rfl⟩,⟨rfl,rfl⟩,trivial⟩ ⟨⟨rfl,rfl⟩,trivial⟩) ?_
 rename_i hR0
 clear hR hR0
 rintro⟨i,hi,hR⟩
 conv=>whnf
 refine Split.mk (fun c=>?_) (fun c=>?_)
 ·have hk2:i<n.f0.length:=iJ c
  clear c
  have hk3:i<n.f1.length:=hl▸hk2
  have hx:=hn.z0 _ (getD_mem (d:=ByteArray.empty) hk2)
  have ihk:=ih h6 _ (getD_mem (d:=zN) hk3) _ hx
  rw [Xu hk2 hk3] at hR
  conv=>whnf
  refine Need.mk (idx hk2) ?_
  conv=>whnf
  refine Need.mk (idx hk3) ?_
  conv=>whnf
  refine Split.mk (fun c=>?_) (fun c=>?_)
  ·have h0:0<i:=kN c
   clear c
   have hl0:=hn.l0
   rw [Xo h0 hk2] at hR
   have hpr:=DL h0 (by omega)
   have hpt:(wrap64 ((i:Int) - 1)).toNat=i - 1:=by rw [hpr];rfl
   conv=>whnf
   refine Need.mk (by rw [hpr];exact idx (show i - 1<n.f0.length by omega)) ?_
   conv=>whnf
   refine Split.mk (fun c=>?_) (fun c=>?_)
   ·have c2:Op.bytesLess (n.f0.getD (i - 1) ByteArray.empty).toList (n.f0.getD i ByteArray.empty).toList=false:=(congrArg (fun j=>Op.bytesLess (n.f0.getD j ByteArray.empty).toList (n.f0.getD i ByteArray.empty).toList) hpt.symm).trans (bI c)
    clear c
    conv=>whnf
    refine Split.mk (fun _=>?_) (fun e=>je e)
    conv=>whnf
    refine Split.mk (fun _=>?_) (fun e=>je e)
    conv=>whnf
    exact aA.mk ⟨rfl,rfl⟩ ⟨rfl,rfl⟩ ⟨bv (dP c2 hR),trivial⟩
   ·have c2:Op.bytesLess (n.f0.getD (i - 1) ByteArray.empty).toList (n.f0.getD i ByteArray.empty).toList=true:=(congrArg (fun j=>Op.bytesLess (n.f0.getD j ByteArray.empty).toList (n.f0.getD i ByteArray.empty).toList) hpt.symm).trans (bQ c)
    clear c
    replace hR:=dH c2 hR
    conv=>whnf
    refine ay.mk _ (IU _ (Nat.le_trans hx (by decide))) ?_
    conv=>whnf
    refine Split.mk (fun c=>?_) (fun c=>?_)
    ·have c3:¬(SC (n.f0.getD i ByteArray.empty)).length≤1:=Nat.not_le.2 (U0 (b:=1) c)
     clear c
     conv=>whnf
     refine Split.mk (fun _=>?_) (fun e=>je e)
     conv=>whnf
     exact aA.mk ⟨rfl,rfl⟩ ⟨rfl,rfl⟩ ⟨bv (dP (decide_eq_false c3) hR),trivial⟩
    ·have c3:(SC (n.f0.getD i ByteArray.empty)).length≤1:=U2 (b:=1) c
     clear c
     replace hR:=dH (decide_eq_true c3) hR
     conv=>whnf
     refine ay.mk _ (EX _ _ (Nat.le_trans hx (by decide))) ?_
     conv=>whnf
     refine Split.mk (fun c=>?_) (fun c=>?_)
     ·have c4:=bI c
      conv=>whnf
      exact aA.mk ⟨rfl,rfl⟩ ⟨rfl,rfl⟩ ⟨bv (dP c4 hR),trivial⟩
     ·have c4:=bQ c
      clear c
      replace hR:=dH c4 hR
      conv=>whnf
      refine Split.mk (fun c=>?_) (fun c=>?_)
      ·have c5:(n.f1.getD i zN).f1.length=0:=xX c
       clear c
       conv=>whnf
       refine Split.mk (fun c=>?_) (fun c=>?_)
       ·have c6:(n.f1.getD i zN).f2.length=0:=xX c
        clear c
        conv=>whnf
        refine bC.mk ⟨by kernel_rfl,by kernel_rfl⟩ ?_
        conv=>whnf
        refine Split.mk (fun _=>?_) (fun e=>je e)
        conv=>whnf
        exact aA.mk ⟨rfl,rfl⟩ ⟨rfl,rfl⟩ ⟨bv (ZL c5 c6 hR),trivial⟩
       ·have c6:(n.f1.getD i zN).f2.length≠0:=xY c
        clear c
        replace hR:=ZK c5 c6 hR
        conv=>whnf
        refine Need.mk ⟨yP,dD (a:=0) (b:=p.length) (by omega) (by decide)⟩ ?_
        conv=>whnf
        refine Need.mk (dD (a:=p.length) (b:=1) (by omega) (by decide)) ?_
        conv=>whnf
        refine ay.mk _ ihk ?_
        conv=>whnf
        refine bC.mk ⟨by kernel_rfl,by kernel_rfl⟩ ?_
        conv=>whnf
        refine Split.mk (fun c=>?_) (fun c=>?_)
        ·have c9:=bI c
         conv=>whnf
         exact aA.mk ⟨rfl,rfl⟩ ⟨rfl,rfl⟩ ⟨bv (dP c9 hR),trivial⟩
        ·have c9:=bQ c
         replace hR:=dH c9 hR
         conv=>whnf
         exact bM.mk ⟨⟨i+1,hk2,hR⟩,Nat.sub_lt_sub_left hk2 (Nat.lt_succ_self i),aC [(0,0)] rfl rfl rfl ⟨⟨rfl,congrArg i64 (dZ hk2 (Nat.le_trans hn.l0 (by decide)))⟩,⟨rfl,rfl⟩,⟨rfl,rfl⟩,⟨rfl,rfl⟩,⟨rfl,rfl⟩,trivial⟩ ⟨⟨rfl,rfl⟩,trivial⟩⟩
      ·have c5:(n.f1.getD i zN).f1.length≠0:=xY c
       clear c
       replace hR:=ZJ c5 hR
       conv=>whnf
       refine Split.mk (fun e=>jM e) (fun _=>?_)
       conv=>whnf
       refine Need.mk ⟨yP,dD (a:=0) (b:=p.length) (by omega) (by decide)⟩ ?_
       conv=>whnf
       refine Need.mk (dD (a:=p.length) (b:=1) (by omega) (by decide)) ?_
       conv=>whnf
       refine ay.mk _ ihk ?_
       conv=>whnf
       refine bC.mk ⟨by kernel_rfl,by kernel_rfl⟩ ?_
       conv=>whnf
       refine Split.mk (fun c=>?_) (fun c=>?_)
       ·have c9:=bI c
        conv=>whnf
        exact aA.mk ⟨rfl,rfl⟩ ⟨rfl,rfl⟩ ⟨bv (dP c9 hR),trivial⟩
       ·have c9:=bQ c
        replace hR:=dH c9 hR
        conv=>whnf
        exact bM.mk ⟨⟨i+1,hk2,hR⟩,Nat.sub_lt_sub_left hk2 (Nat.lt_succ_self i),aC [(0,0)] rfl rfl rfl ⟨⟨rfl,congrArg i64 (dZ hk2 (Nat.le_trans hn.l0 (by decide)))⟩,⟨rfl,rfl⟩,⟨rfl,rfl⟩,⟨rfl,rfl⟩,⟨rfl,rfl⟩,trivial⟩ ⟨⟨rfl,rfl⟩,trivial⟩⟩
  ·have h0:i=0:=kP c
   clear c
   subst h0
   rw [IX,Bool.true_and] at hR
   conv=>whnf
   refine Split.mk (fun e=>jM e) (fun _=>?_)
   conv=>whnf
   refine ay.mk _ (IU _ (Nat.le_trans hx (by decide))) ?_
   conv=>whnf
   refine Split.mk (fun c=>?_) (fun c=>?_)
   ·have c3:¬(SC (n.f0.getD 0 ByteArray.empty)).length≤1:=Nat.not_le.2 (U0 (b:=1) c)
    clear c
    conv=>whnf
    refine Split.mk (fun _=>?_) (fun e=>je e)
    conv=>whnf
    exact aA.mk ⟨rfl,rfl⟩ ⟨rfl,rfl⟩ ⟨bv (dP (decide_eq_false c3) hR),trivial⟩
   ·have c3:(SC (n.f0.getD 0 ByteArray.empty)).length≤1:=U2 (b:=1) c
    clear c
    replace hR:=dH (decide_eq_true c3) hR
    conv=>whnf
    refine ay.mk _ (EX _ _ (Nat.le_trans hx (by decide))) ?_
    conv=>whnf
    refine Split.mk (fun c=>?_) (fun c=>?_)
    ·have c4:=bI c
     conv=>whnf
     exact aA.mk ⟨rfl,rfl⟩ ⟨rfl,rfl⟩ ⟨bv (dP c4 hR),trivial⟩
    ·have c4:=bQ c
     clear c
     replace hR:=dH c4 hR
     conv=>whnf
     refine Split.mk (fun c=>?_) (fun c=>?_)
     ·have c5:(n.f1.getD 0 zN).f1.length=0:=xX c
      clear c
      conv=>whnf
      refine Split.mk (fun c=>?_) (fun c=>?_)
      ·have c6:(n.f1.getD 0 zN).f2.length=0:=xX c
       clear c
       conv=>whnf
       refine bC.mk ⟨by kernel_rfl,by kernel_rfl⟩ ?_
       conv=>whnf
       refine Split.mk (fun _=>?_) (fun e=>je e)
       conv=>whnf
       exact aA.mk ⟨rfl,rfl⟩ ⟨rfl,rfl⟩ ⟨bv (ZL c5 c6 hR),trivial⟩
      ·have c6:(n.f1.getD 0 zN).f2.length≠0:=xY c
       clear c
       replace hR:=ZK c5 c6 hR
       conv=>whnf
       refine Need.mk ⟨yP,dD (a:=0) (b:=p.length) (by omega) (by decide)⟩ ?_
       conv=>whnf
       refine Need.mk (dD (a:=p.length) (b:=1) (by omega) (by decide)) ?_
       conv=>whnf
       refine ay.mk _ ihk ?_
       conv=>whnf
       refine bC.mk ⟨by kernel_rfl,by kernel_rfl⟩ ?_
       conv=>whnf
       refine Split.mk (fun c=>?_) (fun c=>?_)
       ·have c9:=bI c
        conv=>whnf
        exact aA.mk ⟨rfl,rfl⟩ ⟨rfl,rfl⟩ ⟨bv (dP c9 hR),trivial⟩
       ·have c9:=bQ c
        replace hR:=dH c9 hR
        conv=>whnf
        exact bM.mk ⟨⟨0+1,hk2,hR⟩,Nat.sub_lt_sub_left hk2 (Nat.lt_succ_self 0),aC [(0,0)] rfl rfl rfl ⟨⟨rfl,congrArg i64 (dZ hk2 (Nat.le_trans hn.l0 (by decide)))⟩,⟨rfl,rfl⟩,⟨rfl,rfl⟩,⟨rfl,rfl⟩,⟨rfl,rfl⟩,trivial⟩ ⟨⟨rfl,rfl⟩,trivial⟩⟩
     ·have c5:(n.f1.getD 0 zN).f1.length≠0:=xY c
      clear c
      replace hR:=ZJ c5 hR
      conv=>whnf
      refine Split.mk (fun e=>jM e) (fun _=>?_)
      conv=>whnf
      refine Need.mk ⟨yP,dD (a:=0) (b:=p.length) (by omega) (by decide)⟩ ?_
      conv=>whnf
      refine Need.mk (dD (a:=p.length) (b:=1) (by omega) (by decide)) ?_
      conv=>whnf
      refine ay.mk _ ihk ?_
      conv=>whnf
      refine bC.mk ⟨by kernel_rfl,by kernel_rfl⟩ ?_
      conv=>whnf
      refine Split.mk (fun c=>?_) (fun c=>?_)
      ·have c9:=bI c
       conv=>whnf
       exact aA.mk ⟨rfl,rfl⟩ ⟨rfl,rfl⟩ ⟨bv (dP c9 hR),trivial⟩
      ·have c9:=bQ c
       replace hR:=dH c9 hR
       conv=>whnf
       exact bM.mk ⟨⟨0+1,hk2,hR⟩,Nat.sub_lt_sub_left hk2 (Nat.lt_succ_self 0),aC [(0,0)] rfl rfl rfl ⟨⟨rfl,congrArg i64 (dZ hk2 (Nat.le_trans hn.l0 (by decide)))⟩,⟨rfl,rfl⟩,⟨rfl,rfl⟩,⟨rfl,rfl⟩,⟨rfl,rfl⟩,trivial⟩ ⟨⟨rfl,rfl⟩,trivial⟩⟩
 ·have hk2:i=n.f0.length:=Nat.le_antisymm hi (iK c)
  subst hk2
  conv=>whnf
  exact aA.mk ⟨rfl,rfl⟩ ⟨rfl,rfl⟩ ⟨bv (hR.symm.trans Y0),trivial⟩
theorem Xw:∀(n:SN),Bd n→∀p:List ByteArray,p.length≤7→(∀x∈p,x.size≤1048576)→aG T Tryz.prog 137 [.ag (T.cells eN n), .c (.sl 9 (p))] (.c (.sc (.bool (okI (p) n)))):=fun n hn p hp hz=>
 Xv n p hn hp hz (fun h k hk x hx=>Xw k (hn.kid k hk) (p++[x]) (by rw [List.length_append];show p.length+1≤7;omega) (fun y hy=>(List.mem_append.1 hy).elim (hz y) (fun h=>by rw [List.mem_singleton.1 h];exact hx)))
termination_by n=>SizeOf.sizeOf n
decreasing_by exact lY hk
theorem GH (n:SN) (hn:Bd n):aG T Tryz.prog 73 [.ag (T.cells eN n)] (.c (.sc (.bool (jJ n)))):=by
 refine aH hT Tryz.func73 (by kernel_rfl) rfl rfl (fun A=>?_)
 conv=>whnf
 refine Split.mk (fun c=>?_) (fun c=>?_)
 ·have h0:n.f2.length=0:=xX c
  clear c
  conv=>whnf
  refine ay.mk _ (KI (Xw n hn [] (by decide) (fun x hx=>by cases hx))) ?_
  conv=>whnf
  exact aA.mk ⟨rfl,rfl⟩ ⟨rfl,rfl⟩ ⟨bv (by unfold jJ;rw [decide_eq_true h0];rfl),trivial⟩
 ·have h0:n.f2.length≠0:=xY c
  clear c
  conv=>whnf
  exact aA.mk ⟨rfl,rfl⟩ ⟨rfl,rfl⟩ ⟨bv (by unfold jJ;rw [decide_eq_false h0];rfl),trivial⟩
end Go.Proofs.YtcnfgfomholheaaGreatDoor.Q
end
section
namespace Go.Proofs.YtcnfgfomholheaaGreatDoor.Q
open Go.RowKit Go.Proofs.YtcnfgfomholheaaGreatDoor.Z Go.Proofs.YtcnfgfomholheaaGreatDoor.Pure
set_option linter.unusedVariables false
set_option linter.unusedSimpArgs false
set_option maxRecDepth 100000
set_option maxHeartbeats 4000000
theorem Y1 (l:List SS) (hl:l.length≤8388608):aG T Tryz.prog 170 [.c (.sl eS l)] (.c (.ow eS l)):=by
 refine aH hT Tryz.func170 (by kernel_rfl) rfl rfl (fun A=>?_)
 conv=>whnf
 refine Need.mk ⟨Zh,dD (a:=0) (b:=l.length) (by omega) (by decide)⟩ ?_
 conv=>whnf
 exact aA.mk ⟨rfl,rfl⟩ ⟨rfl,rfl⟩ ⟨rfl,trivial⟩
abbrev bxZ:dA T:= .bx eN [.sc (.slice none 0 0), .sc (.slice none 0 0), .sc (.slice none 0 0)]
theorem getD_in {α:Type} (l:List α) (k:Nat) (d:α) (h:k<l.length):l.getD k d=l[k]:=by simp [h]
theorem take_snoc {l:List SN} {k:Nat} (h:k<l.length):l.take k++[(⟨(bZ T eN l k).f0,(bZ T eN l k).f1,(bZ T eN l k).f2⟩:SN)]=l.take (k+1):=by
 rw [show(⟨(bZ T eN l k).f0,(bZ T eN l k).f1,(bZ T eN l k).f2⟩:SN)=l[k] from(ab9 _).trans (getD_in (α:=SN) l k (T.df eN) h),List.take_succ_eq_append_getElem h]
theorem QM (n:SN) (hn:Bd n) (ih:∀k∈n.f1,aG T Tryz.prog 99 [.ag (T.cells eN k)] (.ag [.ow 9 k.f0, .ow eN k.f1, .ow eS k.f2])):aG T Tryz.prog 99 [.ag (T.cells eN n)] (.ag [.ow 9 n.f0, .ow eN n.f1, .ow eS n.f2]):=by
 refine lJ hT Tryz.func99 (by kernel_rfl) rfl rfl (fun A=>?_)
 refine Vc.seq 0 hT ?_
 conv=>whnf
 refine Vc.seq 2 hT ?_
 conv=>whnf
 refine Need.mk ⟨yP,dD (a:=0) (b:=n.f0.length) (by have:=hn.l0;omega) (by decide)⟩ ?_
 conv=>whnf
 refine ay.mk _ (Y1 n.f2 (Nat.le_trans hn.l2 (by decide))) ?_
 conv=>whnf
 refine bC.mk ⟨by kernel_rfl,by kernel_rfl⟩ ?_
 conv=>whnf
 refine Vc.of 10 hT ?_
 conv=>whnf
 refine dR.mk {k:Nat // k≤n.f1.length} (fun p=>(7,[(17,i64 p.1),(16,i64 n.f1.length),(15,im eN n.f1),(3, .c (.px 5 0)),(2, .c (.px 1 0))],[(5, .bx eN [.hd 3, .hd 6, .hd 4]),(3, .row 3 9 n.f0),(6, .row 6 eN (n.f1.take p.1)),(4, .row 4 eS n.f2),(1,bxZ)])) (fun p=>n.f1.length - p.1) ⟨0,Nat.zero_le _⟩ ((NC 5 1 20 eN (t:=eN) (cs:=[.hd 3, .sc (.slice none 0 0), .hd 4]) rfl rfl rfl).trans (aC [(5,5),(3,3),(6,20),(4,4),(1,1)] rfl rfl rfl ⟨⟨rfl,rfl⟩,⟨rfl,rfl⟩,⟨rfl,rfl⟩,⟨rfl,rfl⟩,⟨rfl,rfl⟩,trivial⟩ ⟨⟨rfl,rfl⟩,(show bU (T:=T) 9 n.f0 9 n.f0 from fO rfl),(show bU (T:=T) eN (n.f1.take 0) eN (n.f1.take 0) from fO rfl),(show bU (T:=T) eS n.f2 eS n.f2 from fO rfl),⟨rfl,rfl⟩,trivial⟩)) ?_
 rintro⟨k,hk⟩
 conv=>whnf
 refine Split.mk (fun c=>?_) (fun c=>?_)
 ·have hk2:k<n.f1.length:=iJ c
  clear c
  have hl1:=hn.l1
  conv=>whnf
  refine Need.mk (idx hk2) ?_
  conv=>whnf
  refine ay.mk _ (ih _ (getD_mem (d:=zN) hk2)) ?_
  conv=>whnf
  refine Need.mk (dD (a:=(n.f1.take k).length) (b:=1) (by rw [List.length_take];omega) (by decide)) ?_
  conv=>whnf
  refine bC.mk ⟨by kernel_rfl,by kernel_rfl⟩ ?_
  conv=>whnf
  exact bM.mk ⟨⟨k+1,hk2⟩,Nat.sub_lt_sub_left hk2 (Nat.lt_succ_self k),aC [(5,5),(3,3),(6,12),(4,4),(1,1)] rfl rfl rfl ⟨⟨rfl,congrArg i64 (dZ hk2 (by omega))⟩,⟨rfl,rfl⟩,⟨rfl,rfl⟩,⟨rfl,rfl⟩,⟨rfl,rfl⟩,trivial⟩ ⟨⟨rfl,rfl⟩,(show bU (T:=T) 9 n.f0 9 n.f0 from fO rfl),(show bU (T:=T) eN (n.f1.take k++[(⟨(bZ T eN n.f1 k).f0,(bZ T eN n.f1 k).f1,(bZ T eN n.f1 k).f2⟩:SN)]) eN (n.f1.take (k+1)) from fO (take_snoc hk2)),(show bU (T:=T) eS n.f2 eS n.f2 from fO rfl),⟨rfl,rfl⟩,trivial⟩⟩
 ·have hk2:k=n.f1.length:=Nat.le_antisymm hk (iK c)
  subst hk2
  conv=>whnf
  exact aA.mk ⟨rfl,rfl⟩ ⟨rfl,rfl⟩ ⟨rfl,fO (List.take_length),rfl,trivial⟩
theorem NS:∀(n:SN),Bd n→aG T Tryz.prog 99 [.ag (T.cells eN n)] (.ag [.ow 9 n.f0, .ow eN n.f1, .ow eS n.f2]):=fun n hn=>
 QM n hn (fun k hk=>NS k (by cases hn with | mk _ _ _ _ _ _ h=>exact h k hk))
termination_by n=>SizeOf.sizeOf n
decreasing_by exact lY hk
end Go.Proofs.YtcnfgfomholheaaGreatDoor.Q
end
section
namespace Go.Proofs.YtcnfgfomholheaaGreatDoor.Q
open Go.RowKit Go.Proofs.YtcnfgfomholheaaGreatDoor.Z
set_option linter.unusedVariables false
set_option linter.unusedSimpArgs false
set_option maxRecDepth 100000
set_option maxHeartbeats 4000000
def iD {α:Type} (F:α→Int→Int):List α→Int→Int
 | [],x=>x
 | a::l,x=>thenS (F a x) (iD F l)
theorem nN {α:Type} {F:α→Int→Int} {d:α} {l:List α} {k:Nat} {x:Int} (h:k<l.length):iD F (l.drop k) x=thenS (F (l.getD k d) x) (iD F (l.drop (k+1))):=by
 rw [List.drop_eq_getElem_cons h]
 have:l.getD k d=l[k]:=by simp [h]
 rw [this];rfl
theorem Et {α:Type} {F:α→Int→Int} {l:List α} {x:Int}:iD F (l.drop l.length) x=x:=by rw [List.drop_length];rfl
theorem ql {α:Type} {F:α→Int→Int}:∀{l:List α} {x:Int},(∀a∈l,∀x,0≤x→F a x≤x)→0≤x→iD F l x≤x
 | [],x,_,_=>Int.le_refl _
 | a::l,x,hF,h=>by
   show thenS _ _≤x
   unfold thenS
   split
   ·omega
   ·have h2:=hF a List.mem_cons_self x h
    have:=ql (F:=F) (l:=l) (x:=F a x) (fun b hb=>hF b (List.mem_cons_of_mem _ hb)) (by omega)
    omega
theorem uf {r x:Int} {K:Int→Int} (h0:0≤x) (h1:r≤x) (h2:0≤r→K r≤r):thenS r K≤x:=by
 unfold thenS;split
 ·omega
 ·have:=h2 (by omega);omega
theorem SH {n:Nat} {x:Int} (h0:0≤x) (h1:x≤1048576) (hn:n≤140737488351232) (c:decide (wrap64 (x - (n:Int))<0)=true):dW n x= -1:=Wi h0 (by omega) hn c
theorem SL {n:Nat} {x:Int} (h0:0≤x) (h1:x≤1048576) (hn:n≤140737488351232) (c:decide (wrap64 (x - (n:Int))<0)=false):dW n x=wrap64 (x - (n:Int)):=(Wj h0 (by omega) hn c).1
theorem aaV (l:List Int) (x:Int) (h0:0≤x) (h1:x≤1048576) (hl:l.length≤140737488351232):aG T Tryz.prog 215 [.c (.sl 5 l), .c (.sc (.int .i64 x))] (.c (.sc (.int .i64 (dW l.length x)))):=by
 refine aH hT Tryz.func215 (by kernel_rfl) rfl rfl (fun A=>?_)
 conv=>whnf
 refine Split.mk (fun c=>?_) (fun c=>?_)
 ·conv=>whnf
  exact aA.mk ⟨rfl,rfl⟩ ⟨rfl,rfl⟩ ⟨iv (SH h0 h1 hl c),trivial⟩
 ·conv=>whnf
  exact aA.mk ⟨rfl,rfl⟩ ⟨rfl,rfl⟩ ⟨iv (SL h0 h1 hl c),trivial⟩
theorem adg (a:LS) (x:Int) (h0:0≤x) (h1:x≤1048576) (hl:a.f0.size≤140737488351232):aG T Tryz.prog 27 [.ag (T.cells AP a), .c (.sc (.int .i64 x))] (.c (.sc (.int .i64 (dW a.f0.size x)))):=by
 refine aH hT Tryz.func27 (by kernel_rfl) rfl rfl (fun A=>?_)
 conv=>whnf
 refine Split.mk (fun c=>?_) (fun c=>?_)
 ·conv=>whnf
  exact aA.mk ⟨rfl,rfl⟩ ⟨rfl,rfl⟩ ⟨iv (SH h0 h1 hl c),trivial⟩
 ·conv=>whnf
  exact aA.mk ⟨rfl,rfl⟩ ⟨rfl,rfl⟩ ⟨iv (SL h0 h1 hl c),trivial⟩
theorem ad9 {n:Nat} {x:Int} (c:decide (dW n x<0)=true):dW n x= -1:=by
 have:=Jo c
 unfold dW at*
 split<;>simp_all
def oO (a:LK) (x:Int):Int:=thenS (dW a.f0.size x) (dW a.f1.length)
theorem acn (a:LK) (x:Int) (h0:0≤x) (h1:x≤1048576) (hl:a.f0.size≤140737488351232) (hb:a.f1.length≤140737488351232):aG T Tryz.prog 186 [.ag (T.cells AQ a), .c (.sc (.int .i64 x))] (.c (.sc (.int .i64 (oO a x)))):=by
 refine aH hT Tryz.func186 (by kernel_rfl) rfl rfl (fun A=>?_)
 conv=>whnf
 refine Split.mk (fun c=>?_) (fun c=>?_)
 ·conv=>whnf
  exact aA.mk ⟨rfl,rfl⟩ ⟨rfl,rfl⟩ ⟨iv (Ea h0 (by omega) hl c),trivial⟩
 ·obtain⟨e1,e2,e3⟩:=Eb (K:=dW a.f1.length) h0 (by omega) hl c
  conv=>whnf
  refine ay.mk _ (aaV a.f1 _ e2 (Int.le_trans e3 h1) hb) ?_
  conv=>whnf
  refine Split.mk (fun c=>?_) (fun c=>?_)
  ·conv=>whnf
   exact aA.mk ⟨rfl,rfl⟩ ⟨rfl,rfl⟩ ⟨iv (e1.trans (ad9 c)),trivial⟩
  ·conv=>whnf
   exact aA.mk ⟨rfl,rfl⟩ ⟨rfl,rfl⟩ ⟨iv e1,trivial⟩
theorem Xx (l:List ByteArray) (x:Int) (h0:0≤x) (h1:x≤1048576) (hl:l.length≤140737488351232) (hs:∀y∈l,(y:ByteArray).size≤140737488351232):aG T Tryz.prog 43 [.c (.sl 9 l), .c (.sc (.int .i64 x))] (.c (.sc (.int .i64 (thenS (dW l.length x) (iD (fun y:ByteArray=>dW y.size) l))))):=by
 have h2:x≤4611686018427387904:=by omega
 refine aH hT Tryz.func43 (by kernel_rfl) rfl rfl (fun A=>?_)
 conv=>whnf
 refine Split.mk (fun c=>?_) (fun c=>?_)
 ·conv=>whnf
  exact aA.mk ⟨rfl,rfl⟩ ⟨rfl,rfl⟩ ⟨iv (Ea h0 h2 hl c),trivial⟩
 ·obtain⟨e1,e2,e3⟩:=Eb (K:=iD (fun y:ByteArray=>dW y.size) l) h0 h2 hl c
  rw [e1]
  generalize hR:iD (fun y:ByteArray=>dW y.size) l (wrap64 (x - (l.length:Int)))=R
  conv=>whnf
  refine dR.mk {p:Nat × Int // p.1≤l.length∧0≤p.2∧p.2≤x∧iD (fun y:ByteArray=>dW y.size) (l.drop p.1) p.2=R} (fun p=>(0,[(5,i64 p.1.1),(1,i64 p.1.2),(0,im 9 l)],[])) (fun p=>l.length - p.1.1) ⟨(0,_),Nat.zero_le _,e2,e3,hR⟩ (aC [] rfl rfl rfl ⟨⟨rfl,rfl⟩,⟨rfl,rfl⟩,⟨rfl,rfl⟩,trivial⟩ trivial) ?_
  rintro⟨⟨k,y⟩,hk,p0,p1,hR⟩
  have p2:y≤4611686018427387904:=Int.le_trans p1 h2
  have p3:y≤1048576:=Int.le_trans p1 h1
  conv=>whnf
  refine Split.mk (fun c=>?_) (fun c=>?_)
  ·have hk2:k<l.length:=iJ c
   conv=>whnf
   refine Need.mk (idx hk2) ?_
   conv=>whnf
   refine Split.mk (fun c=>?_) (fun c=>?_)
   ·conv=>whnf
    exact aA.mk ⟨rfl,rfl⟩ ⟨rfl,rfl⟩ ⟨iv ((hR.symm.trans (nN (F:=fun y:ByteArray=>dW y.size) (d:=(T.df 9)) hk2)).trans (Ea p0 p2 (hs _ (getD_mem hk2)) c)),trivial⟩
   ·obtain⟨g1,g2,g3⟩:=Eb (K:=iD (fun y:ByteArray=>dW y.size) (l.drop (k+1))) p0 p2 (hs _ (getD_mem hk2)) c
    conv=>whnf
    exact bM.mk ⟨⟨(k+1,_),hk2,g2,Int.le_trans g3 p1,(g1.symm.trans (nN (F:=fun y:ByteArray=>dW y.size) (d:=(T.df 9)) hk2).symm).trans hR⟩,Nat.sub_lt_sub_left hk2 (Nat.lt_succ_self k),aC [] rfl rfl rfl ⟨⟨rfl,congrArg i64 (dZ hk2 hl)⟩,⟨rfl,rfl⟩,⟨rfl,rfl⟩,trivial⟩ trivial⟩
  ·have hk2:k=l.length:=Nat.le_antisymm hk (iK c)
   conv=>whnf
   subst hk2
   exact aA.mk ⟨rfl,rfl⟩ ⟨rfl,rfl⟩ ⟨iv (hR.symm.trans Et),trivial⟩
theorem aco (l:List LS) (x:Int) (h0:0≤x) (h1:x≤1048576) (hl:l.length≤140737488351232) (hs:∀y∈l,(y:LS).f0.size≤140737488351232):aG T Tryz.prog 94 [.c (.sl AP l), .c (.sc (.int .i64 x))] (.c (.sc (.int .i64 (thenS (dW l.length x) (iD (fun y:LS=>dW y.f0.size) l))))):=by
 have h2:x≤4611686018427387904:=by omega
 refine aH hT Tryz.func94 (by kernel_rfl) rfl rfl (fun A=>?_)
 conv=>whnf
 refine Split.mk (fun c=>?_) (fun c=>?_)
 ·conv=>whnf
  exact aA.mk ⟨rfl,rfl⟩ ⟨rfl,rfl⟩ ⟨iv (Ea h0 h2 hl c),trivial⟩
 ·obtain⟨e1,e2,e3⟩:=Eb (K:=iD (fun y:LS=>dW y.f0.size) l) h0 h2 hl c
  rw [e1]
  generalize hR:iD (fun y:LS=>dW y.f0.size) l (wrap64 (x - (l.length:Int)))=R
  conv=>whnf
  refine dR.mk {p:Nat × Int // p.1≤l.length∧0≤p.2∧p.2≤x∧iD (fun y:LS=>dW y.f0.size) (l.drop p.1) p.2=R} (fun p=>(0,[(5,i64 p.1.1),(1,i64 p.1.2),(0,im AP l)],[])) (fun p=>l.length - p.1.1) ⟨(0,_),Nat.zero_le _,e2,e3,hR⟩ (aC [] rfl rfl rfl ⟨⟨rfl,rfl⟩,⟨rfl,rfl⟩,⟨rfl,rfl⟩,trivial⟩ trivial) ?_
  rintro⟨⟨k,y⟩,hk,p0,p1,hR⟩
  have p2:y≤4611686018427387904:=Int.le_trans p1 h2
  have p3:y≤1048576:=Int.le_trans p1 h1
  conv=>whnf
  refine Split.mk (fun c=>?_) (fun c=>?_)
  ·have hk2:k<l.length:=iJ c
   conv=>whnf
   refine Need.mk (idx hk2) ?_
   conv=>whnf
   refine ay.mk _ (adg (l.getD k (T.df AP)) y p0 p3 (hs _ (getD_mem hk2))) ?_
   conv=>whnf
   refine Split.mk (fun c=>?_) (fun c=>?_)
   ·conv=>whnf
    exact aA.mk ⟨rfl,rfl⟩ ⟨rfl,rfl⟩ ⟨iv ((hR.symm.trans (nN (F:=fun y:LS=>dW y.f0.size) (d:=(T.df AP)) hk2)).trans (DJ c)),trivial⟩
   ·obtain⟨g1,g2⟩:=DK (K:=iD (fun y:LS=>dW y.f0.size) (l.drop (k+1))) c
    conv=>whnf
    exact bM.mk ⟨⟨(k+1,(fun y:LS=>dW y.f0.size) (l.getD k (T.df AP)) y),hk2,g2,Int.le_trans (jl p0) p1,(g1.symm.trans (nN (F:=fun y:LS=>dW y.f0.size) (d:=(T.df AP)) hk2).symm).trans hR⟩,Nat.sub_lt_sub_left hk2 (Nat.lt_succ_self k),aC [] rfl rfl rfl ⟨⟨rfl,congrArg i64 (dZ hk2 hl)⟩,⟨rfl,rfl⟩,⟨rfl,rfl⟩,trivial⟩ trivial⟩
  ·have hk2:k=l.length:=Nat.le_antisymm hk (iK c)
   conv=>whnf
   subst hk2
   exact aA.mk ⟨rfl,rfl⟩ ⟨rfl,rfl⟩ ⟨iv (hR.symm.trans Et),trivial⟩
theorem Jp {a:LK} {x:Int} (h:0≤x):oO a x≤x:=uf h (jl h) (fun h=>jl h)
theorem aal (l:List LK) (x:Int) (h0:0≤x) (h1:x≤1048576) (hl:l.length≤140737488351232) (hs:∀y∈l,(y:LK).f0.size≤140737488351232∧(y:LK).f1.length≤140737488351232):aG T Tryz.prog 119 [.c (.sl AQ l), .c (.sc (.int .i64 x))] (.c (.sc (.int .i64 (thenS (dW l.length x) (iD (oO) l))))):=by
 have h2:x≤4611686018427387904:=by omega
 refine aH hT Tryz.func119 (by kernel_rfl) rfl rfl (fun A=>?_)
 conv=>whnf
 refine Split.mk (fun c=>?_) (fun c=>?_)
 ·conv=>whnf
  exact aA.mk ⟨rfl,rfl⟩ ⟨rfl,rfl⟩ ⟨iv (Ea h0 h2 hl c),trivial⟩
 ·obtain⟨e1,e2,e3⟩:=Eb (K:=iD (oO) l) h0 h2 hl c
  rw [e1]
  generalize hR:iD (oO) l (wrap64 (x - (l.length:Int)))=R
  conv=>whnf
  refine dR.mk {p:Nat × Int // p.1≤l.length∧0≤p.2∧p.2≤x∧iD (oO) (l.drop p.1) p.2=R} (fun p=>(0,[(5,i64 p.1.1),(1,i64 p.1.2),(0,im AQ l)],[])) (fun p=>l.length - p.1.1) ⟨(0,_),Nat.zero_le _,e2,e3,hR⟩ (aC [] rfl rfl rfl ⟨⟨rfl,rfl⟩,⟨rfl,rfl⟩,⟨rfl,rfl⟩,trivial⟩ trivial) ?_
  rintro⟨⟨k,y⟩,hk,p0,p1,hR⟩
  have p2:y≤4611686018427387904:=Int.le_trans p1 h2
  have p3:y≤1048576:=Int.le_trans p1 h1
  conv=>whnf
  refine Split.mk (fun c=>?_) (fun c=>?_)
  ·have hk2:k<l.length:=iJ c
   conv=>whnf
   refine Need.mk (idx hk2) ?_
   conv=>whnf
   refine ay.mk _ (acn (l.getD k (T.df AQ)) y p0 p3 (hs _ (getD_mem hk2)).1 (hs _ (getD_mem hk2)).2) ?_
   conv=>whnf
   refine Split.mk (fun c=>?_) (fun c=>?_)
   ·conv=>whnf
    exact aA.mk ⟨rfl,rfl⟩ ⟨rfl,rfl⟩ ⟨iv ((hR.symm.trans (nN (F:=oO) (d:=(T.df AQ)) hk2)).trans (DJ c)),trivial⟩
   ·obtain⟨g1,g2⟩:=DK (K:=iD (oO) (l.drop (k+1))) c
    conv=>whnf
    exact bM.mk ⟨⟨(k+1,(oO) (l.getD k (T.df AQ)) y),hk2,g2,Int.le_trans (Jp p0) p1,(g1.symm.trans (nN (F:=oO) (d:=(T.df AQ)) hk2).symm).trans hR⟩,Nat.sub_lt_sub_left hk2 (Nat.lt_succ_self k),aC [] rfl rfl rfl ⟨⟨rfl,congrArg i64 (dZ hk2 hl)⟩,⟨rfl,rfl⟩,⟨rfl,rfl⟩,trivial⟩ trivial⟩
  ·have hk2:k=l.length:=Nat.le_antisymm hk (iK c)
   conv=>whnf
   subst hk2
   exact aA.mk ⟨rfl,rfl⟩ ⟨rfl,rfl⟩ ⟨iv (hR.symm.trans Et),trivial⟩
theorem U3 (l:List LN) (x:Int) (h0:0≤x) (h1:x≤1048576) (hl:l.length≤140737488351232) (F:LN→Int→Int) (ih:∀a∈l,∀x,0≤x→x≤1048576→aG T Tryz.prog 18 [.ag (T.cells qK a), .c (.sc (.int .i64 x))] (.c (.sc (.int .i64 (F a x))))∧F a x≤x):aG T Tryz.prog 93 [.c (.sl qK l), .c (.sc (.int .i64 x))] (.c (.sc (.int .i64 (thenS (dW l.length x) (iD (F) l))))):=by
 have h2:x≤4611686018427387904:=by omega
 refine aH hT Tryz.func93 (by kernel_rfl) rfl rfl (fun A=>?_)
 conv=>whnf
 refine Split.mk (fun c=>?_) (fun c=>?_)
 ·conv=>whnf
  exact aA.mk ⟨rfl,rfl⟩ ⟨rfl,rfl⟩ ⟨iv (Ea h0 h2 hl c),trivial⟩
 ·obtain⟨e1,e2,e3⟩:=Eb (K:=iD (F) l) h0 h2 hl c
  rw [e1]
  generalize hR:iD (F) l (wrap64 (x - (l.length:Int)))=R
  conv=>whnf
  refine dR.mk {p:Nat × Int // p.1≤l.length∧0≤p.2∧p.2≤x∧iD (F) (l.drop p.1) p.2=R} (fun p=>(0,[(5,i64 p.1.1),(1,i64 p.1.2),(0,im qK l)],[])) (fun p=>l.length - p.1.1) ⟨(0,_),Nat.zero_le _,e2,e3,hR⟩ (aC [] rfl rfl rfl ⟨⟨rfl,rfl⟩,⟨rfl,rfl⟩,⟨rfl,rfl⟩,trivial⟩ trivial) ?_
  rintro⟨⟨k,y⟩,hk,p0,p1,hR⟩
  have p2:y≤4611686018427387904:=Int.le_trans p1 h2
  have p3:y≤1048576:=Int.le_trans p1 h1
  conv=>whnf
  refine Split.mk (fun c=>?_) (fun c=>?_)
  ·have hk2:k<l.length:=iJ c
   conv=>whnf
   refine Need.mk (idx hk2) ?_
   conv=>whnf
   refine ay.mk _ ((ih (l.getD k (T.df qK)) (getD_mem hk2) y p0 p3).1) ?_
   conv=>whnf
   refine Split.mk (fun c=>?_) (fun c=>?_)
   ·conv=>whnf
    exact aA.mk ⟨rfl,rfl⟩ ⟨rfl,rfl⟩ ⟨iv ((hR.symm.trans (nN (F:=F) (d:=(T.df qK)) hk2)).trans (DJ c)),trivial⟩
   ·obtain⟨g1,g2⟩:=DK (K:=iD (F) (l.drop (k+1))) c
    conv=>whnf
    exact bM.mk ⟨⟨(k+1,(F) (l.getD k (T.df qK)) y),hk2,g2,Int.le_trans ((ih (l.getD k (T.df qK)) (getD_mem hk2) y p0 p3).2) p1,(g1.symm.trans (nN (F:=F) (d:=(T.df qK)) hk2).symm).trans hR⟩,Nat.sub_lt_sub_left hk2 (Nat.lt_succ_self k),aC [] rfl rfl rfl ⟨⟨rfl,congrArg i64 (dZ hk2 hl)⟩,⟨rfl,rfl⟩,⟨rfl,rfl⟩,trivial⟩ trivial⟩
  ·have hk2:k=l.length:=Nat.le_antisymm hk (iK c)
   conv=>whnf
   subst hk2
   exact aA.mk ⟨rfl,rfl⟩ ⟨rfl,rfl⟩ ⟨iv (hR.symm.trans Et),trivial⟩
theorem Jm {α:Type} {F:α→Int→Int} (hF:∀a x,0≤x→F a x<0→F a x= -1):∀{l:List α} {x:Int},0≤x→iD F l x<0→iD F l x= -1
 | [],x,h,h2=>by have:x<0:=h2;omega
 | a::l,x,h,h2=>by
   show thenS _ _= -1
   replace h2:thenS (F a x) (iD F l)<0:=h2
   by_cases hr:F a x<0
   ·unfold thenS;rw [if_pos hr]
   ·unfold thenS at*;rw [if_neg hr] at*;exact Jm hF (by omega) h2
theorem Rh {n:Nat} {x:Int} (h:dW n x<0):dW n x= -1:=by unfold dW at*;split<;>simp_all
theorem aea {l:List LS} {x:Int} (c:decide (thenS (dW l.length x) (iD (fun y:LS=>dW y.f0.size) l)<0)=true):thenS (dW l.length x) (iD (fun y:LS=>dW y.f0.size) l)= -1:=by
 have h:=Jo c
 by_cases hr:dW l.length x<0
 ·unfold thenS;rw [if_pos hr]
 ·unfold thenS at*;rw [if_neg hr] at*;exact Jm (fun a x _ h=>Rh h) (by omega) h
abbrev EF (l:List ByteArray) (x:Int):Int:=thenS (dW l.length x) (iD (fun y:ByteArray=>dW y.size) l)
abbrev Af (l:List LS) (x:Int):Int:=thenS (dW l.length x) (iD (fun y:LS=>dW y.f0.size) l)
theorem NK {l:List ByteArray} {x:Int} (h:0≤x):EF l x≤x:=uf h (jl h) (fun h=>ql (fun a _ x hx=>jl hx) h)
theorem acp {l:List LS} {x:Int} (h:0≤x):Af l x≤x:=uf h (jl h) (fun h=>ql (fun a _ x hx=>jl hx) h)
mutual
def l7:LN→Int→Int
 | ⟨a,b,c⟩,x=>thenS (EF a x) fun x=>thenS (thenS (dW b.length x) (PZ b)) fun x=>Af c x
def PZ:List LN→Int→Int
 | [],x=>x
 | a::l,x=>thenS (l7 a x) (PZ l)
end
theorem SQ:∀l:List LN,PZ l=iD l7 l
 | []=>by funext x;rw [PZ];rfl
 | a::l=>by funext x;rw [PZ,SQ l];rfl
theorem NJ (n:LN) (x:Int):l7 n x=thenS (EF n.f0 x) fun x=>thenS (thenS (dW n.f1.length x) (iD l7 n.f1)) fun x=>Af n.f2 x:=by cases n;rw [l7,SQ]
inductive xC:LN→Prop
 | mk (n:LN) (h0:n.f0.length≤140737488351232) (z0:∀y∈n.f0,(y:ByteArray).size≤140737488351232) (h1:n.f1.length≤140737488351232) (h2:n.f2.length≤140737488351232) (z2:∀y∈n.f2,(y:LS).f0.size≤140737488351232) (hk:∀k∈n.f1,xC k):xC n
theorem xC.kid {n:LN} (h:xC n):∀k∈n.f1,xC k:=by cases h;assumption
theorem uX:∀(n:LN) {x:Int},0≤x→l7 n x≤x:=fun n x h=>by
 rw [NJ]
 exact uf h (NK h) (fun h=>uf h (uf h (jl h) (fun h=>ql (fun a ha x hx=>uX a hx) h)) (fun h=>acp h))
termination_by n=>SizeOf.sizeOf n
decreasing_by exact yg ha
theorem Xy (a:LN) (ha:xC a) (x:Int) (h0:0≤x) (h1:x≤1048576) (ih:∀x,0≤x→x≤1048576→aG T Tryz.prog 93 [.c (.sl qK a.f1), .c (.sc (.int .i64 x))] (.c (.sc (.int .i64 (thenS (dW a.f1.length x) (iD l7 a.f1)))))):aG T Tryz.prog 18 [.ag (T.cells qK a), .c (.sc (.int .i64 x))] (.c (.sc (.int .i64 (l7 a x)))):=by
 obtain⟨_,l0,z0,l1,l2,z2,_⟩:=ha
 rw [NJ]
 refine aH hT Tryz.func18 (by kernel_rfl) rfl rfl (fun A=>?_)
 conv=>whnf
 refine ay.mk _ (Xx a.f0 x h0 h1 l0 z0) ?_
 conv=>whnf
 refine Split.mk (fun c=>?_) (fun c=>?_)
 ·conv=>whnf
  exact aA.mk ⟨rfl,rfl⟩ ⟨rfl,rfl⟩ ⟨iv (DJ c),trivial⟩
 obtain⟨g1,g2⟩:=DK (K:=fun x=>thenS (thenS (dW a.f1.length x) (iD l7 a.f1)) fun x=>Af a.f2 x) c
 have g3:EF a.f0 x≤1048576:=Int.le_trans (NK h0) h1
 rw [g1]
 clear c g1
 conv=>whnf
 refine ay.mk _ (ih _ g2 g3) ?_
 conv=>whnf
 refine Split.mk (fun c=>?_) (fun c=>?_)
 ·conv=>whnf
  exact aA.mk ⟨rfl,rfl⟩ ⟨rfl,rfl⟩ ⟨iv (DJ c),trivial⟩
 obtain⟨g4,g5⟩:=DK (K:=fun x=>Af a.f2 x) c
 have g6:thenS (dW a.f1.length (EF a.f0 x)) (iD l7 a.f1)≤1048576:=Int.le_trans (uf g2 (jl g2) (fun h=>ql (fun a _ x hx=>uX a hx) h)) g3
 rw [g4]
 clear c g4
 conv=>whnf
 refine ay.mk _ (aco a.f2 _ g5 g6 l2 z2) ?_
 conv=>whnf
 refine Split.mk (fun c=>?_) (fun c=>?_)
 ·conv=>whnf
  exact aA.mk ⟨rfl,rfl⟩ ⟨rfl,rfl⟩ ⟨iv (aea c),trivial⟩
 ·conv=>whnf
  exact aA.mk ⟨rfl,rfl⟩ ⟨rfl,rfl⟩ ⟨rfl,trivial⟩
theorem VA:∀(a:LN),xC a→∀(x:Int) (h0:0≤x) (h1:x≤1048576),aG T Tryz.prog 18 [.ag (T.cells qK a), .c (.sc (.int .i64 x))] (.c (.sc (.int .i64 (l7 a x)))):=fun a ha x h0 h1=>
 Xy a ha x h0 h1 (fun y g0 g1=>U3 a.f1 y g0 g1 (by cases ha;assumption) l7 (fun k hk z z0 z1=>⟨VA k (ha.kid k hk) z z0 z1,uX k z0⟩))
termination_by a=>SizeOf.sizeOf a
decreasing_by exact yg hk
end Go.Proofs.YtcnfgfomholheaaGreatDoor.Q
end
