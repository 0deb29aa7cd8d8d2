/- Several texts of this claim in one (a claim holds at most 60 files). -/
import Derived.Test.YtcnfgfomholheaaGreatDoorZT
import Derived.Test.YtcnfgfomholheaaGreatDoorZc
import Derived.Test.YtcnfgfomholheaaGreatDoorT5
import Derived.Test.YtcnfgfomholheaaGreatDoorT7
import Derived.Test.YtcnfgfomholheaaGreatDoorPx8
section
namespace Go.Proofs.YtcnfgfomholheaaGreatDoor.Q
open Go.RowKit Go.Proofs.YtcnfgfomholheaaGreatDoor.Z
set_option linter.unusedVariables false
set_option linter.unusedSimpArgs false
set_option maxRecDepth 100000
set_option maxHeartbeats 4000000
abbrev i64 (n:Int):Slot T:= .c (.sc (.int .i64 n))
abbrev im (e:Nat) (l:List (T.Tb e)):Slot T:= .c (.im none e l)
abbrev eN:Nat:=31
abbrev eS:Nat:=44
abbrev eK:Nat:=121
abbrev eW:Nat:=113
abbrev eE:Nat:=96
abbrev su:Nat:=26
abbrev Cc:Nat:=41
abbrev Ce:Nat:=186
abbrev pF:Nat:=142
abbrev SN:=BJ
abbrev SS:=FB
abbrev SK:=AQ
abbrev SW:=nR
abbrev SE:=Jj
abbrev LN:=wC
abbrev LS:=yT
abbrev LK:=uI
abbrev LW:=uH
theorem abI (a b:List Int) (ha:a.length≤140737488351232):aH T Tryz.prog 58 [.c (.sl 3 a), .c (.sl 3 b)] (.c (.sc (.bool (same a b)))):=by
 refine aI hT Tryz.func58 (by kernel_rfl) rfl rfl (fun A=>?_)
 conv=>whnf
 refine Split.mk (fun c=>?_) (fun c=>?_)
 ·conv=>whnf
  exact aC.mk ⟨rfl,rfl⟩ ⟨rfl,rfl⟩ ⟨bv (gB (fun e=>wG c (congrArg List.length e))),trivial⟩
 ·have hl:a.length=b.length:=wH c
  conv=>whnf
  refine dU.mk {k:Nat // k≤a.length∧a.take k=b.take k} (fun p=>(0,[(5,i64 p.1),(0,im 3 a),(1,im 3 b)],[])) (fun p=>a.length - p.1) ⟨0,Nat.zero_le _,rfl⟩ (ay [] rfl rfl rfl ⟨⟨rfl,rfl⟩,⟨rfl,rfl⟩,⟨rfl,rfl⟩,trivial⟩ trivial) ?_
  rintro⟨k,hk,ht⟩
  conv=>whnf
  refine Split.mk (fun c=>?_) (fun c=>?_)
  ·have hk2:k<a.length:=gX c
   conv=>whnf
   refine Need.mk (idx hk2) ?_
   conv=>whnf
   refine Need.mk (idx (hl▸hk2)) ?_
   conv=>whnf
   refine bZ.mk ⟨by kernel_rfl,by kernel_rfl⟩ ?_
   conv=>whnf
   refine Split.mk (fun c=>?_) (fun c=>?_)
   ·conv=>whnf
    exact aC.mk ⟨rfl,rfl⟩ ⟨rfl,rfl⟩ ⟨bv (gB (fun e=>wF c (congrArg (fun l=>l.getD k (T.df 3)) e))),trivial⟩
   ·conv=>whnf
    exact bM.mk ⟨⟨k+1,hk2,oH (d:=(T.df 3)) hk2 (hl▸hk2) ht (FQ c)⟩,Nat.sub_lt_sub_left hk2 (Nat.lt_succ_self k),ay [] rfl rfl rfl ⟨⟨rfl,congrArg i64 (eu hk2 ha)⟩,⟨rfl,rfl⟩,⟨rfl,rfl⟩,trivial⟩ trivial⟩
  ·have hk2:k=a.length:=Nat.le_antisymm hk (gY c)
   conv=>whnf
   subst hk2
   exact aC.mk ⟨rfl,rfl⟩ ⟨rfl,rfl⟩ ⟨bv (nD (qo hl ht)),trivial⟩
theorem Xq (a b:List ByteArray) (ha:a.length≤140737488351232):aH T Tryz.prog 47 [.c (.sl 9 a), .c (.sl 9 b)] (.c (.sc (.bool (same a b)))):=by
 refine aI hT Tryz.func47 (by kernel_rfl) rfl rfl (fun A=>?_)
 conv=>whnf
 refine Split.mk (fun c=>?_) (fun c=>?_)
 ·conv=>whnf
  exact aC.mk ⟨rfl,rfl⟩ ⟨rfl,rfl⟩ ⟨bv (gB (fun e=>wG c (congrArg List.length e))),trivial⟩
 ·have hl:a.length=b.length:=wH c
  conv=>whnf
  refine dU.mk {k:Nat // k≤a.length∧a.take k=b.take k} (fun p=>(0,[(5,i64 p.1),(0,im 9 a),(1,im 9 b)],[])) (fun p=>a.length - p.1) ⟨0,Nat.zero_le _,rfl⟩ (ay [] rfl rfl rfl ⟨⟨rfl,rfl⟩,⟨rfl,rfl⟩,⟨rfl,rfl⟩,trivial⟩ trivial) ?_
  rintro⟨k,hk,ht⟩
  conv=>whnf
  refine Split.mk (fun c=>?_) (fun c=>?_)
  ·have hk2:k<a.length:=gX c
   conv=>whnf
   refine Need.mk (idx hk2) ?_
   conv=>whnf
   refine Need.mk (idx (hl▸hk2)) ?_
   conv=>whnf
   refine bZ.mk ⟨by kernel_rfl,by kernel_rfl⟩ ?_
   conv=>whnf
   refine Split.mk (fun c=>?_) (fun c=>?_)
   ·conv=>whnf
    exact aC.mk ⟨rfl,rfl⟩ ⟨rfl,rfl⟩ ⟨bv (gB (fun e=>OY c (congrArg (fun l=>l.getD k (T.df 9)) e))),trivial⟩
   ·conv=>whnf
    exact bM.mk ⟨⟨k+1,hk2,oH (d:=(T.df 9)) hk2 (hl▸hk2) ht (Ur c)⟩,Nat.sub_lt_sub_left hk2 (Nat.lt_succ_self k),ay [] rfl rfl rfl ⟨⟨rfl,congrArg i64 (eu hk2 ha)⟩,⟨rfl,rfl⟩,⟨rfl,rfl⟩,trivial⟩ trivial⟩
  ·have hk2:k=a.length:=Nat.le_antisymm hk (gY c)
   conv=>whnf
   subst hk2
   exact aC.mk ⟨rfl,rfl⟩ ⟨rfl,rfl⟩ ⟨bv (nD (qo hl ht)),trivial⟩
theorem aa4 (a b:List Int) (ha:a.length≤140737488351232):aH T Tryz.prog 52 [.c (.sl 5 a), .c (.sl 5 b)] (.c (.sc (.bool (same a b)))):=by
 refine aI hT Tryz.func52 (by kernel_rfl) rfl rfl (fun A=>?_)
 conv=>whnf
 refine Split.mk (fun c=>?_) (fun c=>?_)
 ·conv=>whnf
  exact aC.mk ⟨rfl,rfl⟩ ⟨rfl,rfl⟩ ⟨bv (gB (fun e=>wG c (congrArg List.length e))),trivial⟩
 ·have hl:a.length=b.length:=wH c
  conv=>whnf
  refine dU.mk {k:Nat // k≤a.length∧a.take k=b.take k} (fun p=>(0,[(5,i64 p.1),(0,im 5 a),(1,im 5 b)],[])) (fun p=>a.length - p.1) ⟨0,Nat.zero_le _,rfl⟩ (ay [] rfl rfl rfl ⟨⟨rfl,rfl⟩,⟨rfl,rfl⟩,⟨rfl,rfl⟩,trivial⟩ trivial) ?_
  rintro⟨k,hk,ht⟩
  conv=>whnf
  refine Split.mk (fun c=>?_) (fun c=>?_)
  ·have hk2:k<a.length:=gX c
   conv=>whnf
   refine Need.mk (idx hk2) ?_
   conv=>whnf
   refine Need.mk (idx (hl▸hk2)) ?_
   conv=>whnf
   refine bZ.mk ⟨by kernel_rfl,by kernel_rfl⟩ ?_
   conv=>whnf
   refine Split.mk (fun c=>?_) (fun c=>?_)
   ·conv=>whnf
    exact aC.mk ⟨rfl,rfl⟩ ⟨rfl,rfl⟩ ⟨bv (gB (fun e=>wF c (congrArg (fun l=>l.getD k (T.df 5)) e))),trivial⟩
   ·conv=>whnf
    exact bM.mk ⟨⟨k+1,hk2,oH (d:=(T.df 5)) hk2 (hl▸hk2) ht (FQ c)⟩,Nat.sub_lt_sub_left hk2 (Nat.lt_succ_self k),ay [] rfl rfl rfl ⟨⟨rfl,congrArg i64 (eu hk2 ha)⟩,⟨rfl,rfl⟩,⟨rfl,rfl⟩,trivial⟩ trivial⟩
  ·have hk2:k=a.length:=Nat.le_antisymm hk (gY c)
   conv=>whnf
   subst hk2
   exact aC.mk ⟨rfl,rfl⟩ ⟨rfl,rfl⟩ ⟨bv (nD (qo hl ht)),trivial⟩
theorem Ze {a b:SS} (h0:a.f0=b.f0) (h1:a.f1=b.f1) (h2:a.f2=b.f2):a=b:=by cases a;cases b;simp_all
theorem adr (a b:SS):aH T Tryz.prog 117 [.ag (T.cells eS a), .ag (T.cells eS b)] (.c (.sc (.bool (same a b)))):=by
 refine aI hT Tryz.func117 (by kernel_rfl) rfl rfl (fun A=>?_)
 conv=>whnf
 refine Split.mk (fun c=>?_) (fun c=>?_)
 ·conv=>whnf
  exact aC.mk ⟨rfl,rfl⟩ ⟨rfl,rfl⟩ ⟨bv (gB (fun e=>OY c (congrArg (fun z:SS=>z.f0) e))),trivial⟩
 have c0:a.f0=b.f0:=Ur c
 clear c
 conv=>whnf
 refine Split.mk (fun c=>?_) (fun c=>?_)
 ·conv=>whnf
  exact aC.mk ⟨rfl,rfl⟩ ⟨rfl,rfl⟩ ⟨bv (gB (fun e=>wF c (congrArg (fun z:SS=>z.f1) e))),trivial⟩
 have c1:a.f1=b.f1:=FQ c
 clear c
 conv=>whnf
 refine Split.mk (fun c=>?_) (fun c=>?_)
 ·conv=>whnf
  exact aC.mk ⟨rfl,rfl⟩ ⟨rfl,rfl⟩ ⟨bv (gB (fun e=>wF c (congrArg (fun z:SS=>z.f2) e))),trivial⟩
 have c2:a.f2=b.f2:=FQ c
 clear c
 conv=>whnf
 exact aC.mk ⟨rfl,rfl⟩ ⟨rfl,rfl⟩ ⟨bv (nD (Ze c0 c1 c2)),trivial⟩
theorem acv (a b:List SS) (ha:a.length≤140737488351232):aH T Tryz.prog 33 [.c (.sl eS a), .c (.sl eS b)] (.c (.sc (.bool (same a b)))):=by
 refine aI hT Tryz.func33 (by kernel_rfl) rfl rfl (fun A=>?_)
 conv=>whnf
 refine Split.mk (fun c=>?_) (fun c=>?_)
 ·conv=>whnf
  exact aC.mk ⟨rfl,rfl⟩ ⟨rfl,rfl⟩ ⟨bv (gB (fun e=>wG c (congrArg List.length e))),trivial⟩
 ·have hl:a.length=b.length:=wH c
  conv=>whnf
  refine dU.mk {k:Nat // k≤a.length∧a.take k=b.take k} (fun p=>(0,[(5,i64 p.1),(0,im eS a),(1,im eS b)],[])) (fun p=>a.length - p.1) ⟨0,Nat.zero_le _,rfl⟩ (ay [] rfl rfl rfl ⟨⟨rfl,rfl⟩,⟨rfl,rfl⟩,⟨rfl,rfl⟩,trivial⟩ trivial) ?_
  rintro⟨k,hk,ht⟩
  conv=>whnf
  refine Split.mk (fun c=>?_) (fun c=>?_)
  ·have hk2:k<a.length:=gX c
   conv=>whnf
   refine Need.mk (idx hk2) ?_
   conv=>whnf
   refine Need.mk (idx (hl▸hk2)) ?_
   conv=>whnf
   refine aG.mk _ (adr _ _) ?_
   conv=>whnf
   refine bZ.mk ⟨by kernel_rfl,by kernel_rfl⟩ ?_
   conv=>whnf
   refine Split.mk (fun c=>?_) (fun c=>?_)
   ·conv=>whnf
    exact aC.mk ⟨rfl,rfl⟩ ⟨rfl,rfl⟩ ⟨bv (gB (fun e=>iH (dA c) (congrArg (fun l=>l.getD k (T.df eS)) e))),trivial⟩
   ·conv=>whnf
    exact bM.mk ⟨⟨k+1,hk2,oH (d:=(T.df eS)) hk2 (hl▸hk2) ht (of_same (dM c))⟩,Nat.sub_lt_sub_left hk2 (Nat.lt_succ_self k),ay [] rfl rfl rfl ⟨⟨rfl,congrArg i64 (eu hk2 ha)⟩,⟨rfl,rfl⟩,⟨rfl,rfl⟩,trivial⟩ trivial⟩
  ·have hk2:k=a.length:=Nat.le_antisymm hk (gY c)
   conv=>whnf
   subst hk2
   exact aC.mk ⟨rfl,rfl⟩ ⟨rfl,rfl⟩ ⟨bv (nD (qo hl ht)),trivial⟩
theorem Xr {a b:SW} (h0:a.f0=b.f0) (h1:a.f1=b.f1):a=b:=by cases a;cases b;simp_all
theorem acw (a b:SW):aH T Tryz.prog 129 [.ag (T.cells eW a), .ag (T.cells eW b)] (.c (.sc (.bool (same a b)))):=by
 refine aI hT Tryz.func129 (by kernel_rfl) rfl rfl (fun A=>?_)
 conv=>whnf
 refine Split.mk (fun c=>?_) (fun c=>?_)
 ·conv=>whnf
  exact aC.mk ⟨rfl,rfl⟩ ⟨rfl,rfl⟩ ⟨bv (gB (fun e=>OY c (congrArg (fun z:SW=>z.f0) e))),trivial⟩
 have c0:a.f0=b.f0:=Ur c
 clear c
 conv=>whnf
 refine Split.mk (fun c=>?_) (fun c=>?_)
 ·conv=>whnf
  exact aC.mk ⟨rfl,rfl⟩ ⟨rfl,rfl⟩ ⟨bv (gB (fun e=>wF c (congrArg (fun z:SW=>z.f1) e))),trivial⟩
 have c1:a.f1=b.f1:=FQ c
 clear c
 conv=>whnf
 exact aC.mk ⟨rfl,rfl⟩ ⟨rfl,rfl⟩ ⟨bv (nD (Xr c0 c1)),trivial⟩
theorem aaG (a b:List SW) (ha:a.length≤140737488351232):aH T Tryz.prog 59 [.c (.sl eW a), .c (.sl eW b)] (.c (.sc (.bool (same a b)))):=by
 refine aI hT Tryz.func59 (by kernel_rfl) rfl rfl (fun A=>?_)
 conv=>whnf
 refine Split.mk (fun c=>?_) (fun c=>?_)
 ·conv=>whnf
  exact aC.mk ⟨rfl,rfl⟩ ⟨rfl,rfl⟩ ⟨bv (gB (fun e=>wG c (congrArg List.length e))),trivial⟩
 ·have hl:a.length=b.length:=wH c
  conv=>whnf
  refine dU.mk {k:Nat // k≤a.length∧a.take k=b.take k} (fun p=>(0,[(5,i64 p.1),(0,im eW a),(1,im eW b)],[])) (fun p=>a.length - p.1) ⟨0,Nat.zero_le _,rfl⟩ (ay [] rfl rfl rfl ⟨⟨rfl,rfl⟩,⟨rfl,rfl⟩,⟨rfl,rfl⟩,trivial⟩ trivial) ?_
  rintro⟨k,hk,ht⟩
  conv=>whnf
  refine Split.mk (fun c=>?_) (fun c=>?_)
  ·have hk2:k<a.length:=gX c
   conv=>whnf
   refine Need.mk (idx hk2) ?_
   conv=>whnf
   refine Need.mk (idx (hl▸hk2)) ?_
   conv=>whnf
   refine aG.mk _ (acw _ _) ?_
   conv=>whnf
   refine bZ.mk ⟨by kernel_rfl,by kernel_rfl⟩ ?_
   conv=>whnf
   refine Split.mk (fun c=>?_) (fun c=>?_)
   ·conv=>whnf
    exact aC.mk ⟨rfl,rfl⟩ ⟨rfl,rfl⟩ ⟨bv (gB (fun e=>iH (dA c) (congrArg (fun l=>l.getD k (T.df eW)) e))),trivial⟩
   ·conv=>whnf
    exact bM.mk ⟨⟨k+1,hk2,oH (d:=(T.df eW)) hk2 (hl▸hk2) ht (of_same (dM c))⟩,Nat.sub_lt_sub_left hk2 (Nat.lt_succ_self k),ay [] rfl rfl rfl ⟨⟨rfl,congrArg i64 (eu hk2 ha)⟩,⟨rfl,rfl⟩,⟨rfl,rfl⟩,trivial⟩ trivial⟩
  ·have hk2:k=a.length:=Nat.le_antisymm hk (gY c)
   conv=>whnf
   subst hk2
   exact aC.mk ⟨rfl,rfl⟩ ⟨rfl,rfl⟩ ⟨bv (nD (qo hl ht)),trivial⟩
theorem Xt {a b:SK} (h0:a.f0=b.f0) (h1:a.f1=b.f1) (h2:a.f2=b.f2):a=b:=by cases a;cases b;simp_all
theorem acy (a b:SK) (ha:a.f1.length≤140737488351232):aH T Tryz.prog 132 [.ag (T.cells eK a), .ag (T.cells eK b)] (.c (.sc (.bool (same a b)))):=by
 refine aI hT Tryz.func132 (by kernel_rfl) rfl rfl (fun A=>?_)
 conv=>whnf
 refine Split.mk (fun c=>?_) (fun c=>?_)
 ·conv=>whnf
  exact aC.mk ⟨rfl,rfl⟩ ⟨rfl,rfl⟩ ⟨bv (gB (fun e=>OY c (congrArg (fun z:SK=>z.f0) e))),trivial⟩
 have c0:a.f0=b.f0:=Ur c
 clear c
 conv=>whnf
 refine aG.mk _ (aa4 a.f1 b.f1 ha) ?_
 conv=>whnf
 refine Split.mk (fun c=>?_) (fun c=>?_)
 ·conv=>whnf
  exact aC.mk ⟨rfl,rfl⟩ ⟨rfl,rfl⟩ ⟨bv (gB (fun e=>iH (dA c) (congrArg (fun z:SK=>z.f1) e))),trivial⟩
 have c1:a.f1=b.f1:=of_same (dM c)
 clear c
 conv=>whnf
 refine Split.mk (fun c=>?_) (fun c=>?_)
 ·conv=>whnf
  exact aC.mk ⟨rfl,rfl⟩ ⟨rfl,rfl⟩ ⟨bv (gB (fun e=>wF c (congrArg (fun z:SK=>z.f2) e))),trivial⟩
 have c2:a.f2=b.f2:=FQ c
 clear c
 conv=>whnf
 exact aC.mk ⟨rfl,rfl⟩ ⟨rfl,rfl⟩ ⟨bv (nD (Xt c0 c1 c2)),trivial⟩
theorem RF (a b:List SK) (ha:a.length≤140737488351232) (hb:∀y∈a,y.f1.length≤140737488351232):aH T Tryz.prog 66 [.c (.sl eK a), .c (.sl eK b)] (.c (.sc (.bool (same a b)))):=by
 refine aI hT Tryz.func66 (by kernel_rfl) rfl rfl (fun A=>?_)
 conv=>whnf
 refine Split.mk (fun c=>?_) (fun c=>?_)
 ·conv=>whnf
  exact aC.mk ⟨rfl,rfl⟩ ⟨rfl,rfl⟩ ⟨bv (gB (fun e=>wG c (congrArg List.length e))),trivial⟩
 ·have hl:a.length=b.length:=wH c
  conv=>whnf
  refine dU.mk {k:Nat // k≤a.length∧a.take k=b.take k} (fun p=>(0,[(5,i64 p.1),(0,im eK a),(1,im eK b)],[])) (fun p=>a.length - p.1) ⟨0,Nat.zero_le _,rfl⟩ (ay [] rfl rfl rfl ⟨⟨rfl,rfl⟩,⟨rfl,rfl⟩,⟨rfl,rfl⟩,trivial⟩ trivial) ?_
  rintro⟨k,hk,ht⟩
  conv=>whnf
  refine Split.mk (fun c=>?_) (fun c=>?_)
  ·have hk2:k<a.length:=gX c
   conv=>whnf
   refine Need.mk (idx hk2) ?_
   conv=>whnf
   refine Need.mk (idx (hl▸hk2)) ?_
   conv=>whnf
   refine aG.mk _ (acy _ _ (hb _ (getD_mem hk2))) ?_
   conv=>whnf
   refine bZ.mk ⟨by kernel_rfl,by kernel_rfl⟩ ?_
   conv=>whnf
   refine Split.mk (fun c=>?_) (fun c=>?_)
   ·conv=>whnf
    exact aC.mk ⟨rfl,rfl⟩ ⟨rfl,rfl⟩ ⟨bv (gB (fun e=>iH (dA c) (congrArg (fun l=>l.getD k (T.df eK)) e))),trivial⟩
   ·conv=>whnf
    exact bM.mk ⟨⟨k+1,hk2,oH (d:=(T.df eK)) hk2 (hl▸hk2) ht (of_same (dM c))⟩,Nat.sub_lt_sub_left hk2 (Nat.lt_succ_self k),ay [] rfl rfl rfl ⟨⟨rfl,congrArg i64 (eu hk2 ha)⟩,⟨rfl,rfl⟩,⟨rfl,rfl⟩,trivial⟩ trivial⟩
  ·have hk2:k=a.length:=Nat.le_antisymm hk (gY c)
   conv=>whnf
   subst hk2
   exact aC.mk ⟨rfl,rfl⟩ ⟨rfl,rfl⟩ ⟨bv (nD (qo hl ht)),trivial⟩
inductive Bd:SN→Prop
 | mk (n:SN) (h0:n.f0.length≤2097152) (z0:∀x∈n.f0,x.size≤1048576) (h1:n.f1.length≤2097152) (h2:n.f2.length≤2097152) (z2:∀x∈n.f2,x.f0.size≤1048576) (hk:∀k∈n.f1,Bd k):Bd n
theorem Bd.l0 {n:SN} (h:Bd n):n.f0.length≤2097152:=by cases h;assumption
theorem Bd.z0 {n:SN} (h:Bd n):∀x∈n.f0,x.size≤1048576:=by cases h;assumption
theorem Bd.l1 {n:SN} (h:Bd n):n.f1.length≤2097152:=by cases h;assumption
theorem Bd.l2 {n:SN} (h:Bd n):n.f2.length≤2097152:=by cases h;assumption
theorem Bd.z2 {n:SN} (h:Bd n):∀x∈n.f2,x.f0.size≤1048576:=by cases h;assumption
theorem Bd.kid {n:SN} (h:Bd n):∀k∈n.f1,Bd k:=by cases h;assumption
theorem qX {n k:SN} (h:k∈n.f1):SizeOf.sizeOf k<SizeOf.sizeOf n:=by
 cases n with
 | mk a b c=>
   have h2:=List.sizeOf_lt_of_mem h
   simp only [BJ.mk.sizeOf_spec] at h2⊢
   omega
theorem yU {n k:LN} (h:k∈n.f1):SizeOf.sizeOf k<SizeOf.sizeOf n:=by
 cases n with
 | mk a b c=>
   have h2:=List.sizeOf_lt_of_mem h
   simp only [wC.mk.sizeOf_spec] at h2⊢
   omega
theorem UR (a b:List SN) (ha:a.length≤140737488351232) (ih:∀k∈a,∀b:SN,aH T Tryz.prog 22 [.ag (T.cells eN k), .ag (T.cells eN b)] (.c (.sc (.bool (same k b))))):aH T Tryz.prog 102 [.c (.sl eN a), .c (.sl eN b)] (.c (.sc (.bool (same a b)))):=by
 refine aI hT Tryz.func102 (by kernel_rfl) rfl rfl (fun A=>?_)
 conv=>whnf
 refine Split.mk (fun c=>?_) (fun c=>?_)
 ·conv=>whnf
  exact aC.mk ⟨rfl,rfl⟩ ⟨rfl,rfl⟩ ⟨bv (gB (fun e=>wG c (congrArg List.length e))),trivial⟩
 ·have hl:a.length=b.length:=wH c
  conv=>whnf
  refine dU.mk {k:Nat // k≤a.length∧a.take k=b.take k} (fun p=>(0,[(5,i64 p.1),(0,im eN a),(1,im eN b)],[])) (fun p=>a.length - p.1) ⟨0,Nat.zero_le _,rfl⟩ (ay [] rfl rfl rfl ⟨⟨rfl,rfl⟩,⟨rfl,rfl⟩,⟨rfl,rfl⟩,trivial⟩ trivial) ?_
  rintro⟨k,hk,ht⟩
  conv=>whnf
  refine Split.mk (fun c=>?_) (fun c=>?_)
  ·have hk2:k<a.length:=gX c
   conv=>whnf
   refine Need.mk (idx hk2) ?_
   conv=>whnf
   refine Need.mk (idx (hl▸hk2)) ?_
   conv=>whnf
   refine aG.mk _ (ih _ (getD_mem hk2) _) ?_
   conv=>whnf
   refine bZ.mk ⟨by kernel_rfl,by kernel_rfl⟩ ?_
   conv=>whnf
   refine Split.mk (fun c=>?_) (fun c=>?_)
   ·conv=>whnf
    exact aC.mk ⟨rfl,rfl⟩ ⟨rfl,rfl⟩ ⟨bv (gB (fun e=>iH (dA c) (congrArg (fun l=>l.getD k (T.df eN)) e))),trivial⟩
   ·conv=>whnf
    exact bM.mk ⟨⟨k+1,hk2,oH (d:=(T.df eN)) hk2 (hl▸hk2) ht (of_same (dM c))⟩,Nat.sub_lt_sub_left hk2 (Nat.lt_succ_self k),ay [] rfl rfl rfl ⟨⟨rfl,congrArg i64 (eu hk2 ha)⟩,⟨rfl,rfl⟩,⟨rfl,rfl⟩,trivial⟩ trivial⟩
  ·have hk2:k=a.length:=Nat.le_antisymm hk (gY c)
   conv=>whnf
   subst hk2
   exact aC.mk ⟨rfl,rfl⟩ ⟨rfl,rfl⟩ ⟨bv (nD (qo hl ht)),trivial⟩
theorem PU {a b:SN} (h0:a.f0=b.f0) (h1:a.f1=b.f1) (h2:a.f2=b.f2):a=b:=by cases a;cases b;simp_all
theorem Xu (a b:SN) (ha:Bd a) (ih:∀b:List SN,aH T Tryz.prog 102 [.c (.sl eN a.f1), .c (.sl eN b)] (.c (.sc (.bool (same a.f1 b))))):aH T Tryz.prog 22 [.ag (T.cells eN a), .ag (T.cells eN b)] (.c (.sc (.bool (same a b)))):=by
 refine aI hT Tryz.func22 (by kernel_rfl) rfl rfl (fun A=>?_)
 conv=>whnf
 refine aG.mk _ (Xq a.f0 b.f0 (Nat.le_trans ha.l0 (by decide))) ?_
 conv=>whnf
 refine Split.mk (fun c=>?_) (fun c=>?_)
 ·conv=>whnf
  exact aC.mk ⟨rfl,rfl⟩ ⟨rfl,rfl⟩ ⟨bv (gB (fun e=>iH (dA c) (congrArg (fun z:SN=>z.f0) e))),trivial⟩
 have c0:a.f0=b.f0:=of_same (dM c)
 clear c
 conv=>whnf
 refine aG.mk _ (ih b.f1) ?_
 conv=>whnf
 refine Split.mk (fun c=>?_) (fun c=>?_)
 ·conv=>whnf
  exact aC.mk ⟨rfl,rfl⟩ ⟨rfl,rfl⟩ ⟨bv (gB (fun e=>iH (dA c) (congrArg (fun z:SN=>z.f1) e))),trivial⟩
 have c1:a.f1=b.f1:=of_same (dM c)
 clear c
 conv=>whnf
 refine aG.mk _ (acv a.f2 b.f2 (Nat.le_trans ha.l2 (by decide))) ?_
 conv=>whnf
 refine Split.mk (fun c=>?_) (fun c=>?_)
 ·conv=>whnf
  exact aC.mk ⟨rfl,rfl⟩ ⟨rfl,rfl⟩ ⟨bv (gB (fun e=>iH (dA c) (congrArg (fun z:SN=>z.f2) e))),trivial⟩
 have c2:a.f2=b.f2:=of_same (dM c)
 clear c
 conv=>whnf
 exact aC.mk ⟨rfl,rfl⟩ ⟨rfl,rfl⟩ ⟨bv (nD (PU c0 c1 c2)),trivial⟩
theorem V6:∀(a:SN),Bd a→∀b:SN,aH T Tryz.prog 22 [.ag (T.cells eN a), .ag (T.cells eN b)] (.c (.sc (.bool (same a b)))):=fun a ha b=>
 Xu a b ha (fun c=>UR a.f1 c (Nat.le_trans ha.l1 (by decide)) (fun k hk=>V6 k (ha.kid k hk)))
termination_by a=>SizeOf.sizeOf a
decreasing_by exact qX hk
theorem aa5 (a:List Int) (ha:a.length≤1048576):aH T Tryz.prog 50 [.c (.sl 5 a)] (.c (.ow 5 a)):=by
 refine aI hT Tryz.func50 (by kernel_rfl) rfl rfl (fun A=>?_)
 conv=>whnf
 refine Need.mk (OZ (by decide) ha) ?_
 conv=>whnf
 refine dU.mk {k:Nat // k≤a.length} (fun p=>(2,[(4,i64 p.1),(3, .c (.hd 0)),(0,im 5 a)],[(0, .row 1 5 (fill (fun x=>x) (0:Int) a p.1))])) (fun p=>a.length - p.1) ⟨0,Nat.zero_le _⟩ (ay [(0,0)] rfl rfl rfl ⟨⟨rfl,rfl⟩,⟨rfl,rfl⟩,⟨rfl,rfl⟩,trivial⟩ ⟨fE oI.symm,trivial⟩) ?_
 rintro⟨k,hk⟩
 conv=>whnf
 refine Split.mk (fun c=>?_) (fun c=>?_)
 ·have hk2:k<a.length:=gX c
  conv=>whnf
  refine Need.mk (idx hk2) ?_
  conv=>whnf
  refine Need.mk (idx (Nat.lt_of_lt_of_eq hk2 (qw hk).symm)) ?_
  conv=>whnf
  exact bM.mk ⟨⟨k+1,hk2⟩,Nat.sub_lt_sub_left hk2 (Nat.lt_succ_self k),ay [(0,0)] rfl rfl rfl ⟨⟨rfl,congrArg i64 (eu hk2 (Nat.le_trans ha (by decide)))⟩,⟨rfl,rfl⟩,⟨rfl,rfl⟩,trivial⟩ ⟨fE (qx hk2),trivial⟩⟩
 ·have hk2:k=a.length:=Nat.le_antisymm hk (gY c)
  conv=>whnf
  subst hk2
  exact aC.mk ⟨rfl,rfl⟩ ⟨rfl,rfl⟩ ⟨fE (qp.trans Ut),trivial⟩
theorem Xv (a:List ByteArray) (ha:a.length≤1048576):aH T Tryz.prog 45 [.c (.sl 9 a)] (.c (.ow 9 a)):=by
 refine aI hT Tryz.func45 (by kernel_rfl) rfl rfl (fun A=>?_)
 conv=>whnf
 refine Need.mk (OZ (by decide) ha) ?_
 conv=>whnf
 refine dU.mk {k:Nat // k≤a.length} (fun p=>(2,[(4,i64 p.1),(3, .c (.hd 0)),(0,im 9 a)],[(0, .row 1 9 (fill (fun x=>x) (⟨#[]⟩:ByteArray) a p.1))])) (fun p=>a.length - p.1) ⟨0,Nat.zero_le _⟩ (ay [(0,0)] rfl rfl rfl ⟨⟨rfl,rfl⟩,⟨rfl,rfl⟩,⟨rfl,rfl⟩,trivial⟩ ⟨fE oI.symm,trivial⟩) ?_
 rintro⟨k,hk⟩
 conv=>whnf
 refine Split.mk (fun c=>?_) (fun c=>?_)
 ·have hk2:k<a.length:=gX c
  conv=>whnf
  refine Need.mk (idx hk2) ?_
  conv=>whnf
  refine Need.mk (idx (Nat.lt_of_lt_of_eq hk2 (qw hk).symm)) ?_
  conv=>whnf
  exact bM.mk ⟨⟨k+1,hk2⟩,Nat.sub_lt_sub_left hk2 (Nat.lt_succ_self k),ay [(0,0)] rfl rfl rfl ⟨⟨rfl,congrArg i64 (eu hk2 (Nat.le_trans ha (by decide)))⟩,⟨rfl,rfl⟩,⟨rfl,rfl⟩,trivial⟩ ⟨fE (qx hk2),trivial⟩⟩
 ·have hk2:k=a.length:=Nat.le_antisymm hk (gY c)
  conv=>whnf
  subst hk2
  exact aC.mk ⟨rfl,rfl⟩ ⟨rfl,rfl⟩ ⟨fE (qp.trans Ut),trivial⟩
theorem abH (a:List Int) (ha:a.length≤1048576):aH T Tryz.prog 64 [.c (.sl 3 a)] (.c (.ow 3 a)):=by
 refine aI hT Tryz.func64 (by kernel_rfl) rfl rfl (fun A=>?_)
 conv=>whnf
 refine Need.mk (OZ (by decide) ha) ?_
 conv=>whnf
 refine dU.mk {k:Nat // k≤a.length} (fun p=>(2,[(4,i64 p.1),(3, .c (.hd 0)),(0,im 3 a)],[(0, .row 1 3 (fill (fun x=>x) (0:Int) a p.1))])) (fun p=>a.length - p.1) ⟨0,Nat.zero_le _⟩ (ay [(0,0)] rfl rfl rfl ⟨⟨rfl,rfl⟩,⟨rfl,rfl⟩,⟨rfl,rfl⟩,trivial⟩ ⟨fE oI.symm,trivial⟩) ?_
 rintro⟨k,hk⟩
 conv=>whnf
 refine Split.mk (fun c=>?_) (fun c=>?_)
 ·have hk2:k<a.length:=gX c
  conv=>whnf
  refine Need.mk (idx hk2) ?_
  conv=>whnf
  refine Need.mk (idx (Nat.lt_of_lt_of_eq hk2 (qw hk).symm)) ?_
  conv=>whnf
  exact bM.mk ⟨⟨k+1,hk2⟩,Nat.sub_lt_sub_left hk2 (Nat.lt_succ_self k),ay [(0,0)] rfl rfl rfl ⟨⟨rfl,congrArg i64 (eu hk2 (Nat.le_trans ha (by decide)))⟩,⟨rfl,rfl⟩,⟨rfl,rfl⟩,trivial⟩ ⟨fE (qx hk2),trivial⟩⟩
 ·have hk2:k=a.length:=Nat.le_antisymm hk (gY c)
  conv=>whnf
  subst hk2
  exact aC.mk ⟨rfl,rfl⟩ ⟨rfl,rfl⟩ ⟨fE (qp.trans Ut),trivial⟩
def tS (x:LS):SS:=⟨x.f0,x.f1,x.f2⟩
def tW (x:LW):SW:=⟨x.f0,x.f1⟩
def tK (x:LK):SK:=⟨x.f0,x.f1,x.f2⟩
theorem toSub (a:LS):aH T Tryz.prog 29 [.ag (T.cells Cc a)] (.ag [.sc (.string a.f0), .sc (.int .i64 a.f1), .sc (.int .i64 a.f2)]):=by
 refine aI hT Tryz.func29 (by kernel_rfl) rfl rfl (fun A=>?_)
 conv=>whnf
 exact aC.mk ⟨rfl,rfl⟩ ⟨rfl,rfl⟩ ⟨rfl,rfl,rfl,trivial⟩
theorem acz (a:List LS) (ha:a.length≤1048576):aH T Tryz.prog 98 [.c (.sl Cc a)] (.c (.ow eS (a.map tS))):=by
 refine aI hT Tryz.func98 (by kernel_rfl) rfl rfl (fun A=>?_)
 conv=>whnf
 refine Need.mk (OZ (by decide) ha) ?_
 conv=>whnf
 refine dU.mk {k:Nat // k≤a.length} (fun p=>(2,[(4,i64 p.1),(3, .c (.hd 0)),(0,im Cc a)],[(0, .row 1 eS (fill (tS) z44 a p.1))])) (fun p=>a.length - p.1) ⟨0,Nat.zero_le _⟩ (ay [(0,0)] rfl rfl rfl ⟨⟨rfl,rfl⟩,⟨rfl,rfl⟩,⟨rfl,rfl⟩,trivial⟩ ⟨fE oI.symm,trivial⟩) ?_
 rintro⟨k,hk⟩
 conv=>whnf
 refine Split.mk (fun c=>?_) (fun c=>?_)
 ·have hk2:k<a.length:=gX c
  conv=>whnf
  refine Need.mk (idx hk2) ?_
  conv=>whnf
  refine aG.mk _ (toSub _) ?_
  conv=>whnf
  refine Need.mk (idx (Nat.lt_of_lt_of_eq hk2 (qw hk).symm)) ?_
  conv=>whnf
  exact bM.mk ⟨⟨k+1,hk2⟩,Nat.sub_lt_sub_left hk2 (Nat.lt_succ_self k),ay [(0,0)] rfl rfl rfl ⟨⟨rfl,congrArg i64 (eu hk2 (Nat.le_trans ha (by decide)))⟩,⟨rfl,rfl⟩,⟨rfl,rfl⟩,trivial⟩ ⟨fE (qx hk2),trivial⟩⟩
 ·have hk2:k=a.length:=Nat.le_antisymm hk (gY c)
  conv=>whnf
  subst hk2
  exact aC.mk ⟨rfl,rfl⟩ ⟨rfl,rfl⟩ ⟨fE (qp),trivial⟩
theorem acA (a:LW):aH T Tryz.prog 126 [.ag (T.cells pF a)] (.ag [.sc (.string a.f0), .sc (.int .i64 a.f1)]):=by
 refine aI hT Tryz.func126 (by kernel_rfl) rfl rfl (fun A=>?_)
 conv=>whnf
 exact aC.mk ⟨rfl,rfl⟩ ⟨rfl,rfl⟩ ⟨rfl,rfl,trivial⟩
theorem aaF (a:List LW) (ha:a.length≤1048576):aH T Tryz.prog 56 [.c (.sl pF a)] (.c (.ow eW (a.map tW))):=by
 refine aI hT Tryz.func56 (by kernel_rfl) rfl rfl (fun A=>?_)
 conv=>whnf
 refine Need.mk (OZ (by decide) ha) ?_
 conv=>whnf
 refine dU.mk {k:Nat // k≤a.length} (fun p=>(2,[(4,i64 p.1),(3, .c (.hd 0)),(0,im pF a)],[(0, .row 1 eW (fill (tW) Zf a p.1))])) (fun p=>a.length - p.1) ⟨0,Nat.zero_le _⟩ (ay [(0,0)] rfl rfl rfl ⟨⟨rfl,rfl⟩,⟨rfl,rfl⟩,⟨rfl,rfl⟩,trivial⟩ ⟨fE oI.symm,trivial⟩) ?_
 rintro⟨k,hk⟩
 conv=>whnf
 refine Split.mk (fun c=>?_) (fun c=>?_)
 ·have hk2:k<a.length:=gX c
  conv=>whnf
  refine Need.mk (idx hk2) ?_
  conv=>whnf
  refine aG.mk _ (acA _) ?_
  conv=>whnf
  refine Need.mk (idx (Nat.lt_of_lt_of_eq hk2 (qw hk).symm)) ?_
  conv=>whnf
  exact bM.mk ⟨⟨k+1,hk2⟩,Nat.sub_lt_sub_left hk2 (Nat.lt_succ_self k),ay [(0,0)] rfl rfl rfl ⟨⟨rfl,congrArg i64 (eu hk2 (Nat.le_trans ha (by decide)))⟩,⟨rfl,rfl⟩,⟨rfl,rfl⟩,trivial⟩ ⟨fE (qx hk2),trivial⟩⟩
 ·have hk2:k=a.length:=Nat.le_antisymm hk (gY c)
  conv=>whnf
  subst hk2
  exact aC.mk ⟨rfl,rfl⟩ ⟨rfl,rfl⟩ ⟨fE (qp),trivial⟩
theorem acB (a:LK) (ha:a.f1.length≤1048576):aH T Tryz.prog 188 [.ag (T.cells Ce a)] (.ag [.sc (.string a.f0), .ow 5 a.f1, .sc (.int .i64 a.f2)]):=by
 refine aI hT Tryz.func188 (by kernel_rfl) rfl rfl (fun A=>?_)
 conv=>whnf
 refine aG.mk _ (aa5 a.f1 ha) ?_
 conv=>whnf
 exact aC.mk ⟨rfl,rfl⟩ ⟨rfl,rfl⟩ ⟨rfl,rfl,rfl,trivial⟩
theorem aay (a:List LK) (ha:a.length≤1048576) (hb:∀y∈a,y.f1.length≤1048576):aH T Tryz.prog 121 [.c (.sl Ce a)] (.c (.ow eK (a.map tK))):=by
 refine aI hT Tryz.func121 (by kernel_rfl) rfl rfl (fun A=>?_)
 conv=>whnf
 refine Need.mk (OZ (by decide) ha) ?_
 conv=>whnf
 refine dU.mk {k:Nat // k≤a.length} (fun p=>(2,[(4,i64 p.1),(3, .c (.hd 0)),(0,im Ce a)],[(0, .row 1 eK (fill (tK) Zg a p.1))])) (fun p=>a.length - p.1) ⟨0,Nat.zero_le _⟩ (ay [(0,0)] rfl rfl rfl ⟨⟨rfl,rfl⟩,⟨rfl,rfl⟩,⟨rfl,rfl⟩,trivial⟩ ⟨fE oI.symm,trivial⟩) ?_
 rintro⟨k,hk⟩
 conv=>whnf
 refine Split.mk (fun c=>?_) (fun c=>?_)
 ·have hk2:k<a.length:=gX c
  conv=>whnf
  refine Need.mk (idx hk2) ?_
  conv=>whnf
  refine aG.mk _ (acB _ (hb _ (getD_mem hk2))) ?_
  conv=>whnf
  refine Need.mk (idx (Nat.lt_of_lt_of_eq hk2 (qw hk).symm)) ?_
  conv=>whnf
  exact bM.mk ⟨⟨k+1,hk2⟩,Nat.sub_lt_sub_left hk2 (Nat.lt_succ_self k),ay [(0,0)] rfl rfl rfl ⟨⟨rfl,congrArg i64 (eu hk2 (Nat.le_trans ha (by decide)))⟩,⟨rfl,rfl⟩,⟨rfl,rfl⟩,trivial⟩ ⟨fE (qx hk2),trivial⟩⟩
 ·have hk2:k=a.length:=Nat.le_antisymm hk (gY c)
  conv=>whnf
  subst hk2
  exact aC.mk ⟨rfl,rfl⟩ ⟨rfl,rfl⟩ ⟨fE (qp),trivial⟩
mutual
def tN:LN→SN
 | ⟨a,b,c⟩=>⟨a,tNL b,c.map tS⟩
def tNL:List LN→List SN
 | []=>[]
 | x::r=>tN x::tNL r
end
theorem SQ:∀l:List LN,tNL l=l.map tN
 | []=>rfl
 | x::r=>by rw [tNL,SQ r,List.map_cons]
theorem aeo (n:SN):(⟨n.f0,n.f1,n.f2⟩:SN)=n:=by cases n;rfl
theorem TD (n:LN):tN n=⟨n.f0,n.f1.map tN,n.f2.map tS⟩:=by cases n;rw [tN,SQ]
theorem UU (a:List LN) (ha:a.length≤1048576) (ih:∀k∈a,aH T Tryz.prog 20 [.ag (T.cells su k)] (.ag [.ow 9 (tN k).f0, .ow eN (tN k).f1, .ow eS (tN k).f2])):aH T Tryz.prog 97 [.c (.sl su a)] (.c (.ow eN (a.map tN))):=by
 refine aI hT Tryz.func97 (by kernel_rfl) rfl rfl (fun A=>?_)
 conv=>whnf
 refine Need.mk (OZ (by decide) ha) ?_
 conv=>whnf
 refine dU.mk {k:Nat // k≤a.length} (fun p=>(2,[(4,i64 p.1),(3, .c (.hd 0)),(0,im su a)],[(0, .row 1 eN (fill (tN) z31 a p.1))])) (fun p=>a.length - p.1) ⟨0,Nat.zero_le _⟩ (ay [(0,0)] rfl rfl rfl ⟨⟨rfl,rfl⟩,⟨rfl,rfl⟩,⟨rfl,rfl⟩,trivial⟩ ⟨fE oI.symm,trivial⟩) ?_
 rintro⟨k,hk⟩
 conv=>whnf
 refine Split.mk (fun c=>?_) (fun c=>?_)
 ·have hk2:k<a.length:=gX c
  conv=>whnf
  refine Need.mk (idx hk2) ?_
  conv=>whnf
  refine aG.mk _ (ih _ (getD_mem hk2)) ?_
  conv=>whnf
  refine Need.mk (idx (Nat.lt_of_lt_of_eq hk2 (qw hk).symm)) ?_
  conv=>whnf
  exact bM.mk ⟨⟨k+1,hk2⟩,Nat.sub_lt_sub_left hk2 (Nat.lt_succ_self k),ay [(0,0)] rfl rfl rfl ⟨⟨rfl,congrArg i64 (eu hk2 (Nat.le_trans ha (by decide)))⟩,⟨rfl,rfl⟩,⟨rfl,rfl⟩,trivial⟩ ⟨fE ((congrArg (List.set _ _) (aeo _)).trans (qx hk2)),trivial⟩⟩
 ·have hk2:k=a.length:=Nat.le_antisymm hk (gY c)
  conv=>whnf
  subst hk2
  exact aC.mk ⟨rfl,rfl⟩ ⟨rfl,rfl⟩ ⟨fE (qp),trivial⟩
theorem Xw (a:LN) (h0:a.f0.length≤1048576) (h2:a.f2.length≤1048576) (ih:aH T Tryz.prog 97 [.c (.sl su a.f1)] (.c (.ow eN (a.f1.map tN)))):aH T Tryz.prog 20 [.ag (T.cells su a)] (.ag [.ow 9 a.f0, .ow eN (a.f1.map tN), .ow eS (a.f2.map tS)]):=by
 refine aI hT Tryz.func20 (by kernel_rfl) rfl rfl (fun A=>?_)
 conv=>whnf
 refine aG.mk _ (Xv a.f0 h0) ?_
 conv=>whnf
 refine aG.mk _ (ih) ?_
 conv=>whnf
 refine aG.mk _ (acz a.f2 h2) ?_
 conv=>whnf
 exact aC.mk ⟨rfl,rfl⟩ ⟨rfl,rfl⟩ ⟨rfl,rfl,rfl,trivial⟩
inductive Ol:LN→Prop
 | mk (n:LN) (h0:n.f0.length≤1048576) (h1:n.f1.length≤1048576) (h2:n.f2.length≤1048576) (hk:∀k∈n.f1,Ol k):Ol n
theorem V4:∀(a:LN),Ol a→aH T Tryz.prog 20 [.ag (T.cells su a)] (.ag [.ow 9 (tN a).f0, .ow eN (tN a).f1, .ow eS (tN a).f2]):=fun a ha=>by
 rw [TD]
 exact Xw a (by cases ha;assumption) (by cases ha;assumption) (UU a.f1 (by cases ha;assumption) (fun k hk=>V4 k (by cases ha with | mk _ _ _ _ h=>exact h k hk)))
termination_by a=>SizeOf.sizeOf a
decreasing_by exact yU hk
end Go.Proofs.YtcnfgfomholheaaGreatDoor.Q
end
section
namespace Go.Proofs.YtcnfgfomholheaaGreatDoor.Q
open Go.RowKit Go.Proofs.YtcnfgfomholheaaGreatDoor.Z
set_option linter.unusedVariables false
set_option linter.unusedSimpArgs false
set_option maxRecDepth 100000
set_option maxHeartbeats 4000000
def MK (k:Nat) (out:ByteArray):ByteArray:=if h:k=0 then out else MK (k / 10) (strOfNums [IntKind.u8.wrap (wrap64 (48+((k % 10:Nat):Int)))]++out)
termination_by k
decreasing_by omega
def markT (k:Nat):ByteArray:=(⟨#[109]⟩:ByteArray)++MK k (⟨#[]⟩:ByteArray)
theorem Xx (n:Int):(strOfNums [n]).size=1:=rfl
theorem tC (a b:ByteArray):(a++b).size=a.size+b.size:=ByteArray.size_append
theorem ads (k:Nat):((k:Int).tmod 10)=((k % 10:Nat):Int):=by rw [Int.tmod_eq_emod_of_nonneg (by omega)];omega
theorem adt {k:Nat} (h:k≤4611686018427387904):IntKind.i64.wrap ((k:Int).tdiv 10)=((k / 10:Nat):Int):=by
 rw [Int.tdiv_eq_ediv_of_nonneg (by omega),wrap_i64]
 simp only [wrap64];omega
theorem aep (x:Int):strOfNums (List.map (numOf T 5) [x])=strOfNums [x]:=rfl
theorem acC (n:Nat):strOfNums (List.map (numOf T 5) [IntKind.u8.wrap (wrap64 (48+(n:Int).tmod 10))])=strOfNums [IntKind.u8.wrap (wrap64 (48+((n % 10:Nat):Int)))]:=by rw [ads,aep]
theorem aer (out:ByteArray):MK 0 out=out:=by unfold MK;rfl
theorem tx {x y:ByteArray} (h:y=x):Value.string x=Value.string y:=by rw [h]
abbrev tx_ (s:ByteArray):Slot T:= .c (.sc (.string s))
theorem wY (k:Nat) (h0:0<k) (h1:k≤4611686018427387904):aH T Tryz.prog 118 [.c (.sc (.int .i64 (k:Int)))] (.c (.sc (.string (markT k)))):=by
 refine aI hT Tryz.func118 (by kernel_rfl) rfl rfl (fun A=>?_)
 conv=>whnf
 refine Split.mk (fun c=>?_) (fun c=>?_)
 ·exact absurd c (by simp;omega)
 clear c
 conv=>whnf
 refine dU.mk {p:Nat × ByteArray // p.1≤k∧p.2.size+p.1≤k∧MK p.1 p.2=MK k (⟨#[]⟩:ByteArray)} (fun p=>(0,[(0,i64 p.1.1),(3,tx_ p.1.2)],[])) (fun p=>p.1.1) ⟨(k,⟨#[]⟩),Nat.le_refl _,by show(0:Nat)+k≤k;omega,rfl⟩ (ay [] rfl rfl rfl ⟨⟨rfl,rfl⟩,⟨rfl,rfl⟩,trivial⟩ trivial) ?_
 rintro⟨⟨n,out⟩,g1,g2,g3⟩
 dsimp only at g1 g2 g3
 conv=>whnf
 refine Split.mk (fun c=>?_) (fun c=>?_)
 ·have hn:n≠0:=by simp at c;omega
  clear c
  conv=>whnf
  refine Need.mk (fun _=>rfl) ?_
  conv=>whnf
  refine Need.mk (show 1+ByteArray.size out≤9223372036854775807 by omega) ?_
  conv=>whnf
  refine bM.mk ⟨⟨(n / 10,strOfNums [IntKind.u8.wrap (wrap64 (48+((n % 10:Nat):Int)))]++out),by omega,by rw [tC,Xx];omega,?_⟩,Nat.div_lt_self (by omega) (by decide),ay [] rfl rfl rfl ⟨⟨rfl,congrArg i64 (adt (by omega)).symm⟩,⟨rfl,?_⟩,trivial⟩ trivial⟩
  ·rw [←g3]
   conv=>rhs;unfold MK
   rw [dif_neg hn]
  ·exact congrArg (fun x:ByteArray=>tx_ (x++out)) (acC n).symm
 ·have hn:n=0:=by simp at c;omega
  subst hn
  clear c
  have g4:out=MK k (⟨#[]⟩:ByteArray):=(aer out).symm.trans g3
  conv=>whnf
  refine Need.mk (show 1+ByteArray.size out≤9223372036854775807 by omega) ?_
  conv=>whnf
  exact aC.mk ⟨rfl,rfl⟩ ⟨rfl,rfl⟩ ⟨tx (congrArg (fun x:ByteArray=>(⟨#[109]⟩:ByteArray)++x) g4.symm),trivial⟩
def jF {β:Type} (s:Nat) (f:Nat→β) (k n:Nat):List β:=(List.range n).map (fun j=>f (k+s*j))
def l7 {β:Type} (s:Nat) (f:Nat→β) (k:Nat) (a:List β) (i:Nat):List β:=jF s f k i++a.drop i
section
variable {β:Type} {s:Nat} {f:Nat→β} {k i n:Nat} {a:List β}
theorem vW:(jF s f k n).length=n:=by simp [jF]
theorem o7 (h:i≤a.length):(l7 s f k a i).length=a.length:=by simp [l7,vW];omega
theorem zy (hi:i≤a.length) (h:i<a.length):i<(l7 s f k a i).length:=by rw [o7 hi];exact h
theorem AU:a=l7 s f k a 0:=by simp [l7,jF]
theorem ET:l7 s f k a a.length=jF s f k a.length:=by simp [l7]
theorem EU (h:i<a.length):(l7 s f k a i).set i (f (k+s*i))=l7 s f k a (i+1):=by
 unfold l7
 rw [List.set_append_right _ _ (by simp [vW]),vW,Nat.sub_self,List.drop_eq_getElem_cons h,List.set_cons_zero]
 simp [jF,List.range_succ]
theorem aa6 {d:β} (h:i<n):(jF s f k n).getD i d=f (k+s*i):=by simp [jF,h]
end
theorem BL {k n:Nat} (h:k+n≤4611686018427387904) (hn:0<n):((k+1:Nat):Int)=wrap64 ((k:Int)+1):=by simp only [wrap64];omega
theorem Jk {m n:Nat} (h:decide ((m:Int)<(n:Int))=true) {l:Nat} (hl:n=l):m<l:=hl▸gX h
theorem AV {m n:Nat} (h:decide ((m:Int)<(n:Int))=false) {l:Nat} (hl:n=l):l≤m:=hl▸gY h
def fB (n:Nat):Int:=IntKind.u8.wrap (n:Int)
def fI (n:Nat):Int:=(n:Int)
def fS (n:Nat):ByteArray:=markT n
def fW (n:Nat):nR:=⟨markT n,((n+1:Nat):Int)⟩
abbrev hd0:Slot T:= .c (.hd 1000)
theorem gs_ {e:Nat} {l:List (T.Tb e)} {i:Nat} {x:T.Tb e} (h:i<l.length):bV T e (l.set i x) i=x:=by simp [bV,h]
theorem Xy (a:List Int) (k:Nat) (hl:a.length≤140737488351232) (h0:0<k) (hk:k+1*a.length≤4611686018427387904):CallWOb T Tryz.prog 53 [.c (.ow 5 a 5 (jF 1 fB k a.length)), .c (.c (.sc (.int .i64 (k:Int))))] (.c (.sc (.int .i64 ((k+1*a.length:Nat):Int)))):=by
 refine nK hT Tryz.func53 (by kernel_rfl) rfl rfl (fun A=>?_)
 conv=>whnf
 refine dU.mk {i:Nat // i≤a.length} (fun p=>(1,[(5,i64 p.1),(1,i64 (k+1*p.1:Nat)),(0,hd0)],[(1000, .row 0 5 (l7 1 fB k a p.1))])) (fun p=>a.length - p.1) ⟨0,Nat.zero_le _⟩ (ay [] rfl rfl rfl ⟨⟨rfl,rfl⟩,⟨rfl,rfl⟩,⟨rfl,rfl⟩,trivial⟩ ⟨show bW (T:=T) 5 a 5 (l7 1 fB k a 0) from fE AU,trivial⟩) ?_
 rintro⟨i,hi⟩
 conv=>whnf
 refine Split.mk (fun c=>?_) (fun c=>?_)
 ·have hk2:i<a.length:=Jk c (o7 hi)
  clear c
  have hb:k+1*i+1≤4611686018427387904:=by omega
  conv=>whnf
  refine Need.mk (idx (zy hi hk2)) ?_
  conv=>whnf
  exact bM.mk ⟨⟨i+1,hk2⟩,Nat.sub_lt_sub_left hk2 (Nat.lt_succ_self i),ay [] rfl rfl rfl ⟨⟨rfl,congrArg i64 (eu hk2 hl)⟩,⟨rfl,congrArg i64 (BL (k:=k+1*i) (n:=1) (by omega) (by decide))⟩,⟨rfl,rfl⟩,trivial⟩ ⟨fE (EU (s:=1) (f:=fB) hk2),trivial⟩⟩
 ·have hk2:i=a.length:=Nat.le_antisymm hi (AV c (o7 hi))
  clear c
  conv=>whnf
  subst hk2
  exact tq.mk ⟨rfl,rfl⟩ ⟨⟨rfl,rfl⟩,rfl⟩ ⟨rfl,trivial⟩ ⟨show bW (T:=T) 5 (l7 1 fB k a a.length) 5 (jF 1 fB k a.length) from fE ET,trivial⟩
theorem YC (a:List Int) (k:Nat) (hl:a.length≤140737488351232) (h0:0<k) (hk:k+1*a.length≤4611686018427387904):CallWOb T Tryz.prog 61 [.c (.ow 3 a 3 (jF 1 fI k a.length)), .c (.c (.sc (.int .i64 (k:Int))))] (.c (.sc (.int .i64 ((k+1*a.length:Nat):Int)))):=by
 refine nK hT Tryz.func61 (by kernel_rfl) rfl rfl (fun A=>?_)
 conv=>whnf
 refine dU.mk {i:Nat // i≤a.length} (fun p=>(1,[(5,i64 p.1),(1,i64 (k+1*p.1:Nat)),(0,hd0)],[(1000, .row 0 3 (l7 1 fI k a p.1))])) (fun p=>a.length - p.1) ⟨0,Nat.zero_le _⟩ (ay [] rfl rfl rfl ⟨⟨rfl,rfl⟩,⟨rfl,rfl⟩,⟨rfl,rfl⟩,trivial⟩ ⟨show bW (T:=T) 3 a 3 (l7 1 fI k a 0) from fE AU,trivial⟩) ?_
 rintro⟨i,hi⟩
 conv=>whnf
 refine Split.mk (fun c=>?_) (fun c=>?_)
 ·have hk2:i<a.length:=Jk c (o7 hi)
  clear c
  have hb:k+1*i+1≤4611686018427387904:=by omega
  conv=>whnf
  refine Need.mk (idx (zy hi hk2)) ?_
  conv=>whnf
  exact bM.mk ⟨⟨i+1,hk2⟩,Nat.sub_lt_sub_left hk2 (Nat.lt_succ_self i),ay [] rfl rfl rfl ⟨⟨rfl,congrArg i64 (eu hk2 hl)⟩,⟨rfl,congrArg i64 (BL (k:=k+1*i) (n:=1) (by omega) (by decide))⟩,⟨rfl,rfl⟩,trivial⟩ ⟨fE (EU (s:=1) (f:=fI) hk2),trivial⟩⟩
 ·have hk2:i=a.length:=Nat.le_antisymm hi (AV c (o7 hi))
  clear c
  conv=>whnf
  subst hk2
  exact tq.mk ⟨rfl,rfl⟩ ⟨⟨rfl,rfl⟩,rfl⟩ ⟨rfl,trivial⟩ ⟨show bW (T:=T) 3 (l7 1 fI k a a.length) 3 (jF 1 fI k a.length) from fE ET,trivial⟩
theorem FC (a:List ByteArray) (k:Nat) (hl:a.length≤140737488351232) (h0:0<k) (hk:k+1*a.length≤4611686018427387904):CallWOb T Tryz.prog 48 [.c (.ow 9 a 9 (jF 1 fS k a.length)), .c (.c (.sc (.int .i64 (k:Int))))] (.c (.sc (.int .i64 ((k+1*a.length:Nat):Int)))):=by
 refine nK hT Tryz.func48 (by kernel_rfl) rfl rfl (fun A=>?_)
 conv=>whnf
 refine dU.mk {i:Nat // i≤a.length} (fun p=>(1,[(5,i64 p.1),(1,i64 (k+1*p.1:Nat)),(0,hd0)],[(1000, .row 0 9 (l7 1 fS k a p.1))])) (fun p=>a.length - p.1) ⟨0,Nat.zero_le _⟩ (ay [] rfl rfl rfl ⟨⟨rfl,rfl⟩,⟨rfl,rfl⟩,⟨rfl,rfl⟩,trivial⟩ ⟨show bW (T:=T) 9 a 9 (l7 1 fS k a 0) from fE AU,trivial⟩) ?_
 rintro⟨i,hi⟩
 conv=>whnf
 refine Split.mk (fun c=>?_) (fun c=>?_)
 ·have hk2:i<a.length:=Jk c (o7 hi)
  clear c
  have hb:k+1*i+1≤4611686018427387904:=by omega
  conv=>whnf
  refine aG.mk _ (wY (k+1*i) (by omega) (by omega)) ?_
  conv=>whnf
  refine Need.mk (idx (zy hi hk2)) ?_
  conv=>whnf
  exact bM.mk ⟨⟨i+1,hk2⟩,Nat.sub_lt_sub_left hk2 (Nat.lt_succ_self i),ay [] rfl rfl rfl ⟨⟨rfl,congrArg i64 (eu hk2 hl)⟩,⟨rfl,congrArg i64 (BL (k:=k+1*i) (n:=1) (by omega) (by decide))⟩,⟨rfl,rfl⟩,trivial⟩ ⟨fE (EU (s:=1) (f:=fS) hk2),trivial⟩⟩
 ·have hk2:i=a.length:=Nat.le_antisymm hi (AV c (o7 hi))
  clear c
  conv=>whnf
  subst hk2
  exact tq.mk ⟨rfl,rfl⟩ ⟨⟨rfl,rfl⟩,rfl⟩ ⟨rfl,trivial⟩ ⟨show bW (T:=T) 9 (l7 1 fS k a a.length) 9 (jF 1 fS k a.length) from fE ET,trivial⟩
theorem Zh {a:List nR} {k i:Nat} (h:i<a.length) (hi:i≤a.length) {x:Int} {y:nR} (hx:((k+2*i+1:Nat):Int)=x):List.set (List.set (l7 2 fW k a i) i ⟨markT (k+2*i),y.f1⟩) i ⟨(bV T 113 (List.set (l7 2 fW k a i) i ⟨markT (k+2*i),y.f1⟩) i).f0,x⟩=l7 2 fW k a (i+1):=by
 subst hx
 have h2:bV T 113 (List.set (l7 2 fW k a i) i ⟨markT (k+2*i),y.f1⟩) i=(⟨markT (k+2*i),y.f1⟩:nR):=gs_ (e:=113) (zy hi h)
 have h3:(⟨nR.f0 (bV T 113 (List.set (l7 2 fW k a i) i ⟨markT (k+2*i),y.f1⟩) i),((k+2*i+1:Nat):Int)⟩:nR)=fW (k+2*i):=congrArg (fun z:nR=>(⟨z.f0,((k+2*i+1:Nat):Int)⟩:nR)) h2
 exact(congrArg (List.set _ i) h3).trans ((List.set_set ..).trans (EU h))
theorem k2_ {k:Nat} (h:k+2≤4611686018427387904):((k+2:Nat):Int)=wrap64 (wrap64 ((k:Int)+1)+1):=by simp only [wrap64];omega
theorem Wq (a:List nR) (k:Nat) (hl:a.length≤140737488351232) (h0:0<k) (hk:k+2*a.length≤4611686018427387904):CallWOb T Tryz.prog 60 [.c (.ow 113 a 113 (jF 2 fW k a.length)), .c (.c (.sc (.int .i64 (k:Int))))] (.c (.sc (.int .i64 ((k+2*a.length:Nat):Int)))):=by
 refine nK hT Tryz.func60 (by kernel_rfl) rfl rfl (fun A=>?_)
 conv=>whnf
 refine dU.mk {i:Nat // i≤a.length} (fun p=>(1,[(5,i64 p.1),(1,i64 (k+2*p.1:Nat)),(0,hd0)],[(1000, .row 0 113 (l7 2 fW k a p.1))])) (fun p=>a.length - p.1) ⟨0,Nat.zero_le _⟩ (ay [] rfl rfl rfl ⟨⟨rfl,rfl⟩,⟨rfl,rfl⟩,⟨rfl,rfl⟩,trivial⟩ ⟨show bW (T:=T) 113 a 113 (l7 2 fW k a 0) from fE AU,trivial⟩) ?_
 rintro⟨i,hi⟩
 conv=>whnf
 refine Split.mk (fun c=>?_) (fun c=>?_)
 ·have hk2:i<a.length:=Jk c (o7 hi)
  clear c
  have hb:k+2*i+2≤4611686018427387904:=by omega
  conv=>whnf
  refine aG.mk _ (wY (k+2*i) (by omega) (by omega)) ?_
  conv=>whnf
  refine Need.mk (idx (zy hi hk2)) ?_
  conv=>whnf
  refine Need.mk (idx (Nat.lt_of_lt_of_eq (zy hi hk2) List.length_set.symm)) ?_
  conv=>whnf
  exact bM.mk ⟨⟨i+1,hk2⟩,Nat.sub_lt_sub_left hk2 (Nat.lt_succ_self i),ay [] rfl rfl rfl ⟨⟨rfl,congrArg i64 (eu hk2 hl)⟩,⟨rfl,congrArg i64 (k2_ (k:=k+2*i) (by omega))⟩,⟨rfl,rfl⟩,trivial⟩ ⟨fE (Zh (a:=a) hk2 hi (BL (k:=k+2*i) (n:=2) (by omega) (by decide))),trivial⟩⟩
 ·have hk2:i=a.length:=Nat.le_antisymm hi (AV c (o7 hi))
  clear c
  conv=>whnf
  subst hk2
  exact tq.mk ⟨rfl,rfl⟩ ⟨⟨rfl,rfl⟩,rfl⟩ ⟨rfl,trivial⟩ ⟨show bW (T:=T) 113 (l7 2 fW k a a.length) 113 (jF 2 fW k a.length) from fE ET,trivial⟩
end Go.Proofs.YtcnfgfomholheaaGreatDoor.Q
end
section
namespace Go.Proofs.YtcnfgfomholheaaGreatDoor.Q
open Go.RowKit Go.Proofs.YtcnfgfomholheaaGreatDoor.Z
set_option linter.unusedVariables false
set_option linter.unusedSimpArgs false
set_option maxRecDepth 100000
set_option maxHeartbeats 4000000
def bP {β:Type} (f:β→Nat→β × Nat):List β→Nat→List β × Nat
 | [],k=>([],k)
 | p::l,k=>((f p k).1::(bP f l (f p k).2).1,(bP f l (f p k).2).2)
def kE {β:Type} (f:β→Nat→β × Nat) (a:List β) (k i:Nat):List β:=(bP f (a.take i) k).1++a.drop i
section
variable {β:Type} {f:β→Nat→β × Nat} {a:List β} {k i:Nat} {d:β}
theorem EW:∀(l m:List β) (k:Nat),bP f (l++m) k=((bP f l k).1++(bP f m (bP f l k).2).1,(bP f m (bP f l k).2).2)
 | [],_,_=>rfl
 | p::l,m,k=>by simp only [List.cons_append,bP,EW l m]
theorem zA:∀(l:List β) (k:Nat),(bP f l k).1.length=l.length
 | [],_=>rfl
 | p::l,k=>by simp only [bP,List.length_cons,zA l]
theorem wZ (h:i<a.length):bP f (a.take (i+1)) k=((bP f (a.take i) k).1++[(f (a.getD i d) (bP f (a.take i) k).2).1],(f (a.getD i d) (bP f (a.take i) k).2).2):=by
 have e:a.getD i d=a[i]:=by simp [h]
 rw [List.take_succ_eq_append_getElem h,EW,e];rfl
theorem kJ (hf:∀p k,k≤(f p k).2):∀(l:List β) (k:Nat),k≤(bP f l k).2
 | [],k=>Nat.le_refl _
 | p::l,k=>Nat.le_trans (hf p k) (kJ hf l _)
theorem AX (hf:∀p k,k≤(f p k).2) (i:Nat):(bP f (a.take i) k).2≤(bP f a k).2:=by
 have h:=EW (f:=f) (a.take i) (a.drop i) k
 rw [List.take_append_drop] at h
 rw [h];exact kJ hf _ _
theorem GU (h:i≤a.length):(kE f a k i).length=a.length:=by
 rw [kE,List.length_append,zA,List.length_take,List.length_drop];omega
theorem PV (h:i<a.length) (x:β):(kE f a k i).set i x=(bP f (a.take i) k).1++x::a.drop (i+1):=by
 have hl:(bP f (a.take i) k).1.length=i:=by rw [zA,List.length_take];omega
 rw [kE,List.set_append_right _ _ (by omega),hl,Nat.sub_self,List.drop_eq_getElem_cons h];rfl
theorem DU (h:i<a.length):kE f a k i=(kE f a k i).set i (a.getD i d):=by
 rw [PV h,kE,List.drop_eq_getElem_cons h];simp [h]
theorem DV (h:i<a.length):(kE f a k i).set i (f (a.getD i d) (bP f (a.take i) k).2).1=kE f a k (i+1):=by
 rw [PV h,kE,wZ (d:=d) h,List.append_assoc];rfl
theorem GV:kE f a k a.length=(bP f a k).1:=by rw [kE,List.take_length,List.drop_length,List.append_nil]
theorem wu {e:Nat} {R:List (T.Tb e)} {i:Nat} (h:i<R.length) (x:T.Tb e) (g:T.Tb e→T.Tb e):(R.set i x).set i (g (bV T e (R.set i x) i))=R.set i (g x):=by
 rw [gs_ h,List.set_set]
theorem ge_ {e:Nat} {R:List (T.Tb e)} {i:Nat} (h:i<R.length) (x:T.Tb e) (C:T.Tb e→Prop) (hc:C x):C (bV T e (R.set i x) i):=by
 rw [gs_ h];exact hc
end
def iJ (p:SS) (k:Nat):SS × Nat:=(⟨markT k,((k+1:Nat):Int),((k+2:Nat):Int)⟩,k+3)
def dV (p:SK) (k:Nat):SK × Nat:=(⟨markT k,jF 1 fB (k+1) p.f1.length,((k+1+1*p.f1.length:Nat):Int)⟩,k+1+1*p.f1.length+1)
mutual
def dI:SN→Nat→SN × Nat
 | ⟨a,b,c⟩,k=>(⟨jF 1 fS k a.length,(sF b (k+1*a.length)).1,(bP iJ c (sF b (k+1*a.length)).2).1⟩,(bP iJ c (sF b (k+1*a.length)).2).2)
def sF:List SN→Nat→List SN × Nat
 | [],k=>([],k)
 | p::l,k=>((dI p k).1::(sF l (dI p k).2).1,(sF l (dI p k).2).2)
end
theorem SV:∀l:List SN,sF l=bP dI l
 | []=>by funext k;rw [sF];rfl
 | p::l=>by funext k;rw [sF,SV l];rfl
theorem DW (n:SN) (k:Nat):dI n k=(⟨jF 1 fS k n.f0.length,(bP dI n.f1 (k+1*n.f0.length)).1,(bP iJ n.f2 (bP dI n.f1 (k+1*n.f0.length)).2).1⟩,(bP iJ n.f2 (bP dI n.f1 (k+1*n.f0.length)).2).2):=by cases n;rw [dI,SV]
theorem vX (p:SS) (k:Nat):k≤(iJ p k).2:=by show k≤k+3;omega
theorem vS (p:SK) (k:Nat):k≤(dV p k).2:=by show k≤k+1+1*p.f1.length+1;omega
theorem SX {β:Type} {f:β→Nat→β × Nat}:∀(l:List β) (k:Nat),(∀p∈l,∀k,k≤(f p k).2)→k≤(bP f l k).2
 | [],k,_=>Nat.le_refl _
 | p::l,k,h=>Nat.le_trans (h p List.mem_cons_self k) (SX l _ (fun q hq=>h q (List.mem_cons_of_mem _ hq)))
theorem uw:∀(n:SN) (k:Nat),k≤(dI n k).2:=fun n k=>by
 rw [DW]
 exact Nat.le_trans (Nat.le_trans (Nat.le_add_right _ _) (SX n.f1 _ (fun p hp k=>uw p k))) (kJ vX _ _)
termination_by n=>SizeOf.sizeOf n
decreasing_by exact qX hp
theorem PW (a:List SS) (k:Nat) (ha:a.length≤2097152) (h0:0<k) (hk:(bP (β:=SS) iJ a k).2≤4611686018427387904):CallWOb T Tryz.prog 34 [.c (.ow eS a eS (bP (β:=SS) iJ a k).1), .c (.c (.sc (.int .i64 (k:Int))))] (.c (.sc (.int .i64 ((bP (β:=SS) iJ a k).2:Int)))):=by
 refine tX hT Tryz.func34 (by kernel_rfl) rfl rfl (fun A=>?_)
 refine Vc.seq 0 hT ?_
 conv=>whnf
 refine Vc.yA ?_
 refine Vc.seq 0 hT ?_
 conv=>whnf
 refine Vc.block ?_
 refine Vc.loop (α:={i:Nat // i≤a.length}) (fun s=>([(5,i64 s.1),(1,i64 ((bP (β:=SS) iJ (a.take s.1) k).2:Nat)),(0,hd0)],[(1000, .row 0 eS (kE (β:=SS) iJ a k s.1))])) (fun s=>a.length - s.1) ⟨0,Nat.zero_le _⟩ (ay [] rfl rfl rfl ⟨⟨rfl,rfl⟩,⟨rfl,rfl⟩,⟨rfl,rfl⟩,trivial⟩ ⟨show bW (T:=T) eS a eS (kE (β:=SS) iJ a k 0) from fE rfl,trivial⟩) ?_
 rintro⟨i,hi⟩
 have hR:=GU (β:=SS) (f:=iJ) (k:=k) hi
 refine Vc.seq 1 hT ?_
 conv=>whnf
 refine Split.mk (fun c=>?_) (fun c=>?_)
 ·have hk2:i<a.length:=Jk c hR
  clear c
  have hq:=kJ (β:=SS) vX (a.take i) k
  have hself:=DU (β:=SS) (f:=iJ) (k:=k) (d:=T.df eS) hk2
  have hnext:=DV (β:=SS) (f:=iJ) (k:=k) (d:=T.df eS) hk2
  have hmk:=wZ (β:=SS) (f:=iJ) (k:=k) (d:=T.df eS) hk2
  have hkp:=Nat.le_trans (AX (β:=SS) (f:=iJ) (a:=a) (k:=k) vX (i+1)) hk
  rw [hmk] at hkp
  replace hmk:=congrArg Prod.snd hmk
  have hp:=getD_mem (α:=SS) (d:=T.df eS) hk2
  generalize kE (β:=SS) iJ a k i=R at hself hnext hR⊢
  generalize (bP (β:=SS) iJ (a.take i) k).2=k at hq hnext hmk hkp⊢
  generalize a.getD i (T.df eS)=p at hself hnext hmk hkp hp⊢
  have hlt:i<R.length:=by omega
  have hk1:0<k:=by omega
  have hkb:(iJ p k).2≤4611686018427387904:=hkp
  conv=>whnf
  refine Vc.imp (tm':=[(5,i64 i),(1,i64 (k:Nat)),(0,hd0)]) (rs':=[(1000, .row 0 eS (R.set i p))]) (ay [] rfl rfl rfl ⟨⟨rfl,rfl⟩,⟨rfl,rfl⟩,⟨rfl,rfl⟩,trivial⟩ ⟨show bW (T:=T) eS R eS (R.set i p) from fE hself,trivial⟩) ?_
  clear hself
  refine Vc.yA ?_
  refine Vc.block ?_
  refine Vc.seq 1 hT ?_
  conv=>whnf
  refine aG.mk _ (wY k (by omega) (by simp only [iJ] at hkb;omega)) ?_
  conv=>whnf
  refine Need.mk (idx (Nat.lt_of_lt_of_eq hlt List.length_set.symm)) ?_
  conv=>whnf
  refine Vc.cut (α:=Unit) 50 (fun _=>True) (fun _=>[(5,i64 i),(1,i64 ((k+1):Nat)),(0,hd0)]) (fun _=>[(1000, .row 0 eS (R.set i (⟨markT k,p.f1,p.f2⟩:SS)))]) hT ?_ (fun _ _=>?_)
  ·conv=>whnf
   exact ku.mk ⟨(),trivial,ay [] rfl rfl rfl ⟨⟨rfl,rfl⟩,⟨rfl,congrArg i64 (BL (k:=k) (n:=1) (by simp only [iJ] at hkb;omega) (by decide))⟩,⟨rfl,rfl⟩,trivial⟩ ⟨fE (wu (e:=eS) hlt (p:SS) (fun q:T.Tb eS=>(⟨markT k,q.f1,q.f2⟩:SS))),trivial⟩⟩
  refine Vc.seq 1 hT ?_
  conv=>whnf
  refine Need.mk (idx (Nat.lt_of_lt_of_eq hlt List.length_set.symm)) ?_
  conv=>whnf
  refine Vc.cut (α:=Unit) 50 (fun _=>True) (fun _=>[(5,i64 i),(1,i64 (((k+1)+1):Nat)),(0,hd0)]) (fun _=>[(1000, .row 0 eS (R.set i (⟨markT k,(((k+1):Nat):Int),p.f2⟩:SS)))]) hT ?_ (fun _ _=>?_)
  ·conv=>whnf
   exact ku.mk ⟨(),trivial,ay [] rfl rfl rfl ⟨⟨rfl,rfl⟩,⟨rfl,congrArg i64 (BL (k:=(k+1)) (n:=1) (by simp only [iJ] at hkb;omega) (by decide))⟩,⟨rfl,rfl⟩,trivial⟩ ⟨fE (wu (e:=eS) hlt (⟨markT k,p.f1,p.f2⟩:SS) (fun q:T.Tb eS=>(⟨q.f0,(((k+1):Nat):Int),q.f2⟩:SS))),trivial⟩⟩
  refine Vc.seq 1 hT ?_
  conv=>whnf
  refine Need.mk (idx (Nat.lt_of_lt_of_eq hlt List.length_set.symm)) ?_
  conv=>whnf
  refine Vc.of 1 hT ?_
  conv=>whnf
  refine Vc.of 1 hT ?_
  conv=>whnf
  exact bM.mk ⟨⟨i+1,hk2⟩,Nat.sub_lt_sub_left hk2 (Nat.lt_succ_self i),ay [] rfl rfl rfl ⟨⟨rfl,congrArg i64 (eu hk2 (by omega))⟩,⟨rfl,congrArg i64 ((congrArg (fun x:Nat=>(x:Int)) (hmk)).trans (BL (k:=((k+1)+1)) (n:=1) (by simp only [iJ] at hkb;omega) (by decide)))⟩,⟨rfl,rfl⟩,trivial⟩ ⟨fE ((wu (e:=eS) hlt (⟨markT k,(((k+1):Nat):Int),p.f2⟩:SS) (fun q:T.Tb eS=>(⟨q.f0,q.f1,((((k+1)+1):Nat):Int)⟩:SS))).trans hnext),trivial⟩⟩
 ·have hk2:i=a.length:=Nat.le_antisymm hi (AV c hR)
  clear c hR
  subst hk2
  conv=>whnf
  refine Vc.of 1 hT ?_
  conv=>whnf
  exact tq.mk ⟨rfl,rfl⟩ ⟨⟨rfl,rfl⟩,rfl⟩ ⟨iv (by rw [List.take_length]),trivial⟩ ⟨show bW (T:=T) eS (kE (β:=SS) iJ a k a.length) eS (bP (β:=SS) iJ a k).1 from fE GV,trivial⟩
theorem LG (a:List SK) (k:Nat) (ha:a.length≤16777216) (hy:∀y∈a,y.f1.length≤2097152) (h0:0<k) (hk:(bP (β:=SK) dV a k).2≤4611686018427387904):CallWOb T Tryz.prog 67 [.c (.ow eK a eK (bP (β:=SK) dV a k).1), .c (.c (.sc (.int .i64 (k:Int))))] (.c (.sc (.int .i64 ((bP (β:=SK) dV a k).2:Int)))):=by
 refine tX hT Tryz.func67 (by kernel_rfl) rfl rfl (fun A=>?_)
 refine Vc.seq 0 hT ?_
 conv=>whnf
 refine Vc.yA ?_
 refine Vc.seq 0 hT ?_
 conv=>whnf
 refine Vc.block ?_
 refine Vc.loop (α:={i:Nat // i≤a.length}) (fun s=>([(5,i64 s.1),(1,i64 ((bP (β:=SK) dV (a.take s.1) k).2:Nat)),(0,hd0)],[(1000, .row 0 eK (kE (β:=SK) dV a k s.1))])) (fun s=>a.length - s.1) ⟨0,Nat.zero_le _⟩ (ay [] rfl rfl rfl ⟨⟨rfl,rfl⟩,⟨rfl,rfl⟩,⟨rfl,rfl⟩,trivial⟩ ⟨show bW (T:=T) eK a eK (kE (β:=SK) dV a k 0) from fE rfl,trivial⟩) ?_
 rintro⟨i,hi⟩
 have hR:=GU (β:=SK) (f:=dV) (k:=k) hi
 refine Vc.seq 1 hT ?_
 conv=>whnf
 refine Split.mk (fun c=>?_) (fun c=>?_)
 ·have hk2:i<a.length:=Jk c hR
  clear c
  have hq:=kJ (β:=SK) vS (a.take i) k
  have hself:=DU (β:=SK) (f:=dV) (k:=k) (d:=T.df eK) hk2
  have hnext:=DV (β:=SK) (f:=dV) (k:=k) (d:=T.df eK) hk2
  have hmk:=wZ (β:=SK) (f:=dV) (k:=k) (d:=T.df eK) hk2
  have hkp:=Nat.le_trans (AX (β:=SK) (f:=dV) (a:=a) (k:=k) vS (i+1)) hk
  rw [hmk] at hkp
  replace hmk:=congrArg Prod.snd hmk
  have hp:=getD_mem (α:=SK) (d:=T.df eK) hk2
  have hpb:=hy _ hp
  generalize kE (β:=SK) dV a k i=R at hself hnext hR⊢
  generalize (bP (β:=SK) dV (a.take i) k).2=k at hq hnext hmk hkp⊢
  generalize a.getD i (T.df eK)=p at hself hnext hmk hkp hp hpb⊢
  have hlt:i<R.length:=by omega
  have hk1:0<k:=by omega
  have hkb:(dV p k).2≤4611686018427387904:=hkp
  conv=>whnf
  refine Vc.imp (tm':=[(5,i64 i),(1,i64 (k:Nat)),(0,hd0)]) (rs':=[(1000, .row 0 eK (R.set i p))]) (ay [] rfl rfl rfl ⟨⟨rfl,rfl⟩,⟨rfl,rfl⟩,⟨rfl,rfl⟩,trivial⟩ ⟨show bW (T:=T) eK R eK (R.set i p) from fE hself,trivial⟩) ?_
  clear hself
  refine Vc.yA ?_
  refine Vc.block ?_
  refine Vc.seq 1 hT ?_
  conv=>whnf
  refine aG.mk _ (wY k (by omega) (by simp only [dV] at hkb;omega)) ?_
  conv=>whnf
  refine Need.mk (idx (Nat.lt_of_lt_of_eq hlt List.length_set.symm)) ?_
  conv=>whnf
  refine Vc.cut (α:=Unit) 50 (fun _=>True) (fun _=>[(5,i64 i),(1,i64 ((k+1):Nat)),(0,hd0)]) (fun _=>[(1000, .row 0 eK (R.set i (⟨markT k,p.f1,p.f2⟩:SK)))]) hT ?_ (fun _ _=>?_)
  ·conv=>whnf
   exact ku.mk ⟨(),trivial,ay [] rfl rfl rfl ⟨⟨rfl,rfl⟩,⟨rfl,congrArg i64 (BL (k:=k) (n:=1) (by simp only [dV] at hkb;omega) (by decide))⟩,⟨rfl,rfl⟩,trivial⟩ ⟨fE (wu (e:=eK) hlt (p:SK) (fun q:T.Tb eK=>(⟨markT k,q.f1,q.f2⟩:SK))),trivial⟩⟩
  refine Vc.cut (α:=Unit) 50 (fun _=>True) (fun _=>[(5,i64 i),(1,i64 (((k+1)+1*p.f1.length):Nat)),(0,hd0)]) (fun _=>[(1000, .row 0 eK (R.set i (⟨markT k,jF 1 fB (k+1) p.f1.length,p.f2⟩:SK)))]) hT ?_ (fun _ _=>?_)
  ·conv=>whnf
   refine Need.mk (idx (Nat.lt_of_lt_of_eq hlt List.length_set.symm)) ?_
   conv=>whnf
   refine aG.wr [[NW.wr 5 (jF 1 fB (k+1) p.f1.length)],[NW.rd]] (.c (.sc (.int .i64 ((((k+1)+1*p.f1.length):Nat):Int)))) ?_
   conv=>whnf
   refine lC.mk (ge_ (e:=eK) hlt (⟨markT k,p.f1,p.f2⟩:SK) (fun q=>CallWOb T Tryz.prog 53 [.c (.ow 5 q.f1 5 (jF 1 fB (k+1) p.f1.length)), .c (.c (.sc (.int .i64 (((k+1):Nat):Int))))] (.c (.sc (.int .i64 ((((k+1)+1*p.f1.length):Nat):Int))))) (Xy p.f1 ((k+1)) (Nat.le_trans hpb (by decide)) (by omega) (by simp only [dV] at hkb;omega))) ?_
   conv=>whnf
   exact ku.mk ⟨(),trivial,ay [] rfl rfl rfl ⟨⟨rfl,rfl⟩,⟨rfl,rfl⟩,⟨rfl,rfl⟩,trivial⟩ ⟨fE (wu (e:=eK) hlt (⟨markT k,p.f1,p.f2⟩:SK) (fun q:T.Tb eK=>(⟨q.f0,jF 1 fB (k+1) p.f1.length,q.f2⟩:SK))),trivial⟩⟩
  refine Vc.seq 1 hT ?_
  conv=>whnf
  refine Need.mk (idx (Nat.lt_of_lt_of_eq hlt List.length_set.symm)) ?_
  conv=>whnf
  refine Vc.of 1 hT ?_
  conv=>whnf
  refine Vc.of 1 hT ?_
  conv=>whnf
  exact bM.mk ⟨⟨i+1,hk2⟩,Nat.sub_lt_sub_left hk2 (Nat.lt_succ_self i),ay [] rfl rfl rfl ⟨⟨rfl,congrArg i64 (eu hk2 (by omega))⟩,⟨rfl,congrArg i64 ((congrArg (fun x:Nat=>(x:Int)) (hmk)).trans (BL (k:=((k+1)+1*p.f1.length)) (n:=1) (by simp only [dV] at hkb;omega) (by decide)))⟩,⟨rfl,rfl⟩,trivial⟩ ⟨fE ((wu (e:=eK) hlt (⟨markT k,jF 1 fB (k+1) p.f1.length,p.f2⟩:SK) (fun q:T.Tb eK=>(⟨q.f0,q.f1,((((k+1)+1*p.f1.length):Nat):Int)⟩:SK))).trans hnext),trivial⟩⟩
 ·have hk2:i=a.length:=Nat.le_antisymm hi (AV c hR)
  clear c hR
  subst hk2
  conv=>whnf
  refine Vc.of 1 hT ?_
  conv=>whnf
  exact tq.mk ⟨rfl,rfl⟩ ⟨⟨rfl,rfl⟩,rfl⟩ ⟨iv (by rw [List.take_length]),trivial⟩ ⟨show bW (T:=T) eK (kE (β:=SK) dV a k a.length) eK (bP (β:=SK) dV a k).1 from fE GV,trivial⟩
theorem PX (a:List SN) (k:Nat) (ha:a.length≤2097152) (hy:∀y∈a,Bd y∧∀k,0<k→(bP dI y.f1 k).2≤4611686018427387904→CallWOb T Tryz.prog 103 [.c (.ow eN y.f1 eN (bP dI y.f1 k).1), .c (.c (.sc (.int .i64 (k:Int))))] (.c (.sc (.int .i64 ((bP dI y.f1 k).2:Int))))) (h0:0<k) (hk:(bP (β:=SN) dI a k).2≤4611686018427387904):CallWOb T Tryz.prog 103 [.c (.ow eN a eN (bP (β:=SN) dI a k).1), .c (.c (.sc (.int .i64 (k:Int))))] (.c (.sc (.int .i64 ((bP (β:=SN) dI a k).2:Int)))):=by
 refine tX hT Tryz.func103 (by kernel_rfl) rfl rfl (fun A=>?_)
 refine Vc.seq 0 hT ?_
 conv=>whnf
 refine Vc.yA ?_
 refine Vc.seq 0 hT ?_
 conv=>whnf
 refine Vc.block ?_
 refine Vc.loop (α:={i:Nat // i≤a.length}) (fun s=>([(5,i64 s.1),(1,i64 ((bP (β:=SN) dI (a.take s.1) k).2:Nat)),(0,hd0)],[(1000, .row 0 eN (kE (β:=SN) dI a k s.1))])) (fun s=>a.length - s.1) ⟨0,Nat.zero_le _⟩ (ay [] rfl rfl rfl ⟨⟨rfl,rfl⟩,⟨rfl,rfl⟩,⟨rfl,rfl⟩,trivial⟩ ⟨show bW (T:=T) eN a eN (kE (β:=SN) dI a k 0) from fE rfl,trivial⟩) ?_
 rintro⟨i,hi⟩
 have hR:=GU (β:=SN) (f:=dI) (k:=k) hi
 refine Vc.seq 1 hT ?_
 conv=>whnf
 refine Split.mk (fun c=>?_) (fun c=>?_)
 ·have hk2:i<a.length:=Jk c hR
  clear c
  have hq:=kJ (β:=SN) uw (a.take i) k
  have hself:=DU (β:=SN) (f:=dI) (k:=k) (d:=T.df eN) hk2
  have hnext:=DV (β:=SN) (f:=dI) (k:=k) (d:=T.df eN) hk2
  have hmk:=wZ (β:=SN) (f:=dI) (k:=k) (d:=T.df eN) hk2
  have hkp:=Nat.le_trans (AX (β:=SN) (f:=dI) (a:=a) (k:=k) uw (i+1)) hk
  rw [hmk] at hkp
  replace hmk:=congrArg Prod.snd hmk
  have hp:=getD_mem (α:=SN) (d:=T.df eN) hk2
  have hpb:=hy _ hp
  rw [DW] at hkp
  generalize kE (β:=SN) dI a k i=R at hself hnext hR⊢
  generalize (bP (β:=SN) dI (a.take i) k).2=k at hq hnext hmk hkp⊢
  generalize a.getD i (T.df eN)=p at hself hnext hmk hkp hp hpb⊢
  have hlt:i<R.length:=by omega
  have hk1:0<k:=by omega
  have hkb:(bP iJ p.f2 (bP dI p.f1 (k+1*p.f0.length)).2).2≤4611686018427387904:=hkp
  conv=>whnf
  refine Vc.imp (tm':=[(5,i64 i),(1,i64 (k:Nat)),(0,hd0)]) (rs':=[(1000, .row 0 eN (R.set i p))]) (ay [] rfl rfl rfl ⟨⟨rfl,rfl⟩,⟨rfl,rfl⟩,⟨rfl,rfl⟩,trivial⟩ ⟨show bW (T:=T) eN R eN (R.set i p) from fE hself,trivial⟩) ?_
  clear hself
  refine Vc.yA ?_
  refine Vc.block ?_
  refine Vc.cut (α:=Unit) 50 (fun _=>True) (fun _=>[(5,i64 i),(1,i64 ((k+1*p.f0.length):Nat)),(0,hd0)]) (fun _=>[(1000, .row 0 eN (R.set i (⟨jF 1 fS k p.f0.length,p.f1,p.f2⟩:SN)))]) hT ?_ (fun _ _=>?_)
  ·conv=>whnf
   refine Need.mk (idx (Nat.lt_of_lt_of_eq hlt List.length_set.symm)) ?_
   conv=>whnf
   refine aG.wr [[NW.wr 9 (jF 1 fS k p.f0.length)],[NW.rd]] (.c (.sc (.int .i64 (((k+1*p.f0.length):Nat):Int)))) ?_
   conv=>whnf
   refine lC.mk (ge_ (e:=eN) hlt (p:SN) (fun q=>CallWOb T Tryz.prog 48 [.c (.ow 9 q.f0 9 (jF 1 fS k p.f0.length)), .c (.c (.sc (.int .i64 ((k:Nat):Int))))] (.c (.sc (.int .i64 (((k+1*p.f0.length):Nat):Int))))) (FC p.f0 (k) (Nat.le_trans hpb.1.l0 (by decide)) (by omega) (Nat.le_trans (Nat.le_trans (kJ uw p.f1 _) (kJ vX p.f2 _)) hkb))) ?_
   conv=>whnf
   exact ku.mk ⟨(),trivial,ay [] rfl rfl rfl ⟨⟨rfl,rfl⟩,⟨rfl,rfl⟩,⟨rfl,rfl⟩,trivial⟩ ⟨fE (wu (e:=eN) hlt (p:SN) (fun q:T.Tb eN=>(⟨jF 1 fS k p.f0.length,q.f1,q.f2⟩:SN))),trivial⟩⟩
  refine Vc.cut (α:=Unit) 50 (fun _=>True) (fun _=>[(5,i64 i),(1,i64 ((bP dI p.f1 (k+1*p.f0.length)).2:Nat)),(0,hd0)]) (fun _=>[(1000, .row 0 eN (R.set i (⟨jF 1 fS k p.f0.length,(bP dI p.f1 (k+1*p.f0.length)).1,p.f2⟩:SN)))]) hT ?_ (fun _ _=>?_)
  ·conv=>whnf
   refine Need.mk (idx (Nat.lt_of_lt_of_eq hlt List.length_set.symm)) ?_
   conv=>whnf
   refine aG.wr [[NW.wr eN ((bP dI p.f1 (k+1*p.f0.length)).1)],[NW.rd]] (.c (.sc (.int .i64 (((bP dI p.f1 (k+1*p.f0.length)).2:Nat):Int)))) ?_
   conv=>whnf
   refine lC.mk (ge_ (e:=eN) hlt (⟨jF 1 fS k p.f0.length,p.f1,p.f2⟩:SN) (fun q=>CallWOb T Tryz.prog 103 [.c (.ow eN q.f1 eN ((bP dI p.f1 (k+1*p.f0.length)).1)), .c (.c (.sc (.int .i64 (((k+1*p.f0.length):Nat):Int))))] (.c (.sc (.int .i64 (((bP dI p.f1 (k+1*p.f0.length)).2:Nat):Int))))) (hpb.2 ((k+1*p.f0.length)) (by omega) (Nat.le_trans (kJ vX p.f2 _) hkb))) ?_
   conv=>whnf
   exact ku.mk ⟨(),trivial,ay [] rfl rfl rfl ⟨⟨rfl,rfl⟩,⟨rfl,rfl⟩,⟨rfl,rfl⟩,trivial⟩ ⟨fE (wu (e:=eN) hlt (⟨jF 1 fS k p.f0.length,p.f1,p.f2⟩:SN) (fun q:T.Tb eN=>(⟨q.f0,(bP dI p.f1 (k+1*p.f0.length)).1,q.f2⟩:SN))),trivial⟩⟩
  refine Vc.of 1 hT ?_
  conv=>whnf
  refine Need.mk (idx (Nat.lt_of_lt_of_eq hlt List.length_set.symm)) ?_
  conv=>whnf
  refine aG.wr [[NW.wr eS ((bP iJ p.f2 (bP dI p.f1 (k+1*p.f0.length)).2).1)],[NW.rd]] (.c (.sc (.int .i64 (((bP iJ p.f2 (bP dI p.f1 (k+1*p.f0.length)).2).2:Nat):Int)))) ?_
  conv=>whnf
  refine lC.mk (ge_ (e:=eN) hlt (⟨jF 1 fS k p.f0.length,(bP dI p.f1 (k+1*p.f0.length)).1,p.f2⟩:SN) (fun q=>CallWOb T Tryz.prog 34 [.c (.ow eS q.f2 eS ((bP iJ p.f2 (bP dI p.f1 (k+1*p.f0.length)).2).1)), .c (.c (.sc (.int .i64 (((bP dI p.f1 (k+1*p.f0.length)).2:Nat):Int))))] (.c (.sc (.int .i64 (((bP iJ p.f2 (bP dI p.f1 (k+1*p.f0.length)).2).2:Nat):Int))))) (PW p.f2 ((bP dI p.f1 (k+1*p.f0.length)).2) hpb.1.l2 (Nat.lt_of_lt_of_le (show 0<k+1*p.f0.length by omega) (kJ uw _ _)) hkb)) ?_
  conv=>whnf
  refine Vc.of 1 hT ?_
  conv=>whnf
  exact bM.mk ⟨⟨i+1,hk2⟩,Nat.sub_lt_sub_left hk2 (Nat.lt_succ_self i),ay [] rfl rfl rfl ⟨⟨rfl,congrArg i64 (eu hk2 (by omega))⟩,⟨rfl,congrArg i64 ((congrArg (fun x:Nat=>(x:Int)) (hmk.trans (show(dI p k).2=_ from congrArg Prod.snd (DW p k)))).trans (rfl))⟩,⟨rfl,rfl⟩,trivial⟩ ⟨fE ((wu (e:=eN) hlt (⟨jF 1 fS k p.f0.length,(bP dI p.f1 (k+1*p.f0.length)).1,p.f2⟩:SN) (fun q:T.Tb eN=>(⟨q.f0,q.f1,(bP iJ p.f2 (bP dI p.f1 (k+1*p.f0.length)).2).1⟩:SN))).trans (Eq.trans (congrArg (fun z:SN × Nat=>List.set R i z.1) (DW p k).symm) hnext)),trivial⟩⟩
 ·have hk2:i=a.length:=Nat.le_antisymm hi (AV c hR)
  clear c hR
  subst hk2
  conv=>whnf
  refine Vc.of 1 hT ?_
  conv=>whnf
  exact tq.mk ⟨rfl,rfl⟩ ⟨⟨rfl,rfl⟩,rfl⟩ ⟨iv (by rw [List.take_length]),trivial⟩ ⟨show bW (T:=T) eN (kE (β:=SN) dI a k a.length) eN (bP (β:=SN) dI a k).1 from fE GV,trivial⟩
theorem ML:∀(n:SN),Bd n→∀k,0<k→(bP dI n.f1 k).2≤4611686018427387904→CallWOb T Tryz.prog 103 [.c (.ow eN n.f1 eN (bP dI n.f1 k).1), .c (.c (.sc (.int .i64 (k:Int))))] (.c (.sc (.int .i64 ((bP dI n.f1 k).2:Int)))):=fun n hn k h0 hk=>
 PX n.f1 k hn.l1 (fun y hy=>⟨hn.kid y hy,ML y (hn.kid y hy)⟩) h0 hk
termination_by n=>SizeOf.sizeOf n
decreasing_by exact qX hy
theorem Yx (n:SN) (k:Nat) (hn:Bd n) (h0:0<k) (hk:(dI n k).2≤4611686018427387904):CallWOb T Tryz.prog 23 [.ag [.ow 9 n.f0 9 (dI n k).1.f0, .ow eN n.f1 eN (dI n k).1.f1, .ow eS n.f2 eS (dI n k).1.f2], .c (.c (.sc (.int .i64 (k:Int))))] (.c (.sc (.int .i64 ((dI n k).2:Int)))):=by
 rw [DW] at hk⊢
 have g1:=kJ uw n.f1 (k+1*n.f0.length)
 have g2:=kJ vX n.f2 (bP dI n.f1 (k+1*n.f0.length)).2
 have h1:=FC n.f0 k (Nat.le_trans hn.l0 (by decide)) h0 (Nat.le_trans (Nat.le_trans g1 g2) hk)
 have h2:=ML n hn (k+1*n.f0.length) (by omega) (Nat.le_trans g2 hk)
 have h3:=PW n.f2 (bP dI n.f1 (k+1*n.f0.length)).2 hn.l2 (by omega) hk
 refine nK hT Tryz.func23 (by kernel_rfl) rfl rfl (fun A=>?_)
 conv=>whnf
 refine aG.wr [[NW.wr 9 (jF 1 fS k n.f0.length)],[NW.rd]] (.c (.sc (.int .i64 ((k+1*n.f0.length:Nat):Int)))) ?_
 conv=>whnf
 refine lC.mk h1 ?_
 conv=>whnf
 refine aG.wr [[NW.wr eN (bP dI n.f1 (k+1*n.f0.length)).1],[NW.rd]] (.c (.sc (.int .i64 ((bP dI n.f1 (k+1*n.f0.length)).2:Int)))) ?_
 conv=>whnf
 refine lC.mk h2 ?_
 conv=>whnf
 refine aG.wr [[NW.wr eS (bP iJ n.f2 (bP dI n.f1 (k+1*n.f0.length)).2).1],[NW.rd]] (.c (.sc (.int .i64 ((bP iJ n.f2 (bP dI n.f1 (k+1*n.f0.length)).2).2:Int)))) ?_
 conv=>whnf
 refine lC.mk h3 ?_
 conv=>whnf
 exact tq.mk ⟨rfl,rfl⟩ ⟨⟨rfl,rfl⟩,rfl⟩ ⟨rfl,trivial⟩ ⟨rfl,rfl,rfl,trivial⟩
end Go.Proofs.YtcnfgfomholheaaGreatDoor.Q
end
section
namespace Go.Proofs.YtcnfgfomholheaaGreatDoor.Q
open Go.RowKit Go.Proofs.YtcnfgfomholheaaGreatDoor.Z
set_option linter.unusedVariables false
set_option linter.unusedSimpArgs false
set_option maxRecDepth 100000
set_option maxHeartbeats 4000000
theorem ZU {n:Nat} {q:Prop} (c:decide ((n:Int)<0)=true):q:=by have:=JX c;omega
theorem Xz (n k:Nat) (hl:n≤140737488351232) (h0:0<k) (hk:k+1*n≤4611686018427387904):aH T Tryz.prog 133 [.c (.sl 5 (jF 1 fB k n)), .c (.sc (.int .i64 (k:Int)))] (.c (.sc (.int .i64 ((k+1*n:Nat):Int)))):=by
 refine aI hT Tryz.func133 (by kernel_rfl) rfl rfl (fun A=>?_)
 conv=>whnf
 refine dU.mk {i:Nat // i≤n} (fun p=>(0,[(5,i64 p.1),(1,i64 (k+1*p.1:Nat)),(0,im 5 (jF 1 fB k n))],[])) (fun p=>n - p.1) ⟨0,Nat.zero_le _⟩ (ay [] rfl rfl rfl ⟨⟨rfl,rfl⟩,⟨rfl,rfl⟩,⟨rfl,rfl⟩,trivial⟩ trivial) ?_
 rintro⟨i,hi⟩
 conv=>whnf
 refine Split.mk (fun c=>?_) (fun c=>?_)
 ·have hk2:i<n:=Jk c vW
  clear c
  have hb:k+1*i+1≤4611686018427387904:=by omega
  conv=>whnf
  refine Need.mk (idx (Nat.lt_of_lt_of_eq hk2 vW.symm)) ?_
  conv=>whnf
  refine Split.mk (fun c=>(wF c (aa6 (s:=1) (f:=fB) (k:=k) (d:=(0:Int)) hk2)).elim) (fun c=>?_)
  clear c
  conv=>whnf
  exact bM.mk ⟨⟨i+1,hk2⟩,Nat.sub_lt_sub_left hk2 (Nat.lt_succ_self i),ay [] rfl rfl rfl ⟨⟨rfl,congrArg i64 (eu hk2 hl)⟩,⟨rfl,congrArg i64 (BL (k:=k+1*i) (n:=1) (by omega) (by decide))⟩,⟨rfl,rfl⟩,trivial⟩ trivial⟩
 ·have hk2:i=n:=Nat.le_antisymm hi (AV c vW)
  clear c
  conv=>whnf
  subst hk2
  exact aC.mk ⟨rfl,rfl⟩ ⟨rfl,rfl⟩ ⟨rfl,trivial⟩
theorem aa7 {β:Type} {f:β→Nat→β × Nat} {a:List β} {k i:Nat} {d:β} (h:i<a.length):(bP f a k).1.getD i d=(f (a.getD i d) (bP f (a.take i) k).2).1:=by
 have e:a.getD i d=a[i]:=by simp [h]
 have h1:=EW (f:=f) (a.take i) (a.drop i) k
 rw [List.take_append_drop,List.drop_eq_getElem_cons h] at h1
 have hl:(bP f (a.take i) k).1.length=i:=by rw [zA,List.length_take];omega
 rw [h1,List.getD_eq_getElem?_getD,List.getElem?_append_right (by omega),hl,Nat.sub_self,e]
 rfl
theorem aes {e:Nat} {R:List (T.Tb e)} {i:Nat} {x:T.Tb e} (h:R.getD i (T.df e)=x) (C:T.Tb e→Prop) (hc:C x):C (bV T e R i):=by
 rw [show bV T e R i=x from h];exact hc
theorem Ws (a:List SK) (k:Nat) (ha:a.length≤16777216) (hy:∀y∈a,y.f1.length≤2097152) (h0:0<k) (hk:(bP (β:=SK) dV a k).2≤4611686018427387904):aH T Tryz.prog 68 [.c (.sl eK (bP (β:=SK) dV a k).1), .c (.sc (.int .i64 (k:Int)))] (.c (.sc (.int .i64 ((bP (β:=SK) dV a k).2:Int)))):=by
 refine aI hT Tryz.func68 (by kernel_rfl) rfl rfl (fun A=>?_)
 conv=>whnf
 refine dU.mk {i:Nat // i≤a.length} (fun p=>(0,[(5,i64 p.1),(1,i64 ((bP (β:=SK) dV (a.take p.1) k).2:Nat)),(0,im eK (bP (β:=SK) dV a k).1)],[])) (fun p=>a.length - p.1) ⟨0,Nat.zero_le _⟩ (ay [] rfl rfl rfl ⟨⟨rfl,rfl⟩,⟨rfl,rfl⟩,⟨rfl,rfl⟩,trivial⟩ trivial) ?_
 rintro⟨i,hi⟩
 have hR:=zA (f:=dV) a k
 conv=>whnf
 refine Split.mk (fun c=>?_) (fun c=>?_)
 ·have hk2:i<a.length:=Jk c hR
  clear c
  have hq:=kJ (β:=SK) vS (a.take i) k
  have hg:=aa7 (β:=SK) (f:=dV) (k:=k) (d:=T.df eK) hk2
  have hmk:=congrArg Prod.snd (wZ (β:=SK) (f:=dV) (k:=k) (d:=T.df eK) hk2)
  have hkb:=Nat.le_trans (AX (β:=SK) (f:=dV) (a:=a) (k:=k) vS (i+1)) hk
  rw [hmk] at hkb
  have hp:=getD_mem (α:=SK) (d:=T.df eK) hk2
  have hpb:=hy _ hp
  dsimp only at hkb
  generalize (bP (β:=SK) dV (a.take i) k).2=k2 at hq hg hmk hkb⊢
  generalize a.getD i (T.df eK)=p at hg hmk hkb hp hpb⊢
  have hk1:0<k2:=by omega
  generalize hrw:(bP (β:=SK) dV a k).1=R at hg hR⊢
  have hlt:i<R.length:=by omega
  conv=>whnf
  refine Need.mk (idx hlt) ?_
  conv=>whnf
  refine aG.mk _ (wY k2 (by omega) (by simp only [dV] at hkb;omega)) ?_
  conv=>whnf
  refine bZ.mk ⟨by kernel_rfl,by kernel_rfl⟩ ?_
  conv=>whnf
  refine Split.mk (fun c=>(OY c (congrArg (fun z:SK=>z.f0) hg)).elim) (fun c=>?_)
  clear c
  conv=>whnf
  refine Need.mk (idx hlt) ?_
  conv=>whnf
  refine aG.mk (.c (.sc (.int .i64 (((k2+1+1*p.f1.length):Nat):Int)))) (aes (e:=eK) hg (fun q=>aH T Tryz.prog 133 [.c (.sl 5 q.f1), .c (.sc (.int .i64 (wrap64 ((k2:Int)+1))))] (.c (.sc (.int .i64 (((k2+1+1*p.f1.length):Nat):Int))))) (by have h:=Xz p.f1.length (k2+1) (Nat.le_trans hpb (by decide)) (by omega) (by simp only [dV] at hkb;omega);rw [BL (k:=k2) (n:=1) (by simp only [dV] at hkb;omega) (by decide)] at h;exact h)) ?_
  conv=>whnf
  refine Split.mk (fun c=>ZU c) (fun c=>?_)
  clear c
  conv=>whnf
  refine Need.mk (idx hlt) ?_
  conv=>whnf
  refine Split.mk (fun c=>(wF c ((congrArg (fun z:SK=>z.f2) hg).trans rfl)).elim) (fun c=>?_)
  clear c
  conv=>whnf
  exact bM.mk ⟨⟨i+1,hk2⟩,Nat.sub_lt_sub_left hk2 (Nat.lt_succ_self i),ay [] rfl rfl rfl ⟨⟨rfl,congrArg i64 (eu hk2 (by omega))⟩,⟨rfl,congrArg i64 ((congrArg (fun x:Nat=>(x:Int)) (hmk)).trans (BL (k:=(k2+1+1*p.f1.length)) (n:=1) (by simp only [dV] at hkb;omega) (by decide)))⟩,⟨rfl,rfl⟩,trivial⟩ trivial⟩
 ·have hk2:i=a.length:=Nat.le_antisymm hi (AV c hR)
  clear c
  conv=>whnf
  subst hk2
  exact aC.mk ⟨rfl,rfl⟩ ⟨rfl,rfl⟩ ⟨iv (by rw [List.take_length]),trivial⟩
end Go.Proofs.YtcnfgfomholheaaGreatDoor.Q
end
section
namespace Go.Proofs.YtcnfgfomholheaaGreatDoor.Q
open Go.RowKit Go.Proofs.YtcnfgfomholheaaGreatDoor.Z Go.Proofs.YtcnfgfomholheaaGreatDoor.X Go.Proofs.YtcnfgfomholheaaGreatDoor.Pure
set_option linter.unusedVariables false
set_option linter.unusedSimpArgs false
abbrev NI:=SN
abbrev SI:=SS
abbrev EI:=SE
theorem Zi (b:Nat) (h:Lib.firstT b % 8=2∨Lib.firstT b % 8=3∨Lib.firstT b % 8=4):128≤Lib.accLo (Lib.firstT b / 16):=by
 unfold Lib.firstT at h⊢
 unfold Lib.accLo
 repeat' split at h
 all_goals first | (exfalso;omega) | (simp [*];done) | (simp [*];omega)
theorem PY (a b:List UInt8) (i:Nat) (h:i<a.length):(a++47::b).getD i 0=a.getD i 0:=by
 rw [List.getD_eq_getElem?_getD,List.getD_eq_getElem?_getD,List.getElem?_append_left h]
theorem PZ (a b:List UInt8) (i:Nat) (h:i=a.length):(a++47::b).getD i 0=47:=by
 subst h
 rw [List.getD_eq_getElem?_getD,List.getElem?_append_right (Nat.le_refl _)]
 simp
theorem Zj (a b:List UInt8) (k:Nat) (h:k≤a.length):(a++47::b).drop k=a.drop k++47::b:=List.drop_append_of_le_length h
theorem XA (a b:List UInt8) (h0:0<a.length) (sz lo hi k:Nat) (hlo:sz=2∨sz=3∨sz=4→128≤lo)
  (h:Lib.checkN (a++47::b).length ((a++47::b).getD 1 0).toNat ((a++47::b).getD 2 0).toNat ((a++47::b).getD 3 0).toNat sz lo hi=some k):
  k≤a.length∧1≤k∧Lib.checkN a.length (a.getD 1 0).toNat (a.getD 2 0).toNat (a.getD 3 0).toNat sz lo hi=some k:=by
 have e47:(47:UInt8).toNat=47:=rfl
 have at1:a.length=1→((a++47::b).getD 1 0).toNat=47:=fun e=>by rw [PZ a b 1 e.symm];rfl
 have at2:a.length=2→((a++47::b).getD 2 0).toNat=47:=fun e=>by rw [PZ a b 2 e.symm];rfl
 have at3:a.length=3→((a++47::b).getD 3 0).toNat=47:=fun e=>by rw [PZ a b 3 e.symm];rfl
 have in1:1<a.length→(a++47::b).getD 1 0=a.getD 1 0:=fun e=>PY a b 1 e
 have in2:2<a.length→(a++47::b).getD 2 0=a.getD 2 0:=fun e=>PY a b 2 e
 have in3:3<a.length→(a++47::b).getD 3 0=a.getD 3 0:=fun e=>PY a b 3 e
 unfold Lib.checkN at h⊢
 by_cases c1:sz=2
 ·have hlo:=hlo (.inl c1)
  rw [if_pos c1] at h⊢
  split at h
  ·cases h
  ·rename_i q
   obtain rfl:k=2:=by injection h with h;exact h.symm
   have l1:a.length≠1:=fun e=>by have:=at1 e;omega
   have:=in1 (by omega)
   rw [this] at q
   refine⟨by omega,by omega,?_⟩
   rw [if_neg (by omega)]
 rw [if_neg c1] at h⊢
 by_cases c2:sz=3
 ·have hlo:=hlo (.inr (.inl c2))
  rw [if_pos c2] at h⊢
  split at h
  ·cases h
  ·rename_i q
   obtain rfl:k=3:=by injection h with h;exact h.symm
   have l1:a.length≠1:=fun e=>by have:=at1 e;omega
   have l2:a.length≠2:=fun e=>by have:=at2 e;omega
   have e1:=in1 (by omega)
   have e2:=in2 (by omega)
   rw [e1,e2] at q
   refine⟨by omega,by omega,?_⟩
   rw [if_neg (by omega)]
 rw [if_neg c2] at h⊢
 by_cases c3:sz=4
 ·have hlo:=hlo (.inr (.inr c3))
  rw [if_pos c3] at h⊢
  split at h
  ·cases h
  ·rename_i q
   obtain rfl:k=4:=by injection h with h;exact h.symm
   have l1:a.length≠1:=fun e=>by have:=at1 e;omega
   have l2:a.length≠2:=fun e=>by have:=at2 e;omega
   have l3:a.length≠3:=fun e=>by have:=at3 e;omega
   have e1:=in1 (by omega)
   have e2:=in2 (by omega)
   have e3:=in3 (by omega)
   rw [e1,e2,e3] at q
   refine⟨by omega,by omega,?_⟩
   rw [if_neg (by omega)]
 ·rw [if_neg c3] at h
  cases h
theorem DX:∀(n:Nat) (a b:List UInt8),a.length≤n→Lib.validD (a++47::b)=true→Lib.validD a=true∧Lib.validD b=true
 | n,[],b,_,h=>⟨rfl,by rw [←Lib.validD_cons 47 b (by decide)];exact h⟩
 | 0,x::t,b,hn,h=>by simp at hn
 | n+1,x::t,b,hn,h=>by
   have hn':t.length≤n:=by simpa using hn
   by_cases hx:x.toNat<128
   ·rw [List.cons_append,Lib.validD_cons x _ hx] at h
    rw [Lib.validD_cons x t hx]
    exact DX n t b hn' h
   ·have h128:128≤(((x::t)++47::b).getD 0 0).toNat:=by show 128≤x.toNat;omega
    have h128':128≤((x::t).getD 0 0).toNat:=by show 128≤x.toNat;omega
    have hg:((x::t)++47::b).getD 0 0=(x::t).getD 0 0:=rfl
    rw [Lib.validD_lead _ (by simp) h128,hg] at h
    split at h
    ·cases h
    ·rename_i k hk
     obtain⟨hk1,hk2,hk3⟩:=XA (x::t) b (by simp) _ _ _ k (Zi _) hk
     rw [Zj _ _ _ hk1] at h
     have hl:((x::t).drop k).length≤n:=by rw [List.length_drop,List.length_cons];omega
     obtain⟨i1,i2⟩:=DX n ((x::t).drop k) b hl h
     refine⟨?_,i2⟩
     rw [Lib.validD_lead _ (by simp) h128',hk3]
     exact i1
theorem Zk (n b0 b1 b2 b3:Nat):(Lib.decodeN n b0 b1 b2 b3).1=0↔b0=0:=by
 unfold Lib.decodeN
 repeat' split
 all_goals first | (simp only [];omega) | (constructor<;>intro h<;>first | omega | (simp at h;omega))
theorem Zl (n b0 b1 b2 b3:Nat):1≤(Lib.decodeN n b0 b1 b2 b3).2∧(Lib.decodeN n b0 b1 b2 b3).2≤4∧(2≤(Lib.decodeN n b0 b1 b2 b3).2→128≤b1)∧(3≤(Lib.decodeN n b0 b1 b2 b3).2→128≤b2)∧(4≤(Lib.decodeN n b0 b1 b2 b3).2→128≤b3):=by
 unfold Lib.decodeN
 repeat' split
 all_goals (refine⟨?_,?_,?_,?_,?_⟩<;>simp only []<;>omega)
theorem Jl (s:ByteArray):∀(b pos:Nat),s.size≤pos+b→(lH s b pos=true↔∀j,pos≤j→j<s.size→(s.get! j).toNat≠0)
 | 0,pos,h=>by
   constructor
   ·intro _ j h1 h2
    omega
   ·intro _
    rfl
 | b+1,pos,h=>by
   unfold lH
   by_cases hp:pos<s.size
   ·rw [if_pos hp]
    have e:=Lib.decode_at s pos
    have hz:=Zk (s.size - pos) (s.get! pos).toNat (s.get! (pos+1)).toNat (s.get! (pos+2)).toNat (s.get! (pos+3)).toNat
    obtain⟨w1,w4,t1,t2,t3⟩:=Zl (s.size - pos) (s.get! pos).toNat (s.get! (pos+1)).toNat (s.get! (pos+2)).toNat (s.get! (pos+3)).toNat
    rw [←e] at hz w1 w4 t1 t2 t3
    by_cases h0:(Utf8.decode s pos).1=0
    ·rw [if_pos h0]
     constructor
     ·intro q
      cases q
     ·intro q
      exact absurd (hz.1 h0) (q pos (Nat.le_refl _) hp)
    ·rw [if_neg h0,Jl s b _ (by omega)]
     constructor
     ·intro q j h1 h2
      by_cases hj:pos+(Utf8.decode s pos).2≤j
      ·exact q j hj h2
      ·have:j=pos∨j=pos+1∨j=pos+2∨j=pos+3:=by omega
       rcases this with rfl | rfl | rfl | rfl
       ·exact fun hh=>h0 (hz.2 hh)
       ·have:=t1 (by omega);omega
       ·have:=t2 (by omega);omega
       ·have:=t3 (by omega);omega
     ·intro q j h1 h2
      exact q j (by omega) h2
   ·rw [if_neg hp]
    constructor
    ·intro _ j h1 h2
     omega
    ·intro _
     rfl
theorem tail_cons (y:List UInt8) (r:List (List UInt8)):Lib.joinTail [47] (y::r)=47::(y++Lib.joinTail [47] r):=by simp [Lib.joinTail]
theorem Jm:∀(t:List (List UInt8)) (x:List UInt8),Lib.validD (x++Lib.joinTail [47] t)=true→∀y∈x::t,Lib.validD y=true
 | [],x,h,y,hy=>by
   have:y=x:=by simpa using hy
   subst this
   simpa [Lib.joinTail] using h
 | z::t,x,h,y,hy=>by
   rw [tail_cons] at h
   obtain⟨h1,h2⟩:=DX _ x _ (Nat.le_refl _) h
   rcases List.mem_cons.1 hy with rfl | hy
   ·exact h1
   ·exact Jm t z h2 y hy
theorem P5:∀(t:List (List UInt8)) (x:List UInt8) (b:UInt8),∀y∈x::t,b∈y→b∈x++Lib.joinTail [47] t
 | [],x,b,y,hy,hb=>by
   have:y=x:=by simpa using hy
   subst this
   simp [hb]
 | z::t,x,b,y,hy,hb=>by
   rw [tail_cons]
   rcases List.mem_cons.1 hy with rfl | hy
   ·simp [hb]
   ·have:=P5 t z b y hy hb
    simp only [List.mem_append,List.mem_cons] at this⊢
    exact .inr (.inr this)
theorem MN:∀(t:List (List UInt8)) (x:List UInt8),∀y∈x::t,y.length≤(x++Lib.joinTail [47] t).length
 | [],x,y,hy=>by
   have:y=x:=by simpa using hy
   subst this
   simp
 | z::t,x,y,hy=>by
   rw [tail_cons]
   rcases List.mem_cons.1 hy with rfl | hy
   ·simp
   ·have:=MN t z y hy
    simp only [List.length_append,List.length_cons] at this⊢
    omega
theorem AY (s:ByteArray):fP s=true↔(0:UInt8)∉dl s∧Lib.validD (dl s)=true∧s.size≤60:=by
 unfold fP
 rw [Bool.and_eq_true,Bool.and_eq_true,decide_eq_true_eq,Jl s s.size 0 (by omega)]
 have e:(∀j,0≤j→j<s.size→(s.get! j).toNat≠0)↔(0:UInt8)∉dl s:=by
  have g:∀(j:Nat) (h:j<(dl s).length),s.get! j=(dl s)[j]:=by
   intro j h
   have h2:j<s.data.size:=by rw [jv] at h;exact h
   show s.data[j]! =_
   rw [getElem!_pos s.data j h2]
   rfl
  constructor
  ·intro h m
   obtain⟨j,hj,e⟩:=List.mem_iff_getElem.1 m
   refine h j (Nat.zero_le _) (by rw [jv] at hj;exact hj) ?_
   rw [g j hj,e]
   rfl
  ·intro h j _ hj hz
   have hj':j<(dl s).length:=by rw [jv];exact hj
   rw [g j hj'] at hz
   refine h ?_
   have:(dl s)[j]=0:=UInt8.toNat_inj.1 hz
   rw [←this]
   exact List.getElem_mem hj'
 rw [e]
def dH (p:List ByteArray):ByteArray:=⟨(Lib.join (p.map dl) [47]).toArray⟩
theorem xg (p:List ByteArray):dl (dH p)=Lib.join (p.map dl) [47]:=rfl
theorem Jo (p:List ByteArray):(dH p).size=(Lib.join (p.map dl) [47]).length:=by rw [←jv,xg]
theorem P6 (p:List ByteArray) (h:fP (dH p)=true):∀x∈p,fP x=true:=by
 intro x hx
 obtain⟨h1,h2,h3⟩:=(AY _).1 h
 cases p with
 | nil=>cases hx
 | cons y t=>
   rw [xg,List.map_cons,Lib.join_cons] at h1 h2
   rw [Jo,List.map_cons,Lib.join_cons] at h3
   have hm:dl x∈dl y::t.map dl:=by rw [←List.map_cons];exact List.mem_map_of_mem hx
   refine(AY x).2 ⟨fun m=>h1 (P5 _ _ 0 _ hm m),Jm _ _ h2 _ hm,?_⟩
   have:=MN (t.map dl) (dl y) _ hm
   rw [jv] at this
   omega
theorem XB (x:ByteArray):dH [x]=x:=by
 refine Go.WideShapes.bytes_inj ?_
 show dl (dH [x])=dl x
 rw [xg]
 exact Lib.join_one _ _
theorem UW (p:List ByteArray) (hp:p≠[]) (x:ByteArray):dH (p++[x])=(dH p++(⟨#[47]⟩:ByteArray))++x:=by
 refine Go.WideShapes.bytes_inj ?_
 show dl (dH (p++[x]))=dl ((dH p++(⟨#[47]⟩:ByteArray))++x)
 have ap:∀a b:ByteArray,dl (a++b)=dl a++dl b:=fun a b=>by
  unfold dl
  rw [ByteArray.data_append,Array.toList_append]
 rw [ap,ap,xg,xg]
 cases p with
 | nil=>exact absurd rfl hp
 | cons y t=>
   rw [List.cons_append,List.map_cons,List.map_append,Lib.join_cons,show(y::t).map dl=dl y::t.map dl from rfl,Lib.join_cons]
   have e:∀l:List (List UInt8),Lib.joinTail [47] (l++[dl x])=Lib.joinTail [47] l++[47]++dl x:=fun l=>by simp [Lib.joinTail]
   show dl y++Lib.joinTail [47] (t.map dl++[dl x])=_
   rw [e]
   simp [List.append_assoc]
   rfl
theorem Zm (m:Nat):∀(p:List ByteArray),(∀x∈p,x.size≤m)→(dH p).size≤p.length*(m+1):=by
 intro p h
 rw [Jo]
 cases p with
 | nil=>simp [Lib.join_nil]
 | cons y t=>
   have aux:∀(t:List ByteArray),(∀x∈t,x.size≤m)→(Lib.joinTail [47] (t.map dl)).length≤t.length*(m+1):=by
    intro t
    induction t with
    | nil=>intro _;simp [Lib.joinTail]
    | cons z t ih=>
      intro h
      have h1:=h z List.mem_cons_self
      have h2:=ih (fun x hx=>h x (List.mem_cons_of_mem _ hx))
      rw [List.map_cons,tail_cons,List.length_cons,List.length_append,jv,List.length_cons,Nat.succ_mul]
      omega
   have h1:=h y List.mem_cons_self
   have h2:=aux t (fun x hx=>h x (List.mem_cons_of_mem _ hx))
   rw [List.map_cons,Lib.join_cons,List.length_append,jv,List.length_cons,Nat.succ_mul]
   omega
mutual
def cnt:NI→Nat
 | ⟨a,b,c⟩=>a.length+c.length+uJ b
def uJ:List NI→Nat
 | []=>0
 | k::r=>cnt k+uJ r
end
theorem abz (n:NI):cnt n=n.f0.length+n.f2.length+uJ n.f1:=by cases n;rw [cnt]
def nameP (s:ByteArray):Bool:=fP s && !(dl s).isEmpty
def mX (x:SI):Bool:=nameP x.f0 && ((decide (0≤x.f1) && decide (x.f1≤2)) && decide (x.f2≥0))
def l9 (x:ByteArray):Bool:=(fF x && !(dl x).contains 47) || (dl x).isEmpty
def nU:Option ByteArray→ByteArray→Bool
 | none,_=>true
 | some y,x=>Op.bytesLess y.toList x.toList
def yh:Option ByteArray→List SI→Bool
 | _,[]=>true
 | y,s::r=>mX s && (nU y s.f0 && yh (some s.f0) r)
def uj (l:List SI):Bool:=yh none l
def lT (x:ByteArray):Bool:=decide (x.toList=([35]:List UInt8))
mutual
def okS:Nat→NI→Bool
 | d,⟨ns,ks,ss⟩=>decide (ns.length=ks.length) && (!(decide (0<ns.length) && decide (d=6)) && (uj ss && mY d ns none ks))
def mY:Nat→List ByteArray→Option ByteArray→List NI→Bool
 | d,x::r,p,k::q=>l9 x && (nU p x && (!(decide (k.f0.length=0) && decide (k.f2.length=0)) && (!(lT x && !decide (k.f0.length=0)) && (okS (d+1) k && mY d r (some x) q))))
 | _,_,_,_=>true
end
theorem Jp (d:Nat) (n:NI):okS d n=(decide (n.f0.length=n.f1.length) && (!(decide (0<n.f0.length) && decide (d=6)) && (uj n.f2 && mY d n.f0 none n.f1))):=by
 cases n;rw [okS]
mutual
def zB:Nat→ByteArray→NI→Bool
 | d,a,⟨ns,ks,ss⟩=>!(decide (0<d) && (decide (0<ss.length) && !fF a)) && qB d a ns ks
def qB:Nat→ByteArray→List ByteArray→List NI→Bool
 | d,a,x::r,k::q=>zB (d+1) (if 0<d then (a++(⟨#[47]⟩:ByteArray))++x else x) k && qB d a r q
 | _,_,_,_=>true
end
theorem XC (d:Nat) (a:ByteArray) (n:NI):zB d a n=(!(decide (0<d) && (decide (0<n.f2.length) && !fF a)) && qB d a n.f0 n.f1):=by
 cases n;rw [zB]
theorem acD (s:ByteArray):(s.toList==([]:List UInt8))=(dl s).isEmpty:=by
 rw [Bool.eq_iff_iff,beq_iff_eq]
 exact rU s
def JU (x:ByteArray) (k:NI):Bool:=decide ((gU (dl x)).length≤1) && jY (dl x) (decide (k.f1.length=0))
mutual
def okI:List ByteArray→NI→Bool
 | p,⟨ns,ks,ss⟩=>decide (ns.length=ks.length) && (decide (p.length≤6) && (uj ss && ((decide (ss.length=0) || fF (dH p)) && mP p ns none ks)))
def mP:List ByteArray→List ByteArray→Option ByteArray→List NI→Bool
 | p,x::r,y,k::q=>nU y x && (JU x k && (!(decide (k.f1.length=0) && decide (k.f2.length=0)) && (okI (p++[x]) k && mP p r (some x) q)))
 | _,_,_,_=>true
end
theorem XD (p:List ByteArray) (n:NI):okI p n=(decide (n.f0.length=n.f1.length) && (decide (p.length≤6) && (uj n.f2 && ((decide (n.f2.length=0) || fF (dH p)) && mP p n.f0 none n.f1)))):=by
 cases n;rw [okI]
theorem P7 (d:Nat):∀(ns:List ByteArray) (pr:Option ByteArray) (ks:List NI),ns.length=ks.length→mY d ns pr ks=true→∀k∈ks,okS (d+1) k=true
 | [],pr,[],_,_,k,hk=>by cases hk
 | [],pr,_::_,e,_,k,hk=>by simp at e
 | _::_,pr,[],e,_,k,hk=>by cases hk
 | x::r,pr,y::q,e,h,k,hk=>by
   rw [mY] at h
   simp only [Bool.and_eq_true] at h
   obtain⟨_,_,_,_,h1,h2⟩:=h
   rcases List.mem_cons.1 hk with rfl | hk
   ·exact h1
   ·exact P7 d r (some x) q (by simpa using e) h2 k hk
theorem uD {d:Nat} {n:NI} (h:okS d n=true):n.f0.length=n.f1.length∧(0<n.f0.length→d≠6)∧uj n.f2=true∧mY d n.f0 none n.f1=true:=by
 rw [Jp] at h
 simp only [Bool.and_eq_true,decide_eq_true_eq,Bool.not_eq_true',Bool.and_eq_false_iff,decide_eq_false_iff_not] at h
 obtain⟨h1,h2,h3,h4⟩:=h
 exact⟨h1,fun q=>by rcases h2 with h2 | h2<;>omega,h3,h4⟩
theorem uq {p:List ByteArray} {n:NI}:okI p n=true↔n.f0.length=n.f1.length∧p.length≤6∧uj n.f2=true∧(n.f2.length=0∨fF (dH p)=true)∧mP p n.f0 none n.f1=true:=by
 rw [XD]
 simp only [Bool.and_eq_true,decide_eq_true_eq,Bool.or_eq_true]
theorem MO (a b:Nat):((!(decide (a=0) && decide (b=0)))=true)↔(a≠0∨b≠0):=by
 by_cases h:a=0<;>by_cases k:b=0<;>simp [h,k]
theorem XE (c:Bool) (a:Nat):((!(c && !decide (a=0)))=true)↔(c=false∨a=0):=by
 cases c<;>by_cases h:a=0<;>simp [h]
theorem uo {p:List ByteArray} {x:ByteArray} {r:List ByteArray} {y:Option ByteArray} {k:NI} {q:List NI}:mP p (x::r) y (k::q)=true↔nU y x=true∧JU x k=true∧(k.f1.length≠0∨k.f2.length≠0)∧okI (p++[x]) k=true∧mP p r (some x) q=true:=by
 rw [mP,Bool.and_eq_true,Bool.and_eq_true,Bool.and_eq_true,Bool.and_eq_true,MO]
theorem XF {d:Nat} {x:ByteArray} {r:List ByteArray} {y:Option ByteArray} {k:NI} {q:List NI}:mY d (x::r) y (k::q)=true↔l9 x=true∧nU y x=true∧(k.f0.length≠0∨k.f2.length≠0)∧(lT x=false∨k.f0.length=0)∧okS (d+1) k=true∧mY d r (some x) q=true:=by
 rw [mY,Bool.and_eq_true,Bool.and_eq_true,Bool.and_eq_true,Bool.and_eq_true,Bool.and_eq_true,MO,XE]
theorem acE {n:NI} (hn:Bd n):∀p:List ByteArray,okI p n=true→(n.f1.length≠0∨n.f2.length≠0)→∃ext,fF (dH (p++ext))=true:=by
 induction hn with
 | mk n h0 z0 h1 h2 z2 hk ih=>
   intro p h hne
   obtain⟨e1,e2,e3,e4,e5⟩:=uq.1 h
   by_cases c:n.f2.length=0
   ·have c1:n.f1.length≠0:=by omega
    cases hk0:n.f1 with
    | nil=>rw [hk0] at c1;simp at c1
    | cons k q=>
      cases hx0:n.f0 with
      | nil=>rw [hx0,hk0] at e1;simp at e1
      | cons x r=>
        rw [hx0,hk0] at e5
        obtain⟨_,_,f1,f2,_⟩:=uo.1 e5
        obtain⟨ext,he⟩:=ih k (by rw [hk0];exact List.mem_cons_self) (p++[x]) f2 f1
        exact⟨x::ext,by rw [List.append_assoc] at he;exact he⟩
   ·refine⟨[],?_⟩
    rw [List.append_nil]
    rcases e4 with e4 | e4
    ·exact absurd e4 c
    ·exact e4
theorem Zn (l:List UInt8):allL [l]=jY l true:=by
 rw [allL,allL,Bool.and_true]
 rfl
theorem UY (l:List UInt8):(gU l).length≤1↔(47:UInt8)∉l:=by
 constructor
 ·intro h
  obtain⟨a,r,e⟩:=sS l
  rw [e,List.length_cons] at h
  have:r=[]:=List.length_eq_zero_iff.1 (by omega)
  subst this
  have e2:=GX l
  rw [e,Lib.join_one] at e2
  rw [←e2]
  exact SY l a (by rw [e];exact List.mem_cons_self)
 ·intro h
  rw [GY l h]
  exact Nat.le_refl _
theorem XG {l:List UInt8} {b:Bool} (h:jY l b=true):jY l true=true:=by
 unfold jY at h⊢
 cases b
 ·simp only [Bool.and_false,Bool.or_false] at h
  rw [h,Bool.true_or]
 ·exact h
theorem filter_one {x:ByteArray} (h:(47:UInt8)∉dl x):fF x=(jY (dl x) true && fP x && !(dl x).isEmpty):=by
 unfold fF
 rw [GY _ h,Zn]
 simp
theorem S9 (x:ByteArray):lT x=true↔dl x=[35]:=by
 unfold lT
 rw [decide_eq_true_eq,Lib.toList_data]
theorem level_hash {b:Bool} (h:jY [35] b=true):b=true:=by
 cases b
 ·exact absurd h (by decide)
 ·rfl
theorem UZ {l:List UInt8} (h:l≠[35]) (a b:Bool):jY l a=jY l b:=by
 unfold jY
 have:(l==[35])=false:=beq_eq_false_iff_ne.2 h
 rw [this,Bool.false_and,Bool.false_and]
theorem MP {p:List ByteArray} {x:ByteArray} {k:NI} (hb:Bd k) (he:k.f0.length=k.f1.length) (ht:fP x=true):JU x k=true↔l9 x=true∧(lT x=false∨k.f0.length=0):=by
 unfold JU l9
 rw [Bool.and_eq_true,decide_eq_true_eq,UY]
 constructor
 ·rintro⟨h1,h2⟩
  refine⟨?_,?_⟩
  ·rw [filter_one h1,XG h2,ht]
   have:(dl x).contains 47=false:=by
    rw [Bool.eq_false_iff]
    intro m
    exact h1 (List.contains_iff_mem.1 m)
   rw [this]
   cases (dl x).isEmpty<;>rfl
  ·by_cases q:lT x=true
   ·right
    rw [(S9 x).1 q] at h2
    have:=level_hash h2
    rw [decide_eq_true_eq] at this
    omega
   ·exact .inl (Bool.eq_false_iff.2 q)
 ·rintro⟨h1,h2⟩
  rw [Bool.or_eq_true] at h1
  rcases h1 with h1 | h1
  ·rw [Bool.and_eq_true,Bool.not_eq_true'] at h1
   obtain⟨f1,f2⟩:=h1
   have n47:(47:UInt8)∉dl x:=fun m=>by
    rw [List.contains_iff_mem.2 m] at f2
    cases f2
   refine⟨n47,?_⟩
   rw [filter_one n47,Bool.and_eq_true,Bool.and_eq_true] at f1
   by_cases q:dl x=[35]
   ·rcases h2 with h2 | h2
    ·rw [(S9 x).2 q] at h2;cases h2
    ·rw [show decide (k.f1.length=0)=true from decide_eq_true (by omega)]
     exact f1.1.1
   ·rw [UZ q _ true]
    exact f1.1.1
  ·rw [List.isEmpty_iff] at h1
   rw [h1]
   refine⟨by simp,?_⟩
   rfl
theorem Q7 {x:ByteArray} (h:l9 x=true):fP x=true:=by
 unfold l9 at h
 rw [Bool.or_eq_true] at h
 rcases h with h | h
 ·rw [Bool.and_eq_true] at h
  have h:=h.1
  unfold fF at h
  rw [Bool.and_eq_true,Bool.and_eq_true,Bool.and_eq_true] at h
  exact h.1.1.2
 ·rw [List.isEmpty_iff] at h
  refine(AY x).2 ⟨by rw [h];simp,by rw [h];rfl,?_⟩
  have:(dl x).length=0:=by rw [h];rfl
  rw [jv] at this
  omega
theorem Q8 {s:ByteArray} (h:fF s=true):fP s=true:=by
 unfold fF at h
 rw [Bool.and_eq_true,Bool.and_eq_true,Bool.and_eq_true] at h
 exact h.1.1.2
theorem Cj (p:List ByteArray) (d:Nat) (hp:p.length=d) (x:ByteArray):(if 0<d then (dH p++(⟨#[47]⟩:ByteArray))++x else x)=dH (p++[x]):=by
 cases p with
 | nil=>
   rw [if_neg (by simp at hp;omega)]
   exact(XB x).symm
 | cons y t=>
   rw [if_pos (by simp at hp;omega),UW _ (by simp)]
theorem P8 (p:List ByteArray) (d:Nat) (hp:p.length=d) (hd:d<6):∀(ns:List ByteArray) (ks:List NI) (y:Option ByteArray),ns.length=ks.length→(∀k∈ks,Bd k)→
  (∀k∈ks,∀x:ByteArray,(okI (p++[x]) k=true↔okS (d+1) k=true∧zB (d+1) (dH (p++[x])) k=true))→
  (mP p ns y ks=true↔mY d ns y ks=true∧qB d (dH p) ns ks=true)
 | [],[],y,_,_,_=>by
   rw [mP,mY,qB]
   ·simp
   all_goals (intro x1 x2 x3 x4 e;cases e)
 | [],_::_,y,e,_,_=>by simp at e
 | _::_,[],y,e,_,_=>by simp at e
 | x::r,k::q,y,e,hb,ih=>by
   have ih2:=P8 p d hp hd r q (some x) (by simpa using e) (fun k hk=>hb k (List.mem_cons_of_mem _ hk)) (fun k hk=>ih k (List.mem_cons_of_mem _ hk))
   have hk:=hb k List.mem_cons_self
   have ihk:=ih k List.mem_cons_self x
   rw [uo,XF,qB,Bool.and_eq_true,Cj p d hp x,ih2]
   constructor
   ·rintro⟨a1,a2,a3,a4,a5,a6⟩
    obtain⟨b1,b2⟩:=ihk.1 a4
    obtain⟨e1,_,_,_⟩:=uD b1
    obtain⟨ext,he⟩:=acE hk (p++[x]) a4 a3
    have ht:fP x=true:=P6 _ (Q8 he) x (by simp)
    obtain⟨c1,c2⟩:=(MP (p:=p) hk e1 ht).1 a2
    exact⟨⟨c1,a1,by omega,c2,b1,a5⟩,b2,a6⟩
   ·rintro⟨⟨c1,a1,a3,c2,b1,a5⟩,b2,a6⟩
    obtain⟨e1,_,_,_⟩:=uD b1
    exact⟨a1,(MP (p:=p) hk e1 (Q7 c1)).2 ⟨c1,c2⟩,by omega,ihk.2 ⟨b1,b2⟩,a5,a6⟩
theorem XH {n:NI} (hn:Bd n):∀(p:List ByteArray) (d:Nat),p.length=d→d≤6→(d=0→n.f2.length=0)→(okI p n=true↔okS d n=true∧zB d (dH p) n=true):=by
 induction hn with
 | mk n h0 z0 h1 h2 z2 hk ih=>
   intro p d hp hd h00
   have ihk:d<6→∀k∈n.f1,∀x:ByteArray,(okI (p++[x]) k=true↔okS (d+1) k=true∧zB (d+1) (dH (p++[x])) k=true):=fun hd2 k hk2 x=>
    ih k hk2 (p++[x]) (d+1) (by simp only [List.length_append,List.length_cons,List.length_nil];omega) (by omega) (fun z=>by omega)
   have tx:zB d (dH p) n=true↔(n.f2.length=0∨fF (dH p)=true)∧qB d (dH p) n.f0 n.f1=true:=by
    rw [XC,Bool.and_eq_true]
    simp only [Bool.not_eq_true',Bool.and_eq_false_iff,decide_eq_false_iff_not,Bool.not_eq_false']
    constructor
    ·rintro⟨a,b⟩
     refine⟨?_,b⟩
     rcases a with a | a | a
     ·exact .inl (h00 (by omega))
     ·exact .inl (by omega)
     ·exact .inr a
    ·rintro⟨a,b⟩
     refine⟨?_,b⟩
     rcases a with a | a
     ·exact .inr (.inl (by omega))
     ·exact .inr (.inr a)
   rw [uq,tx]
   constructor
   ·rintro⟨e1,e2,e3,e4,e5⟩
    by_cases c:n.f0.length=0
    ·have c0:n.f0=[]:=List.length_eq_zero_iff.1 c
     have c1:n.f1=[]:=List.length_eq_zero_iff.1 (by omega)
     refine⟨?_,e4,?_⟩
     ·rw [Jp,e3,c0,c1]
      rw [mY]
      ·simp
      ·intro x1 x2 x3 x4 e;cases e
     ·rw [c0,c1,qB]
      intro x1 x2 x3 x4 e;cases e
    ·have hd2:d<6:=by
      cases hx0:n.f0 with
      | nil=>rw [hx0] at c;simp at c
      | cons x r=>
        cases hk0:n.f1 with
        | nil=>rw [hx0,hk0] at e1;simp at e1
        | cons k q=>
          rw [hx0,hk0] at e5
          obtain⟨_,_,_,f2,_⟩:=uo.1 e5
          obtain⟨_,g2,_⟩:=uq.1 f2
          simp only [List.length_append,List.length_cons,List.length_nil] at g2
          omega
     obtain⟨a,b⟩:=(P8 p d hp hd2 n.f0 n.f1 none e1 hk (ihk hd2)).1 e5
     refine⟨?_,e4,b⟩
     rw [Jp,e3,a,decide_eq_true e1,show decide (d=6)=false from decide_eq_false (by omega),Bool.and_false]
     rfl
   ·rintro⟨h,e4,b⟩
    obtain⟨e1,e2,e3,a⟩:=uD h
    refine⟨e1,by omega,e3,e4,?_⟩
    by_cases c:n.f0.length=0
    ·have c0:n.f0=[]:=List.length_eq_zero_iff.1 c
     rw [c0,mP]
     intro x1 x2 x3 x4 e;cases e
    ·have hd2:d<6:=by have:=e2 (by omega);omega
     exact(P8 p d hp hd2 n.f0 n.f1 none e1 hk (ihk hd2)).2 ⟨a,b⟩
def jV (n:NI):Bool:=decide (n.f2.length=0) && okI [] n
mutual
def je:List ByteArray→NI→List EI
 | p,⟨ns,ks,ss⟩=>ss.map (fun s=>⟨dH p,s.f0,s.f1,s.f2⟩)++fJ p ns ks
def fJ:List ByteArray→List ByteArray→List NI→List EI
 | p,x::r,k::q=>je (p++[x]) k++fJ p r q
 | _,[],_=>[]
 | _,_::_,[]=>[]
end
theorem aav (p:List ByteArray) (n:NI):je p n=n.f2.map (fun s=>⟨dH p,s.f0,s.f1,s.f2⟩)++fJ p n.f0 n.f1:=by cases n;rw [je]
mutual
theorem Tc:∀(p:List ByteArray) (n:NI),(je p n).length≤cnt n
 | p,⟨ns,ks,ss⟩=>by
   rw [je,cnt,List.length_append,List.length_map]
   have:=P9 p ns ks
   omega
theorem P9:∀(p:List ByteArray) (ns:List ByteArray) (ks:List NI),(fJ p ns ks).length≤uJ ks
 | p,x::r,k::q=>by
   rw [fJ,uJ,List.length_append]
   have:=Tc (p++[x]) k
   have:=P9 p r q
   omega
 | _,[],_=>by rw [fJ];exact Nat.zero_le _
 | _,_::_,[]=>by rw [fJ];exact Nat.zero_le _
end
theorem sZ (p:List ByteArray) (hp:p.length≤7) (hz:∀x∈p,x.size≤1048576):(dH p).size≤1073741824:=by
 have h3:=Zm 1048576 p hz
 have h4:p.length*(1048576+1)≤7*(1048576+1):=Nat.mul_le_mul_right _ hp
 omega
def lu (n:NI):List EI:=if jV n=true then je [] n else []
theorem Yy (n:NI):(lu n).length≤cnt n:=by
 unfold lu
 split
 ·exact Tc [] n
 ·exact Nat.zero_le _
end Go.Proofs.YtcnfgfomholheaaGreatDoor.Q
end
section
namespace Go.Proofs.YtcnfgfomholheaaGreatDoor.Q
open Go.RowKit Go.Proofs.YtcnfgfomholheaaGreatDoor.Z
set_option linter.unusedVariables false
theorem Zo {r:List (T.Tb 9)} {j:Nat} {l:List V} (h:(r.map (T.enc 9))[j]? =some l):∃s:ByteArray,r[j]? =some s∧l=[.sc (.string s)]:=by
 rw [List.getElem?_map] at h
 obtain⟨s,hs,rfl⟩:=Option.map_eq_some_iff.1 h
 exact⟨s,hs,rfl⟩
theorem aa8 {r:List (T.Tb 9)} {j:Nat} {s:ByteArray} (h:r[j]? =some s):(r.map (T.enc 9))[j]? =some [.sc (.string s)]:=by
 rw [List.getElem?_map,h];rfl
open Go.Proofs.YtcnfgfomholheaaGreatDoorW.PrintWords in
theorem acF {w:World} {base:Nat} {v:Value} {r:List (T.Tb 9)} (h:Kd.R Kd.string 9 w base (fun _=>True) v r):Ow T.sz w (fun k=>base≤k∧k<w.heap.size) (.sl 9 (r.map (T.enc 9))) v:=by
 obtain⟨_,inner,ho,hr⟩:=h
 have hone:∀(j:Nat) (s:ByteArray),r[j]? =some s→inner[j]? =some (.string s):=fun j s hj=>by
  have h2:(inner.drop (j*1)).take 1=[.string s]:=hr.2 j s hj
  have h3:((inner.drop (j*1)).take 1)[0]? =some (.string s):=by rw [h2];rfl
  rw [List.getElem?_take_of_lt (by decide),List.getElem?_drop] at h3
  simpa using h3
 have hlen:(r.map (T.enc 9)).length=r.length:=List.length_map ..
 have hget:∀{j:Nat} {l:List V},(r.map (T.enc 9))[j]? =some l→∃s:ByteArray,r[j]? =some s∧l=[.sc (.string s)]:=fun h=>Zo h
 generalize r.map (T.enc 9)=xs at hlen hget
 have ho2:w.ownsRow 0 9 (T.sz 9) v xs.length inner:=by
  rw [hlen]
  exact HY ho (Nat.zero_le _)
 refine EG ho2 (fun j _=>inner.getD j undef) (fun _ _ _=>False) (fun j l hj=>?_) (fun j l q x hj hq=>?_) (fun _ _ _ h=>h.elim) (fun _ _ _ _ _ h=>h.elim) (fun g hg=>⟨own_base ho g hg,fQ ho g hg⟩)
 ·obtain⟨s,_,rfl⟩:=hget hj
  rfl
 ·obtain⟨s,hs,rfl⟩:=hget hj
  have hq0:q=0:=by have:=(List.getElem?_eq_some_iff.1 hq).1;simp at this;exact this
  subst hq0
  have hx:x= .sc (.string s):=(Option.some.inj hq).symm
  subst hx
  have h1:=hone j s hs
  have e:j*T.sz 9+0=j:=Nat.mul_one j
  rw [e]
  refine⟨by rw [List.getD_eq_getElem?_getD,h1];rfl,?_⟩
  rw [List.getD_eq_getElem?_getD,h1]
  exact .sc _ _ rfl
open Go.Proofs.YtcnfgfomholheaaGreatDoorW.PrintWords in
theorem adu {w:World} {S:Nat→Prop} {v:Value} {l:List (T.Tb 9)} (h:Rd T.sz w S (.sl 9 (l.map (T.enc 9))) v) (hl:l.length≤9223372036854775807):∃A c,v= .slice A l.length c∧l.length≤c∧Kd.C Kd.string w A l.length l:=by
 have hlen:(l.map (T.enc 9)).length=l.length:=List.length_map ..
 have hat:∀{j:Nat} {s:ByteArray},l[j]? =some s→(l.map (T.enc 9))[j]? =some [.sc (.string s)]:=fun h=>aa8 h
 generalize l.map (T.enc 9)=xs at hlen hat h
 obtain⟨A,c,e,hc⟩:=h.slice
 rw [hlen] at e hc
 subst e
 refine⟨A,c,rfl,hc,rfl,hl,fun h0=>?_⟩
 have hj0:=hat (List.getElem?_eq_getElem h0)
 obtain⟨ad,c',e,_⟩:=h.elem hj0
 have eA:A=some ad:=(Value.slice.inj e).1
 subst eA
 refine⟨ad,rfl,fun j s hj=>⟨[.string s],rfl,rfl,fun i u hi=>?_⟩⟩
 have hi0:i=0:=by have:=(List.getElem?_eq_some_iff.1 hi).1;simp at this;exact this
 subst hi0
 have hu:u= .string s:=(Option.some.inj hi).symm
 subst hu
 obtain⟨ad',c'',e',_,_,_,_,hx⟩:=h.elem (hat hj)
 have:ad'=ad:=(Option.some.inj (Value.slice.inj e').1).symm
 subst this
 obtain⟨u,h1,h2⟩:=hx 0 (.sc (.string s)) rfl
 have e3:u= .string s:=by cases h2;rfl
 rw [e3] at h1
 exact h1
theorem vY {f:FuncId} {fn:Func} {c:Code} (hf:Tryz.prog.funcs[f]? =some fn) (hname:(fn.name== "runtime.NumGoroutine")=false) (hb:fn.body=some c) {s:ByteArray} {b:Bool}
  (h:∀w,Go.Proofs.YtcnfgfomholheaaGreatDoor.X.Tabs w→Calls Tryz.prog f #[.string s] w fun e w'=>e= .returned (.bool b)∧Below w.heap.size w w'):aH T Tryz.prog f [.c (.sc (.string s))] (.c (.sc (.bool b))):=by
 refine⟨⟨fn,hf,hname,by rw [hb];rfl⟩,fun w vs S hj ha=>?_⟩
 obtain⟨v,r,rfl,⟨rfl,_⟩,rfl⟩:=ha
 refine(h w hj).mono ?_
 rintro e w' ⟨rfl,hb⟩
 exact⟨.bool b,fun _ _=>False,rfl,hb,fun _ _ h=>h.elim,fun _ _ _ h=>h.elim,[.bool b],rfl,[],rfl,rfl,rfl⟩
theorem Jq {f:FuncId} {fn:Func} {c:Code} (hf:Tryz.prog.funcs[f]? =some fn) (hname:(fn.name== "runtime.NumGoroutine")=false) (hb:fn.body=some c) {s t:Value} {b:Bool}
  (h:∀w,Go.Proofs.YtcnfgfomholheaaGreatDoor.X.Tabs w→Calls Tryz.prog f #[s,t] w fun e w'=>e= .returned (.bool b)∧Below w.heap.size w w'):aH T Tryz.prog f [.c (.sc s), .c (.sc t)] (.c (.sc (.bool b))):=by
 refine⟨⟨fn,hf,hname,by rw [hb];rfl⟩,fun w vs S hj ha=>?_⟩
 obtain⟨v,r,rfl,⟨rfl,_⟩,v2,r2,rfl,⟨rfl,_⟩,rfl⟩:=ha
 refine(h w hj).mono ?_
 rintro e w' ⟨rfl,hb⟩
 exact⟨.bool b,fun _ _=>False,rfl,hb,fun _ _ h=>h.elim,fun _ _ _ h=>h.elim,[.bool b],rfl,[],rfl,rfl,rfl⟩
theorem acG {f:FuncId} {fn:Func} {c:Code} (hf:Tryz.prog.funcs[f]? =some fn) (hname:(fn.name== "runtime.NumGoroutine")=false) (hb:fn.body=some c) {s:ByteArray} {r:List (T.Tb 9)}
  (h:∀w,Go.Proofs.YtcnfgfomholheaaGreatDoor.X.Tabs w→Calls Tryz.prog f #[.string s] w fun e w'=>∃DY:Value,e= .returned (DY)∧Go.Proofs.YtcnfgfomholheaaGreatDoorW.PrintWords.Kd.R Go.Proofs.YtcnfgfomholheaaGreatDoorW.PrintWords.Kd.string 9 w' w.heap.size (fun _=>True) DY r∧Below w.heap.size w w'):aH T Tryz.prog f [.c (.sc (.string s))] (.c (.ow 9 r)):=by
 refine⟨⟨fn,hf,hname,by rw [hb];rfl⟩,fun w vs S hj ha=>?_⟩
 obtain⟨v,q,rfl,⟨rfl,_⟩,rfl⟩:=ha
 refine(h w hj).mono ?_
 rintro e w' ⟨v,rfl,hr,hb⟩
 exact⟨v,fun i k=>i=0∧w.heap.size≤k∧k<w'.heap.size,rfl,hb,fun i k hk=>hk.2,fun i j k h1 h2=>h1.1.trans h2.1.symm,[v],rfl,v,[],rfl,(acF hr).mono (fun k hk=>⟨rfl,hk⟩),rfl⟩
theorem U0 (s:ByteArray) (hs:s.size≤140737488351232):aH T Tryz.prog 147 [.c (.sc (.string s))] (.c (.sc (.bool (X.fP s)))):=
 vY Tryz.func147 (by kernel_rfl) rfl (fun w hT=>X.fG.calls s _ w hT (Pure.uN s hs))
theorem U2 (s:ByteArray):aH T Tryz.prog 177 [.c (.sc (.string s))] (.c (.sc (.bool (X.fP s)))):=by
 obtain⟨k,h⟩:=(Pure.uO s)
 exact vY Tryz.func177 (by kernel_rfl) rfl (fun w hT=>P.fH.calls _ s _ w (h k (Nat.le_refl _)))
theorem QG (s:ByteArray) (hs:s.size≤1073741824):aH T Tryz.prog 149 [.c (.sc (.string s))] (.c (.sc (.bool (Pure.nG s)))):=
 vY Tryz.func149 (by kernel_rfl) rfl (fun w hT=>P.iy.calls s _ w hT (Pure.zC s hs))
theorem QH (s:ByteArray) (hs:s.size≤1073741824):aH T Tryz.prog 181 [.c (.sc (.string s))] (.c (.sc (.bool (Pure.nG s)))):=by
 obtain⟨k,h⟩:=(Pure.zD s hs)
 exact vY Tryz.func181 (by kernel_rfl) rfl (fun w hT=>P.iC.calls _ s _ w (h k (Nat.le_refl _)))
theorem Qa (s:ByteArray) (hs:s.size≤1073741824):aH T Tryz.prog 77 [.c (.sc (.string s))] (.c (.sc (.bool (Pure.fF s)))):=by
 obtain⟨k,h⟩:=(Pure.yj s hs)
 exact vY Tryz.func77 (by kernel_rfl) rfl (fun w hT=>P.bY.calls _ s _ w hT (h k (Nat.le_refl _)))
theorem DZ (s:ByteArray) (hs:s.size≤1073741824):aH T Tryz.prog 106 [.c (.sc (.string s))] (.c (.sc (.bool (Pure.fF s)))):=by
 obtain⟨k,h⟩:=(Pure.yt s hs)
 exact vY Tryz.func106 (by kernel_rfl) rfl (fun w hT=>P.aU.calls _ s _ w (h k (Nat.le_refl _)))
theorem V9 (f t:ByteArray) (hf:f.size≤1073741824) (ht:t.size≤1073741824):aH T Tryz.prog 80 [.c (.sc (.string f)), .c (.sc (.string t))] (.c (.sc (.bool (Pure.lX f t)))):=by
 obtain⟨k,h⟩:=(Pure.Qb f t hf ht)
 exact Jq Tryz.func80 (by kernel_rfl) rfl (fun w hT=>P.bJ.calls _ f t _ w hT (h k (Nat.le_refl _)))
theorem Wh (f t:ByteArray) (hf:f.size≤1073741824) (ht:t.size≤1073741824):aH T Tryz.prog 113 [.c (.sc (.string f)), .c (.sc (.string t))] (.c (.sc (.bool (Pure.lX f t)))):=by
 obtain⟨k,h⟩:=(Pure.Qc f t hf ht)
 exact Jq Tryz.func113 (by kernel_rfl) rfl (fun w hT=>P.bK.calls _ f t _ w (h k (Nat.le_refl _)))
abbrev Td (s:ByteArray):List ByteArray:=X.pieces s Pure.stroke
theorem Jr (s:ByteArray) (hs:s.size≤1073741824):aH T Tryz.prog 101 [.c (.sc (.string s))] (.c (.ow 9 (Td s))):=
 acG Tryz.func101 (by kernel_rfl) rfl (fun w hT=>P.dG.calls s _ w hT (Pure.nI s hs))
theorem FD (s:ByteArray) (b:Bool) (hs:s.size≤1073741824):aH T Tryz.prog 146 [.c (.sc (.string s)), .c (.sc (.bool b))] (.c (.sc (.bool (Pure.jY (Pure.dl s) b)))):=
 Jq Tryz.func146 (by kernel_rfl) rfl (fun w hT=>P.jT.calls s b _ w (Pure.Js s b hs))
theorem Zp (s:ByteArray) (hs:s.size≤1073741824):Go.Proofs.YtcnfgfomholheaaGreatDoorW.PrintWords.Ev (fun k=>P.aN.f k s 47) ((Pure.dl s).contains 47):=by
 unfold P.aN.f
 exact Pure.NJ s 47 hs s.size 0 (by omega)
theorem XI (s:ByteArray) (hs:s.size≤1073741824):aH T Tryz.prog 176 [.c (.sc (.string s)), .c (.sc (.int .u8 47))] (.c (.sc (.bool ((Pure.dl s).contains 47)))):=by
 obtain⟨k,h⟩:=(Zp s hs)
 exact Jq Tryz.func176 (by kernel_rfl) rfl (fun w hT=>(P.aN.calls _ s _ _ w (h k (Nat.le_refl _))).mono (fun e w' h=>⟨h.1,h.2.below⟩))
theorem Q9 (p:List ByteArray) (h:p.length≤1048576) (hs:(dH p).size≤1073741824):P.uF.f p=some (dH p):=by
 unfold P.uF.f X.strings_Join.f
 have e:dH p=⟨(Lib.join (p.map (fun x=>x.data.toList)) [47]).toArray⟩:=rfl
 have hs2:(Lib.join (p.map (fun x=>x.data.toList)) [47]).length≤1073741824:=by rw [e] at hs;simpa [ByteArray.size] using hs
 rw [if_pos ⟨by omega,Nat.le_trans hs2 (by decide)⟩]
 rfl
theorem Oc (p:List ByteArray) (hp:p.length≤1048576) (hs:(dH p).size≤1073741824):aH T Tryz.prog 189 [.c (.sl 9 p)] (.c (.sc (.string (dH p)))):=by
 refine⟨⟨_,Tryz.func189,(by kernel_rfl),rfl⟩,fun w vs S hj ha=>?_⟩
 obtain⟨v,r,rfl,hv,rfl⟩:=ha
 obtain⟨A,c,rfl,hc,hC⟩:=adu hv (Nat.le_trans hp (by decide))
 refine(P.uF.calls A c p _ w hC hc (Q9 p hp hs)).mono ?_
 rintro e w' ⟨rfl,hb⟩
 exact⟨.string (dH p),fun _ _=>False,rfl,hb,fun _ _ h=>h.elim,fun _ _ _ h=>h.elim,[.string (dH p)],rfl,[],rfl,rfl,rfl⟩
end Go.Proofs.YtcnfgfomholheaaGreatDoor.Q
end
section
namespace Go.Proofs.YtcnfgfomholheaaGreatDoor.Q
open Go.RowKit Go.Proofs.YtcnfgfomholheaaGreatDoor.Z Go.Proofs.YtcnfgfomholheaaGreatDoor.Pure
set_option linter.unusedVariables false
set_option linter.unusedSimpArgs false
set_option maxRecDepth 100000
set_option maxHeartbeats 4000000
abbrev zS:SS:=z44
abbrev zN:SN:=z31
abbrev acH (s:ByteArray):Slot T:= .c (.sc (.string s))
theorem zF (s:ByteArray):(s.toList==(⟨#[]⟩:ByteArray).toList)=(dl s).isEmpty:=by
 rw [show(⟨#[]⟩:ByteArray).toList=[] by simp [ByteArray.toList_eq]];exact acD s
theorem U3 (s:ByteArray) (hs:s.size≤1073741824):aH T Tryz.prog 127 [.c (.sc (.string s))] (.c (.sc (.bool (nameP s)))):=by
 refine aI hT Tryz.func127 (by kernel_rfl) rfl rfl (fun A=>?_)
 conv=>whnf
 refine aG.mk _ (U0 s (Nat.le_trans hs (by decide))) ?_
 conv=>whnf
 refine Split.mk (fun c=>?_) (fun c=>?_)
 ·conv=>whnf
  exact aC.mk ⟨rfl,rfl⟩ ⟨rfl,rfl⟩ ⟨bv (by rw [zF];unfold nameP;rw [c];rfl),trivial⟩
 ·conv=>whnf
  exact aC.mk ⟨rfl,rfl⟩ ⟨rfl,rfl⟩ ⟨bv (by unfold nameP;rw [c];rfl),trivial⟩
theorem zU (a lo hi:Int):aH T Tryz.prog 161 [.c (.sc (.int .i64 a)), .c (.sc (.int .i64 lo)), .c (.sc (.int .i64 hi))] (.c (.sc (.bool (decide (lo≤a) && decide (a≤hi))))):=by
 refine aI hT Tryz.func161 (by kernel_rfl) rfl rfl (fun A=>?_)
 conv=>whnf
 refine Split.mk (fun c=>?_) (fun c=>?_)
 ·conv=>whnf
  exact aC.mk ⟨rfl,rfl⟩ ⟨rfl,rfl⟩ ⟨bv (by rw [show decide (lo≤a)=true from c];rfl),trivial⟩
 ·conv=>whnf
  exact aC.mk ⟨rfl,rfl⟩ ⟨rfl,rfl⟩ ⟨bv (by rw [show decide (lo≤a)=false from c];rfl),trivial⟩
theorem Ic (a lo hi:Int):aH T Tryz.prog 159 [.c (.sc (.int .i64 a)), .c (.sc (.int .i64 lo)), .c (.sc (.int .i64 hi))] (.c (.sc (.bool (decide (lo≤a) && decide (a≤hi))))):=by
 refine aI hT Tryz.func159 (by kernel_rfl) rfl rfl (fun A=>?_)
 conv=>whnf
 refine Split.mk (fun c=>?_) (fun c=>?_)
 ·conv=>whnf
  exact aC.mk ⟨rfl,rfl⟩ ⟨rfl,rfl⟩ ⟨bv (by rw [show decide (lo≤a)=true from c];rfl),trivial⟩
 ·conv=>whnf
  exact aC.mk ⟨rfl,rfl⟩ ⟨rfl,rfl⟩ ⟨bv (by rw [show decide (lo≤a)=false from c];rfl),trivial⟩
theorem LJ (a:Int):aH T Tryz.prog 128 [.c (.sc (.int .i64 a))] (.c (.sc (.bool (decide (0≤a) && decide (a≤2))))):=by
 refine aI hT Tryz.func128 (by kernel_rfl) rfl rfl (fun A=>?_)
 conv=>whnf
 refine aG.mk _ (zU a 0 2) ?_
 conv=>whnf
 exact aC.mk ⟨rfl,rfl⟩ ⟨rfl,rfl⟩ ⟨rfl,trivial⟩
theorem XJ (x:SS) (hs:x.f0.size≤1073741824):aH T Tryz.prog 111 [.ag (T.cells eS x)] (.c (.sc (.bool (mX x)))):=by
 refine aI hT Tryz.func111 (by kernel_rfl) rfl rfl (fun A=>?_)
 conv=>whnf
 refine aG.mk _ (U3 x.f0 hs) ?_
 conv=>whnf
 refine Split.mk (fun c=>?_) (fun c=>?_)
 ·conv=>whnf
  refine aG.mk _ (LJ x.f1) ?_
  conv=>whnf
  refine Split.mk (fun d=>?_) (fun d=>?_)
  ·conv=>whnf
   exact aC.mk ⟨rfl,rfl⟩ ⟨rfl,rfl⟩ ⟨bv (by unfold mX;rw [c,d];rfl),trivial⟩
  ·conv=>whnf
   exact aC.mk ⟨rfl,rfl⟩ ⟨rfl,rfl⟩ ⟨bv (by unfold mX;rw [c,d];rfl),trivial⟩
 ·conv=>whnf
  refine Split.mk (fun d=>kW d) (fun d=>?_)
  conv=>whnf
  exact aC.mk ⟨rfl,rfl⟩ ⟨rfl,rfl⟩ ⟨bv (by unfold mX;rw [c];rfl),trivial⟩
theorem XK (x:SS):aH T Tryz.prog 109 [.ag (T.cells eS x)] (.c (.sc (.bool (mX x)))):=by
 refine aI hT Tryz.func109 (by kernel_rfl) rfl rfl (fun A=>?_)
 conv=>whnf
 refine aG.mk _ (U2 x.f0) ?_
 conv=>whnf
 refine Split.mk (fun c=>?_) (fun c=>?_)
 ·conv=>whnf
  refine Split.mk (fun d=>?_) (fun d=>?_)
  ·conv=>whnf
   refine aG.mk _ (Ic x.f1 0 2) ?_
   conv=>whnf
   refine Split.mk (fun e=>?_) (fun e=>?_)
   ·conv=>whnf
    exact aC.mk ⟨rfl,rfl⟩ ⟨rfl,rfl⟩ ⟨bv (by rw [zF] at d;unfold mX nameP;rw [c,d,e];rfl),trivial⟩
   ·conv=>whnf
    exact aC.mk ⟨rfl,rfl⟩ ⟨rfl,rfl⟩ ⟨bv (by rw [zF] at d;unfold mX nameP;rw [c,d,e];rfl),trivial⟩
  ·conv=>whnf
   refine Split.mk (fun e=>kW e) (fun e=>?_)
   conv=>whnf
   exact aC.mk ⟨rfl,rfl⟩ ⟨rfl,rfl⟩ ⟨bv (by rw [zF] at d;unfold mX nameP;rw [c,d];rfl),trivial⟩
 ·conv=>whnf
  repeat (refine Split.mk (fun e=>kW e) (fun e=>?_);conv=>whnf)
  exact aC.mk ⟨rfl,rfl⟩ ⟨rfl,rfl⟩ ⟨bv (by unfold mX nameP;rw [c];rfl),trivial⟩
theorem XL (x:ByteArray) (hs:x.size≤1073741824):aH T Tryz.prog 192 [.c (.sc (.string x))] (.c (.sc (.bool (l9 x)))):=by
 refine aI hT Tryz.func192 (by kernel_rfl) rfl rfl (fun A=>?_)
 conv=>whnf
 refine aG.mk _ (DZ x hs) ?_
 conv=>whnf
 refine Split.mk (fun c=>?_) (fun c=>?_)
 ·conv=>whnf
  refine aG.mk _ (XI x hs) ?_
  conv=>whnf
  refine Split.mk (fun d=>?_) (fun d=>?_)
  ·conv=>whnf
   exact aC.mk ⟨rfl,rfl⟩ ⟨rfl,rfl⟩ ⟨bv (by unfold l9;rw [c,d];rfl),trivial⟩
  ·conv=>whnf
   exact aC.mk ⟨rfl,rfl⟩ ⟨rfl,rfl⟩ ⟨bv (by rw [zF];unfold l9;rw [c,d];rfl),trivial⟩
 ·conv=>whnf
  refine Split.mk (fun d=>kW d) (fun d=>?_)
  conv=>whnf
  exact aC.mk ⟨rfl,rfl⟩ ⟨rfl,rfl⟩ ⟨bv (by rw [zF];unfold l9;rw [c];rfl),trivial⟩
def jy (l:List ByteArray) (i:Nat):Option ByteArray:=if i=0 then none else l[i - 1]?
theorem yJ {l:List ByteArray} {i:Nat} (h:i<l.length):jy l (i+1)=some (l.getD i ByteArray.empty):=by
 unfold jy;rw [if_neg (by omega)];simp [h]
def nm (l:List SS):List ByteArray:=l.map (fun s=>s.f0)
theorem Jt {l:List SS} {i:Nat} (h:i<l.length):yh (jy (nm l) i) (l.drop i)=(mX (l.getD i zS) && (nU (jy (nm l) i) (l.getD i zS).f0 && yh (jy (nm l) (i+1)) (l.drop (i+1)))):=by
 have e:l.getD i zS=l[i]:=by simp [h]
 rw [List.drop_eq_getElem_cons h,yh,e,yJ (by simpa [nm] using h)]
 simp [nm,h]
theorem MQ {l:List SS} {p:Option ByteArray}:yh p (l.drop l.length)=true:=by rw [List.drop_length];cases p<;>rfl
theorem Ju {l:List ByteArray} {x:ByteArray}:nU (jy l 0) x=true:=rfl
theorem Tf {l:List SS} {i:Nat} (h0:0<i) (h:i<l.length) {x:ByteArray}:nU (jy (nm l) i) x=Op.bytesLess (l.getD (i - 1) zS).f0.toList x.toList:=by
 unfold jy
 rw [if_neg (by omega)]
 have h1:i - 1<l.length:=by omega
 simp [nm,h1,nU]
theorem Ei {i:Nat} (h0:0<i) (hi:i≤140737488351232):wrap64 ((i:Int) - 1)=((i - 1:Nat):Int):=by simp only [wrap64];omega
theorem lQ {i:Nat} (c:decide ((i:Int)>0)=true):0<i:=by simp at c;omega
theorem lS {i:Nat} (c:decide ((i:Int)>0)=false):i=0:=by simp at c;omega
theorem U4 (l:List SS) (hl:l.length≤2097152) (hs:∀x∈l,x.f0.size≤1073741824):aH T Tryz.prog 190 [.c (.sl eS l)] (.c (.sc (.bool (uj l)))):=by
 refine aI hT Tryz.func190 (by kernel_rfl) rfl rfl (fun A=>?_)
 generalize hR:uj l=R
 conv=>whnf
 refine dU.mk {i:Nat // i≤l.length∧yh (jy (nm l) i) (l.drop i)=R} (fun p=>(0,[(7,i64 p.1),(6,i64 l.length),(5,im eS l),(0,im eS l)],[])) (fun p=>l.length - p.1) ⟨0,Nat.zero_le _,hR⟩ (ay [] rfl rfl rfl ⟨⟨rfl,rfl⟩,⟨rfl,rfl⟩,⟨rfl,rfl⟩,⟨rfl,rfl⟩,trivial⟩ trivial) ?_
 rintro⟨i,hi,hR⟩
 conv=>whnf
 refine Split.mk (fun c=>?_) (fun c=>?_)
 ·have hk2:i<l.length:=gX c
  clear c
  rw [Jt hk2] at hR
  conv=>whnf
  refine Need.mk (idx hk2) ?_
  conv=>whnf
  refine aG.mk _ (XJ _ (hs _ (getD_mem hk2))) ?_
  conv=>whnf
  refine Split.mk (fun c=>?_) (fun c=>?_)
  ·have c1:mX (l.getD i zS)=false:=dA c
   conv=>whnf
   refine bZ.mk ⟨by kernel_rfl,by kernel_rfl⟩ ?_
   conv=>whnf
   refine Split.mk (fun _=>?_) (fun e=>jO e)
   conv=>whnf
   exact aC.mk ⟨rfl,rfl⟩ ⟨rfl,rfl⟩ ⟨bv (by rw [←hR,c1];rfl),trivial⟩
  ·have c1:mX (l.getD i zS)=true:=dM c
   rw [c1,Bool.true_and] at hR
   clear c
   conv=>whnf
   refine Split.mk (fun c=>?_) (fun c=>?_)
   ·have h0:0<i:=lQ c
    rw [Tf h0 hk2] at hR
    have hpr:=Ei h0 (by omega)
    have hpt:(wrap64 ((i:Int) - 1)).toNat=i - 1:=by rw [hpr];rfl
    clear c
    conv=>whnf
    refine Need.mk (by rw [hpr];exact idx (show i - 1<l.length by omega)) ?_
    conv=>whnf
    refine bZ.mk ⟨by kernel_rfl,by kernel_rfl⟩ ?_
    conv=>whnf
    refine Split.mk (fun c=>?_) (fun c=>?_)
    ·have c2:Op.bytesLess (l.getD (i - 1) zS).f0.toList (l.getD i zS).f0.toList=false:=(congrArg (fun j=>Op.bytesLess (l.getD j zS).f0.toList (l.getD i zS).f0.toList) hpt.symm).trans (dA c)
     conv=>whnf
     exact aC.mk ⟨rfl,rfl⟩ ⟨rfl,rfl⟩ ⟨bv (by rw [←hR,c2];rfl),trivial⟩
    ·have c2:Op.bytesLess (l.getD (i - 1) zS).f0.toList (l.getD i zS).f0.toList=true:=(congrArg (fun j=>Op.bytesLess (l.getD j zS).f0.toList (l.getD i zS).f0.toList) hpt.symm).trans (dM c)
     rw [c2,Bool.true_and] at hR
     conv=>whnf
     exact bM.mk ⟨⟨i+1,hk2,hR⟩,Nat.sub_lt_sub_left hk2 (Nat.lt_succ_self i),ay [] rfl rfl rfl ⟨⟨rfl,congrArg i64 (eu hk2 (by omega))⟩,⟨rfl,rfl⟩,⟨rfl,rfl⟩,⟨rfl,rfl⟩,trivial⟩ trivial⟩
   ·have h0:i=0:=lS c
    subst h0
    rw [Ju,Bool.true_and] at hR
    clear c
    conv=>whnf
    refine bZ.mk ⟨by kernel_rfl,by kernel_rfl⟩ ?_
    conv=>whnf
    refine Split.mk (fun e=>kW e) (fun _=>?_)
    conv=>whnf
    exact bM.mk ⟨⟨0+1,hk2,hR⟩,Nat.sub_lt_sub_left hk2 (Nat.lt_succ_self 0),ay [] rfl rfl rfl ⟨⟨rfl,congrArg i64 (eu hk2 (by omega))⟩,⟨rfl,rfl⟩,⟨rfl,rfl⟩,⟨rfl,rfl⟩,trivial⟩ trivial⟩
 ·have hk2:i=l.length:=Nat.le_antisymm hi (gY c)
  subst hk2
  conv=>whnf
  exact aC.mk ⟨rfl,rfl⟩ ⟨rfl,rfl⟩ ⟨bv (hR.symm.trans MQ),trivial⟩
end Go.Proofs.YtcnfgfomholheaaGreatDoor.Q
end
section
namespace Go.Proofs.YtcnfgfomholheaaGreatDoor.Q
open Go.RowKit Go.Proofs.YtcnfgfomholheaaGreatDoor.Z Go.Proofs.YtcnfgfomholheaaGreatDoor.Pure
set_option linter.unusedVariables false
set_option linter.unusedSimpArgs false
set_option maxRecDepth 100000
set_option maxHeartbeats 4000000
abbrev Cb (n:SN):dB T:= .bx eN ((T.cells eN n).map (toCell none))
theorem yK {a:Nat} (c:((a:Int)==0)=true):a=0:=by simp at c;omega
theorem yL {a:Nat} (c:((a:Int)==0)=false):a≠0:=by simp at c;omega
section
variable {a b:Nat} {x:ByteArray} {r R q:Bool}
theorem eF (h:q=true) (hR:(q && r)=R):r=R:=by rw [h,Bool.true_and] at hR;exact hR
theorem fK (h:q=false) (hR:(q && r)=R):R=false:=by rw [h,Bool.false_and] at hR;exact hR.symm
theorem no1 {c:Bool} (h:a≠0) (hR:(!(decide (a=0) && c) && r)=R):r=R:=eF (by simp [h]) hR
theorem no2 (h:a=0) (h2:b≠0) (hR:(!(decide (a=0) && decide (b=0)) && r)=R):r=R:=eF (by simp [h,h2]) hR
theorem no3 (h:a=0) (h2:b=0) (hR:(!(decide (a=0) && decide (b=0)) && r)=R):R=false:=fK (by simp [h,h2]) hR
theorem ha1 (h:lT x=true) (h2:a≠0) (hR:(!(lT x && !decide (a=0)) && r)=R):R=false:=fK (by simp [h,h2]) hR
theorem ha2 (h2:a=0) (hR:(!(lT x && !decide (a=0)) && r)=R):r=R:=eF (by simp [h2]) hR
theorem ha3 (h:lT x=false) (hR:(!(lT x && !decide (a=0)) && r)=R):r=R:=eF (by simp [h]) hR
end
theorem Jv {x:ByteArray} (c:(x.toList==(⟨#[35]⟩:ByteArray).toList)=true):lT x=true:=by
 rw [show(⟨#[35]⟩:ByteArray).toList=[35] by simp [ByteArray.toList_eq]] at c
 unfold lT;simpa using c
theorem Jw {x:ByteArray} (c:(x.toList==(⟨#[35]⟩:ByteArray).toList)=false):lT x=false:=by
 rw [show(⟨#[35]⟩:ByteArray).toList=[35] by simp [ByteArray.toList_eq]] at c
 unfold lT;simpa using c
theorem XM {l:List ByteArray} {i:Nat} (h0:0<i) (h:i<l.length) {x:ByteArray}:nU (jy l i) x=Op.bytesLess (l.getD (i - 1) ByteArray.empty).toList x.toList:=by
 unfold jy
 rw [if_neg (by omega)]
 have h1:i - 1<l.length:=by omega
 simp [h1,nU]
theorem XO {d i:Nat} {ns:List ByteArray} {ks:List SN} (h:i<ns.length) (h2:i<ks.length):mY d (ns.drop i) (jy ns i) (ks.drop i)=(l9 (ns.getD i ByteArray.empty) && (nU (jy ns i) (ns.getD i ByteArray.empty) && (!(decide ((ks.getD i zN).f0.length=0) && decide ((ks.getD i zN).f2.length=0)) && (!(lT (ns.getD i ByteArray.empty) && !decide ((ks.getD i zN).f0.length=0)) && (okS (d+1) (ks.getD i zN) && mY d (ns.drop (i+1)) (jy ns (i+1)) (ks.drop (i+1))))))):=by
 have e:ns.getD i ByteArray.empty=ns[i]:=by simp [h]
 have e2:ks.getD i zN=ks[i]:=by simp [h2]
 rw [List.drop_eq_getElem_cons h,List.drop_eq_getElem_cons h2,mY,e,e2,yJ h,e]
theorem Zq {d:Nat} {ns:List ByteArray} {ks:List SN} {p:Option ByteArray}:mY d (ns.drop ns.length) p ks=true:=by
 rw [List.drop_length];cases ks<;>rw [mY]<;>(intro x1 x2 x3 x4 e;cases e)
theorem d1_ {d:Nat} (h:d≤1000):((d+1:Nat):Int)=wrap64 ((d:Int)+1):=by simp only [wrap64];omega
theorem XP (n:SN) (d:Nat) (hn:Bd n) (hd:d≤6) (ih:d<6→∀k∈n.f1,aH T Tryz.prog 144 [.ag (T.cells eN k), .c (.sc (.int .i64 ((d+1:Nat):Int)))] (.c (.sc (.bool (okS (d+1) k))))):aH T Tryz.prog 144 [.ag (T.cells eN n), .c (.sc (.int .i64 (d:Int)))] (.c (.sc (.bool (okS d n)))):=by
 refine mQ hT Tryz.func144 (by kernel_rfl) rfl rfl (fun A=>?_)
 have hR:=Jp d n
 generalize okS d n=R at hR⊢
 refine Vc.seq 0 hT ?_
 conv=>whnf
 refine Vc.cut (α:=Unit) 2 (fun _=>n.f0.length=n.f1.length∧(n.f0.length=0∨d<6)) (fun _=>[(2, .c (.px 0 0)),(1,i64 d)]) (fun _=>[(0,Cb n)]) hT ?_ (fun _ ⟨hl,h6⟩=>?_)
 ·conv=>whnf
  refine Split.mk (fun c=>?_) (fun c=>?_)
  ·have h1:¬n.f0.length=n.f1.length:=wG c
   rw [decide_eq_false h1,Bool.false_and] at hR
   conv=>whnf
   refine Split.mk (fun _=>?_) (fun e=>jO e)
   conv=>whnf
   exact aC.mk ⟨rfl,rfl⟩ ⟨rfl,rfl⟩ ⟨bv (hR),trivial⟩
  ·have h1:n.f0.length=n.f1.length:=wH c
   clear c
   conv=>whnf
   refine Split.mk (fun c=>?_) (fun c=>?_)
   ·have h2:0<n.f0.length:=lQ c
    clear c
    conv=>whnf
    refine Split.mk (fun c=>?_) (fun c=>?_)
    ·have h3:d=6:=by have:=aeb c;omega
     rw [decide_eq_true h1,decide_eq_true h2,decide_eq_true h3] at hR
     conv=>whnf
     exact aC.mk ⟨rfl,rfl⟩ ⟨rfl,rfl⟩ ⟨bv (hR),trivial⟩
    ·have h3:¬d=6:=by have:=aec c;omega
     conv=>whnf
     exact ku.mk ⟨(),⟨h1, .inr (by omega)⟩,ay [(0,0)] rfl rfl rfl ⟨⟨rfl,rfl⟩,⟨rfl,rfl⟩,trivial⟩ ⟨⟨rfl,rfl⟩,trivial⟩⟩
   ·have h2:n.f0.length=0:=lS c
    clear c
    conv=>whnf
    refine Split.mk (fun e=>kW e) (fun _=>?_)
    conv=>whnf
    exact ku.mk ⟨(),⟨h1, .inl h2⟩,ay [(0,0)] rfl rfl rfl ⟨⟨rfl,rfl⟩,⟨rfl,rfl⟩,trivial⟩ ⟨⟨rfl,rfl⟩,trivial⟩⟩
 refine Vc.of 1 hT ?_
 conv=>whnf
 have hb:(!(decide (0<n.f0.length) && decide (d=6)))=true:=by
  rcases h6 with h | h
  ·rw [decide_eq_false (by omega)];rfl
  ·rw [decide_eq_false (p:=d=6) (by omega),Bool.and_false];rfl
 rw [decide_eq_true hl,Bool.true_and,hb,Bool.true_and] at hR
 replace hR:=hR.symm
 clear hb
 conv=>whnf
 refine dU.mk {i:Nat // i≤n.f2.length∧(yh (jy (nm n.f2) i) (n.f2.drop i) && mY d n.f0 none n.f1)=R} (fun p=>(1,[(5,i64 p.1),(2, .c (.px 0 0)),(1,i64 d)],[(0,Cb n)])) (fun p=>n.f2.length - p.1) ⟨0,Nat.zero_le _,hR⟩ (ay [(0,0)] rfl rfl rfl ⟨⟨rfl,rfl⟩,⟨rfl,rfl⟩,⟨rfl,rfl⟩,trivial⟩ ⟨⟨rfl,rfl⟩,trivial⟩) ?_
 clear hR
 rintro⟨i,hi,hR⟩
 conv=>whnf
 refine Split.mk (fun c=>?_) (fun c=>?_)
 ·have hk2:i<n.f2.length:=gX c
  clear c
  rw [Jt hk2,Bool.and_assoc,Bool.and_assoc] at hR
  conv=>whnf
  refine Need.mk (idx hk2) ?_
  conv=>whnf
  refine aG.mk _ (XK _) ?_
  conv=>whnf
  refine Split.mk (fun c=>?_) (fun c=>?_)
  ·have c1:mX (n.f2.getD i zS)=false:=dA c
   clear c
   conv=>whnf
   refine bZ.mk ⟨by kernel_rfl,by kernel_rfl⟩ ?_
   conv=>whnf
   refine Split.mk (fun _=>?_) (fun e=>jO e)
   conv=>whnf
   exact aC.mk ⟨rfl,rfl⟩ ⟨rfl,rfl⟩ ⟨bv (fK c1 hR),trivial⟩
  ·have c1:mX (n.f2.getD i zS)=true:=dM c
   clear c
   replace hR:=eF c1 hR
   conv=>whnf
   refine Split.mk (fun c=>?_) (fun c=>?_)
   ·have h0:0<i:=lQ c
    clear c
    have hl2:=hn.l2
    rw [Tf h0 hk2] at hR
    have hpr:=Ei h0 (by omega)
    have hpt:(wrap64 ((i:Int) - 1)).toNat=i - 1:=by rw [hpr];rfl
    conv=>whnf
    refine Need.mk (by rw [hpr];exact idx (show i - 1<n.f2.length by omega)) ?_
    conv=>whnf
    refine Need.mk (idx hk2) ?_
    conv=>whnf
    refine bZ.mk ⟨by kernel_rfl,by kernel_rfl⟩ ?_
    conv=>whnf
    refine Split.mk (fun c=>?_) (fun c=>?_)
    ·have c2:Op.bytesLess (n.f2.getD (i - 1) zS).f0.toList (n.f2.getD i zS).f0.toList=false:=(congrArg (fun j=>Op.bytesLess (n.f2.getD j zS).f0.toList (n.f2.getD i zS).f0.toList) hpt.symm).trans (dA c)
     conv=>whnf
     exact aC.mk ⟨rfl,rfl⟩ ⟨rfl,rfl⟩ ⟨bv (fK c2 hR),trivial⟩
    ·have c2:Op.bytesLess (n.f2.getD (i - 1) zS).f0.toList (n.f2.getD i zS).f0.toList=true:=(congrArg (fun j=>Op.bytesLess (n.f2.getD j zS).f0.toList (n.f2.getD i zS).f0.toList) hpt.symm).trans (dM c)
     replace hR:=eF c2 hR
     conv=>whnf
     exact bM.mk ⟨⟨i+1,hk2,hR⟩,Nat.sub_lt_sub_left hk2 (Nat.lt_succ_self i),ay [(0,0)] rfl rfl rfl ⟨⟨rfl,congrArg i64 (eu hk2 (Nat.le_trans hn.l2 (by decide)))⟩,⟨rfl,rfl⟩,⟨rfl,rfl⟩,trivial⟩ ⟨⟨rfl,rfl⟩,trivial⟩⟩
   ·have h0:i=0:=lS c
    clear c
    subst h0
    rw [Ju,Bool.true_and] at hR
    conv=>whnf
    refine bZ.mk ⟨by kernel_rfl,by kernel_rfl⟩ ?_
    conv=>whnf
    refine Split.mk (fun e=>kW e) (fun _=>?_)
    conv=>whnf
    exact bM.mk ⟨⟨0+1,hk2,hR⟩,Nat.sub_lt_sub_left hk2 (Nat.lt_succ_self 0),ay [(0,0)] rfl rfl rfl ⟨⟨rfl,congrArg i64 (eu hk2 (Nat.le_trans hn.l2 (by decide)))⟩,⟨rfl,rfl⟩,⟨rfl,rfl⟩,trivial⟩ ⟨⟨rfl,rfl⟩,trivial⟩⟩
 ·have hk2:i=n.f2.length:=Nat.le_antisymm hi (gY c)
  subst hk2
  rw [MQ,Bool.true_and] at hR
  clear c
  conv=>whnf
  refine dU.mk {i:Nat // i≤n.f0.length∧mY d (n.f0.drop i) (jy n.f0 i) (n.f1.drop i)=R} (fun p=>(1,[(6,i64 p.1),(2, .c (.px 0 0)),(1,i64 d)],[(0,Cb n)])) (fun p=>n.f0.length - p.1) ⟨0,Nat.zero_le _,hR⟩ (ay [(0,0)] rfl rfl rfl ⟨⟨rfl,rfl⟩,⟨rfl,rfl⟩,⟨rfl,rfl⟩,trivial⟩ ⟨⟨rfl,rfl⟩,trivial⟩) ?_
  clear hR
  rintro⟨i,hi,hR⟩
  conv=>whnf
  refine Split.mk (fun c=>?_) (fun c=>?_)
  ·have hk2:i<n.f0.length:=gX c
   clear c
   have hk3:i<n.f1.length:=hl▸hk2
   have hd6:d<6:=by omega
   have ihk:=ih hd6 _ (getD_mem (d:=zN) hk3)
   rw [d1_ (by omega)] at ihk
   rw [XO hk2 hk3] at hR
   have hx:=hn.z0 _ (getD_mem (d:=ByteArray.empty) hk2)
   conv=>whnf
   refine Need.mk (idx hk3) ?_
   conv=>whnf
   refine Need.mk (idx hk2) ?_
   conv=>whnf
   refine aG.mk _ (XL _ (Nat.le_trans hx (by decide))) ?_
   conv=>whnf
   refine Split.mk (fun c=>?_) (fun c=>?_)
   ·have c1:l9 (n.f0.getD i ByteArray.empty)=false:=dA c
    clear c
    conv=>whnf
    refine Split.mk (fun _=>?_) (fun e=>jO e)
    conv=>whnf
    refine Split.mk (fun _=>?_) (fun e=>jO e)
    conv=>whnf
    refine Split.mk (fun _=>?_) (fun e=>jO e)
    conv=>whnf
    refine bZ.mk ⟨by kernel_rfl,by kernel_rfl⟩ ?_
    conv=>whnf
    refine Split.mk (fun _=>?_) (fun e=>jO e)
    conv=>whnf
    exact aC.mk ⟨rfl,rfl⟩ ⟨rfl,rfl⟩ ⟨bv (fK c1 hR),trivial⟩
   ·have c1:l9 (n.f0.getD i ByteArray.empty)=true:=dM c
    clear c
    replace hR:=eF c1 hR
    conv=>whnf
    refine Split.mk (fun c=>?_) (fun c=>?_)
    ·have h0:0<i:=lQ c
     clear c
     have hl0:=hn.l0
     rw [XM h0 hk2] at hR
     have hpr:=Ei h0 (by omega)
     have hpt:(wrap64 ((i:Int) - 1)).toNat=i - 1:=by rw [hpr];rfl
     conv=>whnf
     refine Need.mk (by rw [hpr];exact idx (show i - 1<n.f0.length by omega)) ?_
     conv=>whnf
     refine Need.mk (idx hk2) ?_
     conv=>whnf
     refine Split.mk (fun c=>?_) (fun c=>?_)
     ·have c2:Op.bytesLess (n.f0.getD (i - 1) ByteArray.empty).toList (n.f0.getD i ByteArray.empty).toList=false:=(congrArg (fun j=>Op.bytesLess (n.f0.getD j ByteArray.empty).toList (n.f0.getD i ByteArray.empty).toList) hpt.symm).trans (dA c)
      clear c
      conv=>whnf
      refine Split.mk (fun _=>?_) (fun e=>jO e)
      conv=>whnf
      refine Split.mk (fun _=>?_) (fun e=>jO e)
      conv=>whnf
      refine bZ.mk ⟨by kernel_rfl,by kernel_rfl⟩ ?_
      conv=>whnf
      refine Split.mk (fun _=>?_) (fun e=>jO e)
      conv=>whnf
      exact aC.mk ⟨rfl,rfl⟩ ⟨rfl,rfl⟩ ⟨bv (fK c2 hR),trivial⟩
     ·have c2:Op.bytesLess (n.f0.getD (i - 1) ByteArray.empty).toList (n.f0.getD i ByteArray.empty).toList=true:=(congrArg (fun j=>Op.bytesLess (n.f0.getD j ByteArray.empty).toList (n.f0.getD i ByteArray.empty).toList) hpt.symm).trans (dM c)
      clear c
      replace hR:=eF c2 hR
      conv=>whnf
      refine Split.mk (fun c=>?_) (fun c=>?_)
      ·have c3:(n.f1.getD i zN).f0.length=0:=yK c
       clear c
       conv=>whnf
       refine Split.mk (fun c=>?_) (fun c=>?_)
       ·have c5:(n.f1.getD i zN).f2.length=0:=yK c
        clear c
        conv=>whnf
        refine Split.mk (fun _=>?_) (fun e=>jO e)
        conv=>whnf
        refine bZ.mk ⟨by kernel_rfl,by kernel_rfl⟩ ?_
        conv=>whnf
        refine Split.mk (fun _=>?_) (fun e=>jO e)
        conv=>whnf
        exact aC.mk ⟨rfl,rfl⟩ ⟨rfl,rfl⟩ ⟨bv (no3 c3 c5 hR),trivial⟩
       ·have c5:(n.f1.getD i zN).f2.length≠0:=yL c
        clear c
        replace hR:=no2 c3 c5 hR
        conv=>whnf
        refine Need.mk (idx hk2) ?_
        conv=>whnf
        refine Split.mk (fun c=>?_) (fun c=>?_)
        ·have c3:=Jv c
         clear c
         conv=>whnf
         refine Split.mk (fun c=>?_) (fun c=>?_)
         ·have c5:(n.f1.getD i zN).f0.length≠0:=Nat.ne_of_gt (lQ c)
          clear c
          conv=>whnf
          refine bZ.mk ⟨by kernel_rfl,by kernel_rfl⟩ ?_
          conv=>whnf
          refine Split.mk (fun _=>?_) (fun e=>jO e)
          conv=>whnf
          exact aC.mk ⟨rfl,rfl⟩ ⟨rfl,rfl⟩ ⟨bv (ha1 c3 c5 hR),trivial⟩
         ·have c5:(n.f1.getD i zN).f0.length=0:=lS c
          clear c
          replace hR:=ha2 c5 hR
          conv=>whnf
          refine aG.mk _ ihk ?_
          conv=>whnf
          refine bZ.mk ⟨by kernel_rfl,by kernel_rfl⟩ ?_
          conv=>whnf
          refine Split.mk (fun c=>?_) (fun c=>?_)
          ·have c4:okS (d+1) (n.f1.getD i zN)=false:=dA c
           conv=>whnf
           exact aC.mk ⟨rfl,rfl⟩ ⟨rfl,rfl⟩ ⟨bv (fK c4 hR),trivial⟩
          ·have c4:okS (d+1) (n.f1.getD i zN)=true:=dM c
           replace hR:=eF c4 hR
           conv=>whnf
           exact bM.mk ⟨⟨i+1,hk2,hR⟩,Nat.sub_lt_sub_left hk2 (Nat.lt_succ_self i),ay [(0,0)] rfl rfl rfl ⟨⟨rfl,congrArg i64 (eu hk2 (Nat.le_trans hn.l0 (by decide)))⟩,⟨rfl,rfl⟩,⟨rfl,rfl⟩,trivial⟩ ⟨⟨rfl,rfl⟩,trivial⟩⟩
        ·have c3:=Jw c
         clear c
         replace hR:=ha3 c3 hR
         conv=>whnf
         refine Split.mk (fun e=>kW e) (fun _=>?_)
         conv=>whnf
         refine aG.mk _ ihk ?_
         conv=>whnf
         refine bZ.mk ⟨by kernel_rfl,by kernel_rfl⟩ ?_
         conv=>whnf
         refine Split.mk (fun c=>?_) (fun c=>?_)
         ·have c4:okS (d+1) (n.f1.getD i zN)=false:=dA c
          conv=>whnf
          exact aC.mk ⟨rfl,rfl⟩ ⟨rfl,rfl⟩ ⟨bv (fK c4 hR),trivial⟩
         ·have c4:okS (d+1) (n.f1.getD i zN)=true:=dM c
          replace hR:=eF c4 hR
          conv=>whnf
          exact bM.mk ⟨⟨i+1,hk2,hR⟩,Nat.sub_lt_sub_left hk2 (Nat.lt_succ_self i),ay [(0,0)] rfl rfl rfl ⟨⟨rfl,congrArg i64 (eu hk2 (Nat.le_trans hn.l0 (by decide)))⟩,⟨rfl,rfl⟩,⟨rfl,rfl⟩,trivial⟩ ⟨⟨rfl,rfl⟩,trivial⟩⟩
      ·have c3:(n.f1.getD i zN).f0.length≠0:=yL c
       clear c
       replace hR:=no1 c3 hR
       conv=>whnf
       refine Split.mk (fun e=>kW e) (fun _=>?_)
       conv=>whnf
       refine Need.mk (idx hk2) ?_
       conv=>whnf
       refine Split.mk (fun c=>?_) (fun c=>?_)
       ·have c3:=Jv c
        clear c
        conv=>whnf
        refine Split.mk (fun c=>?_) (fun c=>?_)
        ·have c5:(n.f1.getD i zN).f0.length≠0:=Nat.ne_of_gt (lQ c)
         clear c
         conv=>whnf
         refine bZ.mk ⟨by kernel_rfl,by kernel_rfl⟩ ?_
         conv=>whnf
         refine Split.mk (fun _=>?_) (fun e=>jO e)
         conv=>whnf
         exact aC.mk ⟨rfl,rfl⟩ ⟨rfl,rfl⟩ ⟨bv (ha1 c3 c5 hR),trivial⟩
        ·have c5:(n.f1.getD i zN).f0.length=0:=lS c
         clear c
         replace hR:=ha2 c5 hR
         conv=>whnf
         refine aG.mk _ ihk ?_
         conv=>whnf
         refine bZ.mk ⟨by kernel_rfl,by kernel_rfl⟩ ?_
         conv=>whnf
         refine Split.mk (fun c=>?_) (fun c=>?_)
         ·have c4:okS (d+1) (n.f1.getD i zN)=false:=dA c
          conv=>whnf
          exact aC.mk ⟨rfl,rfl⟩ ⟨rfl,rfl⟩ ⟨bv (fK c4 hR),trivial⟩
         ·have c4:okS (d+1) (n.f1.getD i zN)=true:=dM c
          replace hR:=eF c4 hR
          conv=>whnf
          exact bM.mk ⟨⟨i+1,hk2,hR⟩,Nat.sub_lt_sub_left hk2 (Nat.lt_succ_self i),ay [(0,0)] rfl rfl rfl ⟨⟨rfl,congrArg i64 (eu hk2 (Nat.le_trans hn.l0 (by decide)))⟩,⟨rfl,rfl⟩,⟨rfl,rfl⟩,trivial⟩ ⟨⟨rfl,rfl⟩,trivial⟩⟩
       ·have c3:=Jw c
        clear c
        replace hR:=ha3 c3 hR
        conv=>whnf
        refine Split.mk (fun e=>kW e) (fun _=>?_)
        conv=>whnf
        refine aG.mk _ ihk ?_
        conv=>whnf
        refine bZ.mk ⟨by kernel_rfl,by kernel_rfl⟩ ?_
        conv=>whnf
        refine Split.mk (fun c=>?_) (fun c=>?_)
        ·have c4:okS (d+1) (n.f1.getD i zN)=false:=dA c
         conv=>whnf
         exact aC.mk ⟨rfl,rfl⟩ ⟨rfl,rfl⟩ ⟨bv (fK c4 hR),trivial⟩
        ·have c4:okS (d+1) (n.f1.getD i zN)=true:=dM c
         replace hR:=eF c4 hR
         conv=>whnf
         exact bM.mk ⟨⟨i+1,hk2,hR⟩,Nat.sub_lt_sub_left hk2 (Nat.lt_succ_self i),ay [(0,0)] rfl rfl rfl ⟨⟨rfl,congrArg i64 (eu hk2 (Nat.le_trans hn.l0 (by decide)))⟩,⟨rfl,rfl⟩,⟨rfl,rfl⟩,trivial⟩ ⟨⟨rfl,rfl⟩,trivial⟩⟩
    ·have h0:i=0:=lS c
     clear c
     subst h0
     rw [Ju,Bool.true_and] at hR
     conv=>whnf
     refine Split.mk (fun e=>kW e) (fun _=>?_)
     conv=>whnf
     refine Split.mk (fun c=>?_) (fun c=>?_)
     ·have c3:(n.f1.getD 0 zN).f0.length=0:=yK c
      clear c
      conv=>whnf
      refine Split.mk (fun c=>?_) (fun c=>?_)
      ·have c5:(n.f1.getD 0 zN).f2.length=0:=yK c
       clear c
       conv=>whnf
       refine Split.mk (fun _=>?_) (fun e=>jO e)
       conv=>whnf
       refine bZ.mk ⟨by kernel_rfl,by kernel_rfl⟩ ?_
       conv=>whnf
       refine Split.mk (fun _=>?_) (fun e=>jO e)
       conv=>whnf
       exact aC.mk ⟨rfl,rfl⟩ ⟨rfl,rfl⟩ ⟨bv (no3 c3 c5 hR),trivial⟩
      ·have c5:(n.f1.getD 0 zN).f2.length≠0:=yL c
       clear c
       replace hR:=no2 c3 c5 hR
       conv=>whnf
       refine Need.mk (idx hk2) ?_
       conv=>whnf
       refine Split.mk (fun c=>?_) (fun c=>?_)
       ·have c3:=Jv c
        clear c
        conv=>whnf
        refine Split.mk (fun c=>?_) (fun c=>?_)
        ·have c5:(n.f1.getD 0 zN).f0.length≠0:=Nat.ne_of_gt (lQ c)
         clear c
         conv=>whnf
         refine bZ.mk ⟨by kernel_rfl,by kernel_rfl⟩ ?_
         conv=>whnf
         refine Split.mk (fun _=>?_) (fun e=>jO e)
         conv=>whnf
         exact aC.mk ⟨rfl,rfl⟩ ⟨rfl,rfl⟩ ⟨bv (ha1 c3 c5 hR),trivial⟩
        ·have c5:(n.f1.getD 0 zN).f0.length=0:=lS c
         clear c
         replace hR:=ha2 c5 hR
         conv=>whnf
         refine aG.mk _ ihk ?_
         conv=>whnf
         refine bZ.mk ⟨by kernel_rfl,by kernel_rfl⟩ ?_
         conv=>whnf
         refine Split.mk (fun c=>?_) (fun c=>?_)
         ·have c4:okS (d+1) (n.f1.getD 0 zN)=false:=dA c
          conv=>whnf
          exact aC.mk ⟨rfl,rfl⟩ ⟨rfl,rfl⟩ ⟨bv (fK c4 hR),trivial⟩
         ·have c4:okS (d+1) (n.f1.getD 0 zN)=true:=dM c
          replace hR:=eF c4 hR
          conv=>whnf
          exact bM.mk ⟨⟨0+1,hk2,hR⟩,Nat.sub_lt_sub_left hk2 (Nat.lt_succ_self 0),ay [(0,0)] rfl rfl rfl ⟨⟨rfl,congrArg i64 (eu hk2 (Nat.le_trans hn.l0 (by decide)))⟩,⟨rfl,rfl⟩,⟨rfl,rfl⟩,trivial⟩ ⟨⟨rfl,rfl⟩,trivial⟩⟩
       ·have c3:=Jw c
        clear c
        replace hR:=ha3 c3 hR
        conv=>whnf
        refine Split.mk (fun e=>kW e) (fun _=>?_)
        conv=>whnf
        refine aG.mk _ ihk ?_
        conv=>whnf
        refine bZ.mk ⟨by kernel_rfl,by kernel_rfl⟩ ?_
        conv=>whnf
        refine Split.mk (fun c=>?_) (fun c=>?_)
        ·have c4:okS (d+1) (n.f1.getD 0 zN)=false:=dA c
         conv=>whnf
         exact aC.mk ⟨rfl,rfl⟩ ⟨rfl,rfl⟩ ⟨bv (fK c4 hR),trivial⟩
        ·have c4:okS (d+1) (n.f1.getD 0 zN)=true:=dM c
         replace hR:=eF c4 hR
         conv=>whnf
         exact bM.mk ⟨⟨0+1,hk2,hR⟩,Nat.sub_lt_sub_left hk2 (Nat.lt_succ_self 0),ay [(0,0)] rfl rfl rfl ⟨⟨rfl,congrArg i64 (eu hk2 (Nat.le_trans hn.l0 (by decide)))⟩,⟨rfl,rfl⟩,⟨rfl,rfl⟩,trivial⟩ ⟨⟨rfl,rfl⟩,trivial⟩⟩
     ·have c3:(n.f1.getD 0 zN).f0.length≠0:=yL c
      clear c
      replace hR:=no1 c3 hR
      conv=>whnf
      refine Split.mk (fun e=>kW e) (fun _=>?_)
      conv=>whnf
      refine Need.mk (idx hk2) ?_
      conv=>whnf
      refine Split.mk (fun c=>?_) (fun c=>?_)
      ·have c3:=Jv c
       clear c
       conv=>whnf
       refine Split.mk (fun c=>?_) (fun c=>?_)
       ·have c5:(n.f1.getD 0 zN).f0.length≠0:=Nat.ne_of_gt (lQ c)
        clear c
        conv=>whnf
        refine bZ.mk ⟨by kernel_rfl,by kernel_rfl⟩ ?_
        conv=>whnf
        refine Split.mk (fun _=>?_) (fun e=>jO e)
        conv=>whnf
        exact aC.mk ⟨rfl,rfl⟩ ⟨rfl,rfl⟩ ⟨bv (ha1 c3 c5 hR),trivial⟩
       ·have c5:(n.f1.getD 0 zN).f0.length=0:=lS c
        clear c
        replace hR:=ha2 c5 hR
        conv=>whnf
        refine aG.mk _ ihk ?_
        conv=>whnf
        refine bZ.mk ⟨by kernel_rfl,by kernel_rfl⟩ ?_
        conv=>whnf
        refine Split.mk (fun c=>?_) (fun c=>?_)
        ·have c4:okS (d+1) (n.f1.getD 0 zN)=false:=dA c
         conv=>whnf
         exact aC.mk ⟨rfl,rfl⟩ ⟨rfl,rfl⟩ ⟨bv (fK c4 hR),trivial⟩
        ·have c4:okS (d+1) (n.f1.getD 0 zN)=true:=dM c
         replace hR:=eF c4 hR
         conv=>whnf
         exact bM.mk ⟨⟨0+1,hk2,hR⟩,Nat.sub_lt_sub_left hk2 (Nat.lt_succ_self 0),ay [(0,0)] rfl rfl rfl ⟨⟨rfl,congrArg i64 (eu hk2 (Nat.le_trans hn.l0 (by decide)))⟩,⟨rfl,rfl⟩,⟨rfl,rfl⟩,trivial⟩ ⟨⟨rfl,rfl⟩,trivial⟩⟩
      ·have c3:=Jw c
       clear c
       replace hR:=ha3 c3 hR
       conv=>whnf
       refine Split.mk (fun e=>kW e) (fun _=>?_)
       conv=>whnf
       refine aG.mk _ ihk ?_
       conv=>whnf
       refine bZ.mk ⟨by kernel_rfl,by kernel_rfl⟩ ?_
       conv=>whnf
       refine Split.mk (fun c=>?_) (fun c=>?_)
       ·have c4:okS (d+1) (n.f1.getD 0 zN)=false:=dA c
        conv=>whnf
        exact aC.mk ⟨rfl,rfl⟩ ⟨rfl,rfl⟩ ⟨bv (fK c4 hR),trivial⟩
       ·have c4:okS (d+1) (n.f1.getD 0 zN)=true:=dM c
        replace hR:=eF c4 hR
        conv=>whnf
        exact bM.mk ⟨⟨0+1,hk2,hR⟩,Nat.sub_lt_sub_left hk2 (Nat.lt_succ_self 0),ay [(0,0)] rfl rfl rfl ⟨⟨rfl,congrArg i64 (eu hk2 (Nat.le_trans hn.l0 (by decide)))⟩,⟨rfl,rfl⟩,⟨rfl,rfl⟩,trivial⟩ ⟨⟨rfl,rfl⟩,trivial⟩⟩
  ·have hk2:i=n.f0.length:=Nat.le_antisymm hi (gY c)
   subst hk2
   conv=>whnf
   exact aC.mk ⟨rfl,rfl⟩ ⟨rfl,rfl⟩ ⟨bv (hR.symm.trans Zq),trivial⟩
theorem XQ:∀(n:SN),Bd n→∀d:Nat,d≤6→aH T Tryz.prog 144 [.ag (T.cells eN n), .c (.sc (.int .i64 (d:Int)))] (.c (.sc (.bool (okS d n)))):=fun n hn d hd=>
 XP n d hn hd (fun h k hk=>XQ k (hn.kid k hk) (d+1) h)
termination_by n=>SizeOf.sizeOf n
decreasing_by exact qX hk
end Go.Proofs.YtcnfgfomholheaaGreatDoor.Q
end
section
namespace Go.Proofs.YtcnfgfomholheaaGreatDoor.Q
open Go.RowKit Go.Proofs.YtcnfgfomholheaaGreatDoor.Z Go.Proofs.YtcnfgfomholheaaGreatDoor.Pure
set_option linter.unusedVariables false
set_option linter.unusedSimpArgs false
set_option maxRecDepth 100000
set_option maxHeartbeats 4000000
theorem XR {d i:Nat} {a:ByteArray} {ns:List ByteArray} {ks:List SN} (h:i<ns.length) (h2:i<ks.length):qB d a (ns.drop i) (ks.drop i)=(zB (d+1) (if 0<d then (a++(⟨#[47]⟩:ByteArray))++ns.getD i ByteArray.empty else ns.getD i ByteArray.empty) (ks.getD i zN) && qB d a (ns.drop (i+1)) (ks.drop (i+1))):=by
 have e:ns.getD i ByteArray.empty=ns[i]:=by simp [h]
 have e2:ks.getD i zN=ks[i]:=by simp [h2]
 rw [List.drop_eq_getElem_cons h,List.drop_eq_getElem_cons h2,qB,e,e2]
theorem Zr {d:Nat} {a:ByteArray} {ns:List ByteArray} {ks:List SN}:qB d a (ns.drop ns.length) ks=true:=by
 rw [List.drop_length];cases ks<;>rw [qB]<;>(intro x1 x2 x3 x4 e;cases e)
theorem acI {d i:Nat} {n:SN} (h:okS d n=true) (hi:i<n.f1.length):okS (d+1) (n.f1.getD i zN)=true:=by
 obtain⟨e1,e2,e3,e4⟩:=uD h
 exact P7 d n.f0 none n.f1 e1 e4 _ (getD_mem hi)
theorem Qd (n:SN) (d:Nat) (a:ByteArray) (hn:Bd n) (hd:d≤6) (ha:a.size≤d*1048577) (hok:okS d n=true) (ih:∀k∈n.f1,okS (d+1) k=true→d<6→∀b:ByteArray,b.size≤(d+1)*1048577→aH T Tryz.prog 145 [.ag (T.cells eN k), .c (.sc (.string b)), .c (.sc (.int .i64 ((d+1:Nat):Int)))] (.c (.sc (.bool (zB (d+1) b k))))):aH T Tryz.prog 145 [.ag (T.cells eN n), .c (.sc (.string a)), .c (.sc (.int .i64 (d:Int)))] (.c (.sc (.bool (zB d a n)))):=by
 refine mQ hT Tryz.func145 (by kernel_rfl) rfl rfl (fun A=>?_)
 have hR:=XC d a n
 generalize zB d a n=R at hR⊢
 replace hR:=hR.symm
 obtain⟨hl,h6,_,_⟩:=uD hok
 refine Vc.seq 0 hT ?_
 conv=>whnf
 refine Vc.cut (α:=Unit) 2 (fun _=>qB d a n.f0 n.f1=R) (fun _=>[(3, .c (.px 0 0)),(1,acH a),(2,i64 d)]) (fun _=>[(0,Cb n)]) hT ?_ (fun _ hR=>?_)
 ·conv=>whnf
  refine Split.mk (fun c=>?_) (fun c=>?_)
  ·have h1:0<d:=lQ c
   clear c
   rw [decide_eq_true h1,Bool.true_and] at hR
   conv=>whnf
   refine Split.mk (fun c=>?_) (fun c=>?_)
   ·have h2:0<n.f2.length:=lQ c
    clear c
    rw [decide_eq_true h2,Bool.true_and,Bool.not_not] at hR
    conv=>whnf
    refine aG.mk _ (DZ a (by omega)) ?_
    conv=>whnf
    refine Split.mk (fun c=>?_) (fun c=>?_)
    ·have c1:fF a=false:=dA c
     clear c
     conv=>whnf
     exact aC.mk ⟨rfl,rfl⟩ ⟨rfl,rfl⟩ ⟨bv (fK c1 hR),trivial⟩
    ·have c1:fF a=true:=dM c
     clear c
     conv=>whnf
     exact ku.mk ⟨(),eF c1 hR,ay [(0,0)] rfl rfl rfl ⟨⟨rfl,rfl⟩,⟨rfl,rfl⟩,⟨rfl,rfl⟩,trivial⟩ ⟨⟨rfl,rfl⟩,trivial⟩⟩
   ·have h2:n.f2.length=0:=lS c
    clear c
    have hR:=eF (by rw [decide_eq_false (by omega)];rfl) hR
    conv=>whnf
    refine Split.mk (fun e=>kW e) (fun _=>?_)
    conv=>whnf
    exact ku.mk ⟨(),hR,ay [(0,0)] rfl rfl rfl ⟨⟨rfl,rfl⟩,⟨rfl,rfl⟩,⟨rfl,rfl⟩,trivial⟩ ⟨⟨rfl,rfl⟩,trivial⟩⟩
  ·have h1:d=0:=lS c
   clear c
   have hR:=eF (by rw [decide_eq_false (by omega)];rfl) hR
   conv=>whnf
   refine Split.mk (fun e=>kW e) (fun _=>?_)
   conv=>whnf
   refine Split.mk (fun e=>kW e) (fun _=>?_)
   conv=>whnf
   exact ku.mk ⟨(),hR,ay [(0,0)] rfl rfl rfl ⟨⟨rfl,rfl⟩,⟨rfl,rfl⟩,⟨rfl,rfl⟩,trivial⟩ ⟨⟨rfl,rfl⟩,trivial⟩⟩
 refine Vc.of 1 hT ?_
 conv=>whnf
 refine dU.mk {i:Nat // i≤n.f0.length∧qB d a (n.f0.drop i) (n.f1.drop i)=R} (fun p=>(1,[(7,i64 p.1),(3, .c (.px 0 0)),(1,acH a),(2,i64 d)],[(0,Cb n)])) (fun p=>n.f0.length - p.1) ⟨0,Nat.zero_le _,hR⟩ (ay [(0,0)] rfl rfl rfl ⟨⟨rfl,rfl⟩,⟨rfl,rfl⟩,⟨rfl,rfl⟩,⟨rfl,rfl⟩,trivial⟩ ⟨⟨rfl,rfl⟩,trivial⟩) ?_
 rename_i hR0
 clear hR hR0
 rintro⟨i,hi,hR⟩
 conv=>whnf
 refine Split.mk (fun c=>?_) (fun c=>?_)
 ·have hk2:i<n.f0.length:=gX c
  clear c
  have hk3:i<n.f1.length:=hl▸hk2
  have hd6:d<6:=by have:=h6 (by omega);omega
  have hx:=hn.z0 _ (getD_mem (d:=ByteArray.empty) hk2)
  have ihk:=ih _ (getD_mem (d:=zN) hk3) (acI hok hk3) hd6
  rw [d1_ (by omega)] at ihk
  rw [XR hk2 hk3] at hR
  conv=>whnf
  refine Need.mk (idx hk2) ?_
  conv=>whnf
  refine Split.mk (fun c=>?_) (fun c=>?_)
  ·have h1:0<d:=lQ c
   clear c
   rw [if_pos h1] at hR
   have hs1:(a++(⟨#[47]⟩:ByteArray)).size=a.size+1:=tC _ _
   have hs2:((a++(⟨#[47]⟩:ByteArray))++n.f0.getD i ByteArray.empty).size=a.size+1+(n.f0.getD i ByteArray.empty).size:=by rw [tC,hs1]
   conv=>whnf
   refine Need.mk (show a.size+1≤9223372036854775807 by omega) ?_
   conv=>whnf
   refine Need.mk (show(a++(⟨#[47]⟩:ByteArray)).size+(n.f0.getD i ByteArray.empty).size≤9223372036854775807 by omega) ?_
   conv=>whnf
   refine Need.mk (idx hk3) ?_
   conv=>whnf
   refine aG.mk _ (ihk _ (by show((a++(⟨#[47]⟩:ByteArray))++n.f0.getD i ByteArray.empty).size≤_;omega)) ?_
   conv=>whnf
   refine Split.mk (fun c=>?_) (fun c=>?_)
   ·have c4:=dA c
    conv=>whnf
    exact aC.mk ⟨rfl,rfl⟩ ⟨rfl,rfl⟩ ⟨bv (fK c4 hR),trivial⟩
   ·have c4:=dM c
    replace hR:=eF c4 hR
    conv=>whnf
    exact bM.mk ⟨⟨i+1,hk2,hR⟩,Nat.sub_lt_sub_left hk2 (Nat.lt_succ_self i),ay [(0,0)] rfl rfl rfl ⟨⟨rfl,congrArg i64 (eu hk2 (Nat.le_trans hn.l0 (by decide)))⟩,⟨rfl,rfl⟩,⟨rfl,rfl⟩,⟨rfl,rfl⟩,trivial⟩ ⟨⟨rfl,rfl⟩,trivial⟩⟩
  ·have h1:d=0:=lS c
   clear c
   rw [if_neg (by omega)] at hR
   conv=>whnf
   refine Need.mk (idx hk3) ?_
   conv=>whnf
   refine aG.mk _ (ihk _ (by show(n.f0.getD i ByteArray.empty).size≤_;omega)) ?_
   conv=>whnf
   refine Split.mk (fun c=>?_) (fun c=>?_)
   ·have c4:=dA c
    conv=>whnf
    exact aC.mk ⟨rfl,rfl⟩ ⟨rfl,rfl⟩ ⟨bv (fK c4 hR),trivial⟩
   ·have c4:=dM c
    replace hR:=eF c4 hR
    conv=>whnf
    exact bM.mk ⟨⟨i+1,hk2,hR⟩,Nat.sub_lt_sub_left hk2 (Nat.lt_succ_self i),ay [(0,0)] rfl rfl rfl ⟨⟨rfl,congrArg i64 (eu hk2 (Nat.le_trans hn.l0 (by decide)))⟩,⟨rfl,rfl⟩,⟨rfl,rfl⟩,⟨rfl,rfl⟩,trivial⟩ ⟨⟨rfl,rfl⟩,trivial⟩⟩
 ·have hk2:i=n.f0.length:=Nat.le_antisymm hi (gY c)
  subst hk2
  conv=>whnf
  exact aC.mk ⟨rfl,rfl⟩ ⟨rfl,rfl⟩ ⟨bv (hR.symm.trans Zr),trivial⟩
theorem MR:∀(n:SN),Bd n→∀(d:Nat) (a:ByteArray),d≤6→a.size≤d*1048577→okS d n=true→aH T Tryz.prog 145 [.ag (T.cells eN n), .c (.sc (.string a)), .c (.sc (.int .i64 (d:Int)))] (.c (.sc (.bool (zB d a n)))):=fun n hn d a hd ha hok=>
 Qd n d a hn hd ha hok (fun k hk hok2 h b hb=>MR k (hn.kid k hk) (d+1) b h hb hok2)
termination_by n=>SizeOf.sizeOf n
decreasing_by exact qX hk
theorem Rf {n:SN} (hn:Bd n) (h0:n.f2.length=0):jV n=(okS 0 n && zB 0 (⟨#[]⟩:ByteArray) n):=by
 have hB:=XH hn [] 0 rfl (by omega) (fun _=>h0)
 have e:dH []=(⟨#[]⟩:ByteArray):=rfl
 rw [e] at hB
 unfold jV
 rw [decide_eq_true h0,Bool.true_and,Bool.eq_iff_iff,hB,Bool.and_eq_true]
theorem Ib (n:SN) (hn:Bd n):aH T Tryz.prog 76 [.ag (T.cells eN n)] (.c (.sc (.bool (jV n)))):=by
 refine aI hT Tryz.func76 (by kernel_rfl) rfl rfl (fun A=>?_)
 conv=>whnf
 refine Split.mk (fun c=>?_) (fun c=>?_)
 ·have h0:n.f2.length=0:=yK c
  clear c
  rw [Rf hn h0]
  conv=>whnf
  refine aG.mk _ (XQ n hn 0 (by decide)) ?_
  conv=>whnf
  refine Split.mk (fun c=>?_) (fun c=>?_)
  ·conv=>whnf
   refine aG.mk _ (MR n hn 0 _ (by decide) (by show(0:Nat)≤_;omega) c) ?_
   conv=>whnf
   exact aC.mk ⟨rfl,rfl⟩ ⟨rfl,rfl⟩ ⟨bv (by rw [c];rfl),trivial⟩
  ·conv=>whnf
   exact aC.mk ⟨rfl,rfl⟩ ⟨rfl,rfl⟩ ⟨bv (by rw [c];rfl),trivial⟩
 ·have h0:n.f2.length≠0:=yL c
  clear c
  conv=>whnf
  refine Split.mk (fun e=>kW e) (fun _=>?_)
  conv=>whnf
  exact aC.mk ⟨rfl,rfl⟩ ⟨rfl,rfl⟩ ⟨bv (by unfold jV;rw [decide_eq_false h0];rfl),trivial⟩
end Go.Proofs.YtcnfgfomholheaaGreatDoor.Q
end
section
namespace Go.Proofs.YtcnfgfomholheaaGreatDoor.Q
open Go.RowKit Go.Proofs.YtcnfgfomholheaaGreatDoor.Z Go.Proofs.YtcnfgfomholheaaGreatDoor.Pure
set_option linter.unusedVariables false
set_option linter.unusedSimpArgs false
set_option maxRecDepth 100000
set_option maxHeartbeats 4000000
theorem XT {i:Nat} {p:List ByteArray} {ns:List ByteArray} {ks:List SN} (h:i<ns.length) (h2:i<ks.length):mP p (ns.drop i) (jy ns i) (ks.drop i)=(nU (jy ns i) (ns.getD i ByteArray.empty) && (decide ((Td (ns.getD i ByteArray.empty)).length≤1) && (jY (dl (ns.getD i ByteArray.empty)) (((ks.getD i zN).f1.length:Int)==0) && (!(decide ((ks.getD i zN).f1.length=0) && decide ((ks.getD i zN).f2.length=0)) && (okI (p++[ns.getD i ByteArray.empty]) (ks.getD i zN) && mP p (ns.drop (i+1)) (jy ns (i+1)) (ks.drop (i+1))))))):=by
 have e:ns.getD i ByteArray.empty=ns[i]:=by simp [h]
 have e2:ks.getD i zN=ks[i]:=by simp [h2]
 have e3:((ks[i].f1.length:Int)==0)=decide (ks[i].f1.length=0):=by rw [Bool.eq_iff_iff];simp
 rw [List.drop_eq_getElem_cons h,List.drop_eq_getElem_cons h2,mP,e,e2,yJ h,e,JU,pieces_len,e3,Bool.and_assoc]
theorem Zt {p:List ByteArray} {ns:List ByteArray} {ks:List SN} {y:Option ByteArray}:mP p (ns.drop ns.length) y ks=true:=by
 rw [List.drop_length];cases ks<;>rw [mP]<;>(intro x1 x2 x3 x4 e;cases e)
theorem U5 {a b:Nat} (c:decide ((a:Int)>(b:Int))=true):b<a:=by simp at c;omega
theorem U6 {a b:Nat} (c:decide ((a:Int)>(b:Int))=false):a≤b:=by simp at c;omega
theorem H8:vT T 9:=fun _=>rfl
theorem fA {a b:Nat} {bt:Nat} (h:a+b≤8388608) (hb:bt≤1024):a+b≤maxLen∧(a+b)*bt≤140737488355328:=by
 have:(a+b)*bt≤8388608*1024:=Nat.mul_le_mul h hb
 unfold maxLen;omega
theorem Lu {f:FuncId} {x:Arg T.Tb} {e:Nat} {r:RS T.Tb} (h:aH T Tryz.prog f [x, .c (.sl e [])] r):aH T Tryz.prog f [x, .c (.sc (.slice none 0 0))] r:=by
 refine⟨h.1,fun w vs S hj ha=>h.2 w vs S hj ?_⟩
 obtain⟨v,q,rfl,h1,v2,q2,rfl,⟨rfl,_⟩,rfl⟩:=ha
 exact⟨v,_,rfl,h1,_,_,rfl, .nil e none 0,rfl⟩
theorem XU (n:SN) (p:List ByteArray) (hn:Bd n) (hp:p.length≤7) (hz:∀x∈p,x.size≤1048576) (ih:p.length≤6→∀k∈n.f1,∀x:ByteArray,x.size≤1048576→aH T Tryz.prog 137 [.ag (T.cells eN k), .c (.sl 9 (p++[x]))] (.c (.sc (.bool (okI (p++[x]) k))))):aH T Tryz.prog 137 [.ag (T.cells eN n), .c (.sl 9 (p))] (.c (.sc (.bool (okI (p) n)))):=by
 refine mQ hT Tryz.func137 (by kernel_rfl) rfl rfl (fun A=>?_)
 have hR:=XD p n
 generalize okI p n=R at hR⊢
 replace hR:=hR.symm
 refine Vc.seq 0 hT ?_
 conv=>whnf
 refine Vc.seq 1 hT ?_
 conv=>whnf
 refine Split.mk (fun c=>?_) (fun c=>?_)
 ·have h1:¬n.f0.length=n.f1.length:=wG c
  clear c
  conv=>whnf
  refine Split.mk (fun _=>?_) (fun e=>jO e)
  conv=>whnf
  refine Split.mk (fun _=>?_) (fun e=>jO e)
  conv=>whnf
  exact aC.mk ⟨rfl,rfl⟩ ⟨rfl,rfl⟩ ⟨bv (fK (decide_eq_false h1) hR),trivial⟩
 have hl:n.f0.length=n.f1.length:=wH c
 clear c
 replace hR:=eF (decide_eq_true hl) hR
 conv=>whnf
 refine Split.mk (fun c=>?_) (fun c=>?_)
 ·have h1:¬p.length≤6:=Nat.not_le.2 (U5 (b:=6) c)
  clear c
  conv=>whnf
  refine Split.mk (fun _=>?_) (fun e=>jO e)
  conv=>whnf
  exact aC.mk ⟨rfl,rfl⟩ ⟨rfl,rfl⟩ ⟨bv (fK (decide_eq_false h1) hR),trivial⟩
 have h6:p.length≤6:=U6 (b:=6) c
 clear c
 replace hR:=eF (decide_eq_true h6) hR
 conv=>whnf
 refine aG.mk _ (U4 n.f2 hn.l2 (fun x hx=>Nat.le_trans (hn.z2 x hx) (by decide))) ?_
 conv=>whnf
 refine Split.mk (fun c=>?_) (fun c=>?_)
 ·have c1:uj n.f2=false:=dA c
  clear c
  conv=>whnf
  exact aC.mk ⟨rfl,rfl⟩ ⟨rfl,rfl⟩ ⟨bv (fK c1 hR),trivial⟩
 have c1:uj n.f2=true:=dM c
 clear c
 replace hR:=eF c1 hR
 conv=>whnf
 refine Vc.cut (α:=Unit) 2 (fun _=>mP p n.f0 none n.f1=R) (fun _=>[(2, .c (.px 0 0)),(1,im 9 p)]) (fun _=>[(0,Cb n)]) hT ?_ (fun _ hR=>?_)
 ·conv=>whnf
  refine Split.mk (fun c=>?_) (fun c=>?_)
  ·have h1:0<n.f2.length:=lQ c
   clear c
   rw [decide_eq_false (p:=n.f2.length=0) (by omega),Bool.false_or] at hR
   conv=>whnf
   refine aG.mk _ (Oc p (by omega) (sZ p hp hz)) ?_
   conv=>whnf
   refine aG.mk _ (Qa _ (sZ p hp hz)) ?_
   conv=>whnf
   refine Split.mk (fun c=>?_) (fun c=>?_)
   ·have c1:fF (dH p)=false:=dA c
    clear c
    conv=>whnf
    exact aC.mk ⟨rfl,rfl⟩ ⟨rfl,rfl⟩ ⟨bv (fK c1 hR),trivial⟩
   ·have c1:fF (dH p)=true:=dM c
    clear c
    conv=>whnf
    exact ku.mk ⟨(),eF c1 hR,ay [(0,0)] rfl rfl rfl ⟨⟨rfl,rfl⟩,⟨rfl,rfl⟩,trivial⟩ ⟨⟨rfl,rfl⟩,trivial⟩⟩
  ·have h1:n.f2.length=0:=lS c
   clear c
   replace hR:=eF (by rw [decide_eq_true h1];rfl) hR
   conv=>whnf
   refine Split.mk (fun e=>kW e) (fun _=>?_)
   conv=>whnf
   exact ku.mk ⟨(),hR,ay [(0,0)] rfl rfl rfl ⟨⟨rfl,rfl⟩,⟨rfl,rfl⟩,trivial⟩ ⟨⟨rfl,rfl⟩,trivial⟩⟩
 refine Vc.of 1 hT ?_
 conv=>whnf
 refine dU.mk {i:Nat // i≤n.f0.length∧mP p (n.f0.drop i) (jy n.f0 i) (n.f1.drop i)=R} (fun p_=>(1,[(39,i64 p_.1),(38,i64 n.f0.length),(37,im 9 n.f0),(2, .c (.px 0 0)),(1,im 9 p)],[(0,Cb n)])) (fun p=>n.f0.length - p.1) ⟨0,Nat.zero_le _,hR⟩ (ay [(0,0)] rfl rfl rfl ⟨⟨rfl,rfl⟩,⟨rfl,rfl⟩,⟨rfl,rfl⟩,⟨rfl,rfl⟩,⟨rfl,rfl⟩,trivial⟩ ⟨⟨rfl,rfl⟩,trivial⟩) ?_
 rename_i hR0
 clear hR hR0
 rintro⟨i,hi,hR⟩
 conv=>whnf
 refine Split.mk (fun c=>?_) (fun c=>?_)
 ·have hk2:i<n.f0.length:=gX c
  clear c
  have hk3:i<n.f1.length:=hl▸hk2
  have hx:=hn.z0 _ (getD_mem (d:=ByteArray.empty) hk2)
  have ihk:=ih h6 _ (getD_mem (d:=zN) hk3) _ hx
  rw [XT hk2 hk3] at hR
  conv=>whnf
  refine Need.mk (idx hk2) ?_
  conv=>whnf
  refine Need.mk (idx hk3) ?_
  conv=>whnf
  refine Split.mk (fun c=>?_) (fun c=>?_)
  ·have h0:0<i:=lQ c
   clear c
   have hl0:=hn.l0
   rw [XM h0 hk2] at hR
   have hpr:=Ei h0 (by omega)
   have hpt:(wrap64 ((i:Int) - 1)).toNat=i - 1:=by rw [hpr];rfl
   conv=>whnf
   refine Need.mk (by rw [hpr];exact idx (show i - 1<n.f0.length by omega)) ?_
   conv=>whnf
   refine Split.mk (fun c=>?_) (fun c=>?_)
   ·have c2:Op.bytesLess (n.f0.getD (i - 1) ByteArray.empty).toList (n.f0.getD i ByteArray.empty).toList=false:=(congrArg (fun j=>Op.bytesLess (n.f0.getD j ByteArray.empty).toList (n.f0.getD i ByteArray.empty).toList) hpt.symm).trans (dA c)
    clear c
    conv=>whnf
    refine Split.mk (fun _=>?_) (fun e=>jO e)
    conv=>whnf
    refine Split.mk (fun _=>?_) (fun e=>jO e)
    conv=>whnf
    exact aC.mk ⟨rfl,rfl⟩ ⟨rfl,rfl⟩ ⟨bv (fK c2 hR),trivial⟩
   ·have c2:Op.bytesLess (n.f0.getD (i - 1) ByteArray.empty).toList (n.f0.getD i ByteArray.empty).toList=true:=(congrArg (fun j=>Op.bytesLess (n.f0.getD j ByteArray.empty).toList (n.f0.getD i ByteArray.empty).toList) hpt.symm).trans (dM c)
    clear c
    replace hR:=eF c2 hR
    conv=>whnf
    refine aG.mk _ (Jr _ (Nat.le_trans hx (by decide))) ?_
    conv=>whnf
    refine Split.mk (fun c=>?_) (fun c=>?_)
    ·have c3:¬(Td (n.f0.getD i ByteArray.empty)).length≤1:=Nat.not_le.2 (U5 (b:=1) c)
     clear c
     conv=>whnf
     refine Split.mk (fun _=>?_) (fun e=>jO e)
     conv=>whnf
     exact aC.mk ⟨rfl,rfl⟩ ⟨rfl,rfl⟩ ⟨bv (fK (decide_eq_false c3) hR),trivial⟩
    ·have c3:(Td (n.f0.getD i ByteArray.empty)).length≤1:=U6 (b:=1) c
     clear c
     replace hR:=eF (decide_eq_true c3) hR
     conv=>whnf
     refine aG.mk _ (FD _ _ (Nat.le_trans hx (by decide))) ?_
     conv=>whnf
     refine Split.mk (fun c=>?_) (fun c=>?_)
     ·have c4:=dA c
      conv=>whnf
      exact aC.mk ⟨rfl,rfl⟩ ⟨rfl,rfl⟩ ⟨bv (fK c4 hR),trivial⟩
     ·have c4:=dM c
      clear c
      replace hR:=eF c4 hR
      conv=>whnf
      refine Split.mk (fun c=>?_) (fun c=>?_)
      ·have c5:(n.f1.getD i zN).f1.length=0:=yK c
       clear c
       conv=>whnf
       refine Split.mk (fun c=>?_) (fun c=>?_)
       ·have c6:(n.f1.getD i zN).f2.length=0:=yK c
        clear c
        conv=>whnf
        refine bZ.mk ⟨by kernel_rfl,by kernel_rfl⟩ ?_
        conv=>whnf
        refine Split.mk (fun _=>?_) (fun e=>jO e)
        conv=>whnf
        exact aC.mk ⟨rfl,rfl⟩ ⟨rfl,rfl⟩ ⟨bv (no3 c5 c6 hR),trivial⟩
       ·have c6:(n.f1.getD i zN).f2.length≠0:=yL c
        clear c
        replace hR:=no2 c5 c6 hR
        conv=>whnf
        refine Need.mk ⟨H8,fA (a:=0) (b:=p.length) (by omega) (by decide)⟩ ?_
        conv=>whnf
        refine Need.mk (fA (a:=p.length) (b:=1) (by omega) (by decide)) ?_
        conv=>whnf
        refine aG.mk _ ihk ?_
        conv=>whnf
        refine bZ.mk ⟨by kernel_rfl,by kernel_rfl⟩ ?_
        conv=>whnf
        refine Split.mk (fun c=>?_) (fun c=>?_)
        ·have c9:=dA c
         conv=>whnf
         exact aC.mk ⟨rfl,rfl⟩ ⟨rfl,rfl⟩ ⟨bv (fK c9 hR),trivial⟩
        ·have c9:=dM c
         replace hR:=eF c9 hR
         conv=>whnf
         exact bM.mk ⟨⟨i+1,hk2,hR⟩,Nat.sub_lt_sub_left hk2 (Nat.lt_succ_self i),ay [(0,0)] rfl rfl rfl ⟨⟨rfl,congrArg i64 (eu hk2 (Nat.le_trans hn.l0 (by decide)))⟩,⟨rfl,rfl⟩,⟨rfl,rfl⟩,⟨rfl,rfl⟩,⟨rfl,rfl⟩,trivial⟩ ⟨⟨rfl,rfl⟩,trivial⟩⟩
      ·have c5:(n.f1.getD i zN).f1.length≠0:=yL c
       clear c
       replace hR:=no1 c5 hR
       conv=>whnf
       refine Split.mk (fun e=>kW e) (fun _=>?_)
       conv=>whnf
       refine Need.mk ⟨H8,fA (a:=0) (b:=p.length) (by omega) (by decide)⟩ ?_
       conv=>whnf
       refine Need.mk (fA (a:=p.length) (b:=1) (by omega) (by decide)) ?_
       conv=>whnf
       refine aG.mk _ ihk ?_
       conv=>whnf
       refine bZ.mk ⟨by kernel_rfl,by kernel_rfl⟩ ?_
       conv=>whnf
       refine Split.mk (fun c=>?_) (fun c=>?_)
       ·have c9:=dA c
        conv=>whnf
        exact aC.mk ⟨rfl,rfl⟩ ⟨rfl,rfl⟩ ⟨bv (fK c9 hR),trivial⟩
       ·have c9:=dM c
        replace hR:=eF c9 hR
        conv=>whnf
        exact bM.mk ⟨⟨i+1,hk2,hR⟩,Nat.sub_lt_sub_left hk2 (Nat.lt_succ_self i),ay [(0,0)] rfl rfl rfl ⟨⟨rfl,congrArg i64 (eu hk2 (Nat.le_trans hn.l0 (by decide)))⟩,⟨rfl,rfl⟩,⟨rfl,rfl⟩,⟨rfl,rfl⟩,⟨rfl,rfl⟩,trivial⟩ ⟨⟨rfl,rfl⟩,trivial⟩⟩
  ·have h0:i=0:=lS c
   clear c
   subst h0
   rw [Ju,Bool.true_and] at hR
   conv=>whnf
   refine Split.mk (fun e=>kW e) (fun _=>?_)
   conv=>whnf
   refine aG.mk _ (Jr _ (Nat.le_trans hx (by decide))) ?_
   conv=>whnf
   refine Split.mk (fun c=>?_) (fun c=>?_)
   ·have c3:¬(Td (n.f0.getD 0 ByteArray.empty)).length≤1:=Nat.not_le.2 (U5 (b:=1) c)
    clear c
    conv=>whnf
    refine Split.mk (fun _=>?_) (fun e=>jO e)
    conv=>whnf
    exact aC.mk ⟨rfl,rfl⟩ ⟨rfl,rfl⟩ ⟨bv (fK (decide_eq_false c3) hR),trivial⟩
   ·have c3:(Td (n.f0.getD 0 ByteArray.empty)).length≤1:=U6 (b:=1) c
    clear c
    replace hR:=eF (decide_eq_true c3) hR
    conv=>whnf
    refine aG.mk _ (FD _ _ (Nat.le_trans hx (by decide))) ?_
    conv=>whnf
    refine Split.mk (fun c=>?_) (fun c=>?_)
    ·have c4:=dA c
     conv=>whnf
     exact aC.mk ⟨rfl,rfl⟩ ⟨rfl,rfl⟩ ⟨bv (fK c4 hR),trivial⟩
    ·have c4:=dM c
     clear c
     replace hR:=eF c4 hR
     conv=>whnf
     refine Split.mk (fun c=>?_) (fun c=>?_)
     ·have c5:(n.f1.getD 0 zN).f1.length=0:=yK c
      clear c
      conv=>whnf
      refine Split.mk (fun c=>?_) (fun c=>?_)
      ·have c6:(n.f1.getD 0 zN).f2.length=0:=yK c
       clear c
       conv=>whnf
       refine bZ.mk ⟨by kernel_rfl,by kernel_rfl⟩ ?_
       conv=>whnf
       refine Split.mk (fun _=>?_) (fun e=>jO e)
       conv=>whnf
       exact aC.mk ⟨rfl,rfl⟩ ⟨rfl,rfl⟩ ⟨bv (no3 c5 c6 hR),trivial⟩
      ·have c6:(n.f1.getD 0 zN).f2.length≠0:=yL c
       clear c
       replace hR:=no2 c5 c6 hR
       conv=>whnf
       refine Need.mk ⟨H8,fA (a:=0) (b:=p.length) (by omega) (by decide)⟩ ?_
       conv=>whnf
       refine Need.mk (fA (a:=p.length) (b:=1) (by omega) (by decide)) ?_
       conv=>whnf
       refine aG.mk _ ihk ?_
       conv=>whnf
       refine bZ.mk ⟨by kernel_rfl,by kernel_rfl⟩ ?_
       conv=>whnf
       refine Split.mk (fun c=>?_) (fun c=>?_)
       ·have c9:=dA c
        conv=>whnf
        exact aC.mk ⟨rfl,rfl⟩ ⟨rfl,rfl⟩ ⟨bv (fK c9 hR),trivial⟩
       ·have c9:=dM c
        replace hR:=eF c9 hR
        conv=>whnf
        exact bM.mk ⟨⟨0+1,hk2,hR⟩,Nat.sub_lt_sub_left hk2 (Nat.lt_succ_self 0),ay [(0,0)] rfl rfl rfl ⟨⟨rfl,congrArg i64 (eu hk2 (Nat.le_trans hn.l0 (by decide)))⟩,⟨rfl,rfl⟩,⟨rfl,rfl⟩,⟨rfl,rfl⟩,⟨rfl,rfl⟩,trivial⟩ ⟨⟨rfl,rfl⟩,trivial⟩⟩
     ·have c5:(n.f1.getD 0 zN).f1.length≠0:=yL c
      clear c
      replace hR:=no1 c5 hR
      conv=>whnf
      refine Split.mk (fun e=>kW e) (fun _=>?_)
      conv=>whnf
      refine Need.mk ⟨H8,fA (a:=0) (b:=p.length) (by omega) (by decide)⟩ ?_
      conv=>whnf
      refine Need.mk (fA (a:=p.length) (b:=1) (by omega) (by decide)) ?_
      conv=>whnf
      refine aG.mk _ ihk ?_
      conv=>whnf
      refine bZ.mk ⟨by kernel_rfl,by kernel_rfl⟩ ?_
      conv=>whnf
      refine Split.mk (fun c=>?_) (fun c=>?_)
      ·have c9:=dA c
       conv=>whnf
       exact aC.mk ⟨rfl,rfl⟩ ⟨rfl,rfl⟩ ⟨bv (fK c9 hR),trivial⟩
      ·have c9:=dM c
       replace hR:=eF c9 hR
       conv=>whnf
       exact bM.mk ⟨⟨0+1,hk2,hR⟩,Nat.sub_lt_sub_left hk2 (Nat.lt_succ_self 0),ay [(0,0)] rfl rfl rfl ⟨⟨rfl,congrArg i64 (eu hk2 (Nat.le_trans hn.l0 (by decide)))⟩,⟨rfl,rfl⟩,⟨rfl,rfl⟩,⟨rfl,rfl⟩,⟨rfl,rfl⟩,trivial⟩ ⟨⟨rfl,rfl⟩,trivial⟩⟩
 ·have hk2:i=n.f0.length:=Nat.le_antisymm hi (gY c)
  subst hk2
  conv=>whnf
  exact aC.mk ⟨rfl,rfl⟩ ⟨rfl,rfl⟩ ⟨bv (hR.symm.trans Zt),trivial⟩
theorem XV:∀(n:SN),Bd n→∀p:List ByteArray,p.length≤7→(∀x∈p,x.size≤1048576)→aH T Tryz.prog 137 [.ag (T.cells eN n), .c (.sl 9 (p))] (.c (.sc (.bool (okI (p) n)))):=fun n hn p hp hz=>
 XU n p hn hp hz (fun h k hk x hx=>XV k (hn.kid k hk) (p++[x]) (by rw [List.length_append];show p.length+1≤7;omega) (fun y hy=>(List.mem_append.1 hy).elim (hz y) (fun h=>by rw [List.mem_singleton.1 h];exact hx)))
termination_by n=>SizeOf.sizeOf n
decreasing_by exact qX hk
theorem H9 (n:SN) (hn:Bd n):aH T Tryz.prog 73 [.ag (T.cells eN n)] (.c (.sc (.bool (jV n)))):=by
 refine aI hT Tryz.func73 (by kernel_rfl) rfl rfl (fun A=>?_)
 conv=>whnf
 refine Split.mk (fun c=>?_) (fun c=>?_)
 ·have h0:n.f2.length=0:=yK c
  clear c
  conv=>whnf
  refine aG.mk _ (Lu (XV n hn [] (by decide) (fun x hx=>by cases hx))) ?_
  conv=>whnf
  exact aC.mk ⟨rfl,rfl⟩ ⟨rfl,rfl⟩ ⟨bv (by unfold jV;rw [decide_eq_true h0];rfl),trivial⟩
 ·have h0:n.f2.length≠0:=yL c
  clear c
  conv=>whnf
  exact aC.mk ⟨rfl,rfl⟩ ⟨rfl,rfl⟩ ⟨bv (by unfold jV;rw [decide_eq_false h0];rfl),trivial⟩
end Go.Proofs.YtcnfgfomholheaaGreatDoor.Q
end
section
namespace Go.Proofs.YtcnfgfomholheaaGreatDoor.Q
open Go.RowKit Go.Proofs.YtcnfgfomholheaaGreatDoor.Z Go.Proofs.YtcnfgfomholheaaGreatDoor.Pure
set_option linter.unusedVariables false
set_option linter.unusedSimpArgs false
set_option maxRecDepth 100000
set_option maxHeartbeats 4000000
theorem getD_in {α:Type} (l:List α) (k:Nat) (d:α) (h:k<l.length):l.getD k d=l[k]:=by simp [h]
end Go.Proofs.YtcnfgfomholheaaGreatDoor.Q
end
section
namespace Go.Proofs.YtcnfgfomholheaaGreatDoor.Q
open Go.RowKit Go.Proofs.YtcnfgfomholheaaGreatDoor.Z
set_option linter.unusedVariables false
set_option linter.unusedSimpArgs false
set_option maxRecDepth 100000
set_option maxHeartbeats 4000000
def iq {α:Type} (F:α→Int→Int):List α→Int→Int
 | [],x=>x
 | a::l,x=>thenS (F a x) (iq F l)
theorem lK {α:Type} {F:α→Int→Int} {d:α} {l:List α} {k:Nat} {x:Int} (h:k<l.length):iq F (l.drop k) x=thenS (F (l.getD k d) x) (iq F (l.drop (k+1))):=by
 rw [List.drop_eq_getElem_cons h]
 have:l.getD k d=l[k]:=by simp [h]
 rw [this];rfl
theorem zG {α:Type} {F:α→Int→Int} {l:List α} {x:Int}:iq F (l.drop l.length) x=x:=by rw [List.drop_length];rfl
theorem qY {α:Type} {F:α→Int→Int}:∀{l:List α} {x:Int},(∀a∈l,∀x,0≤x→F a x≤x)→0≤x→iq F l x≤x
 | [],x,_,_=>Int.le_refl _
 | a::l,x,hF,h=>by
   show thenS _ _≤x
   unfold thenS
   split
   ·omega
   ·have h2:=hF a List.mem_cons_self x h
    have:=qY (F:=F) (l:=l) (x:=F a x) (fun b hb=>hF b (List.mem_cons_of_mem _ hb)) (by omega)
    omega
theorem uX {r x:Int} {K:Int→Int} (h0:0≤x) (h1:r≤x) (h2:0≤r→K r≤r):thenS r K≤x:=by
 unfold thenS;split
 ·omega
 ·have:=h2 (by omega);omega
theorem KL {n:Nat} {x:Int} (h0:0≤x) (h1:x≤1048576) (hn:n≤140737488351232) (c:decide (wrap64 (x - (n:Int))<0)=true):dO n x= -1:=WQ h0 (by omega) hn c
theorem KN {n:Nat} {x:Int} (h0:0≤x) (h1:x≤1048576) (hn:n≤140737488351232) (c:decide (wrap64 (x - (n:Int))<0)=false):dO n x=wrap64 (x - (n:Int)):=(WR h0 (by omega) hn c).1
theorem aa9 (l:List Int) (x:Int) (h0:0≤x) (h1:x≤1048576) (hl:l.length≤140737488351232):aH T Tryz.prog 215 [.c (.sl 5 l), .c (.sc (.int .i64 x))] (.c (.sc (.int .i64 (dO l.length x)))):=by
 refine aI hT Tryz.func215 (by kernel_rfl) rfl rfl (fun A=>?_)
 conv=>whnf
 refine Split.mk (fun c=>?_) (fun c=>?_)
 ·conv=>whnf
  exact aC.mk ⟨rfl,rfl⟩ ⟨rfl,rfl⟩ ⟨iv (KL h0 h1 hl c),trivial⟩
 ·conv=>whnf
  exact aC.mk ⟨rfl,rfl⟩ ⟨rfl,rfl⟩ ⟨iv (KN h0 h1 hl c),trivial⟩
theorem adv (a:LS) (x:Int) (h0:0≤x) (h1:x≤1048576) (hl:a.f0.size≤140737488351232):aH T Tryz.prog 27 [.ag (T.cells Cc a), .c (.sc (.int .i64 x))] (.c (.sc (.int .i64 (dO a.f0.size x)))):=by
 refine aI hT Tryz.func27 (by kernel_rfl) rfl rfl (fun A=>?_)
 conv=>whnf
 refine Split.mk (fun c=>?_) (fun c=>?_)
 ·conv=>whnf
  exact aC.mk ⟨rfl,rfl⟩ ⟨rfl,rfl⟩ ⟨iv (KL h0 h1 hl c),trivial⟩
 ·conv=>whnf
  exact aC.mk ⟨rfl,rfl⟩ ⟨rfl,rfl⟩ ⟨iv (KN h0 h1 hl c),trivial⟩
theorem acJ (a:LW) (x:Int) (h0:0≤x) (h1:x≤1048576) (hl:a.f0.size≤140737488351232):aH T Tryz.prog 125 [.ag (T.cells pF a), .c (.sc (.int .i64 x))] (.c (.sc (.int .i64 (dO a.f0.size x)))):=by
 refine aI hT Tryz.func125 (by kernel_rfl) rfl rfl (fun A=>?_)
 conv=>whnf
 refine Split.mk (fun c=>?_) (fun c=>?_)
 ·conv=>whnf
  exact aC.mk ⟨rfl,rfl⟩ ⟨rfl,rfl⟩ ⟨iv (KL h0 h1 hl c),trivial⟩
 ·conv=>whnf
  exact aC.mk ⟨rfl,rfl⟩ ⟨rfl,rfl⟩ ⟨iv (KN h0 h1 hl c),trivial⟩
theorem aeu {n:Nat} {x:Int} (c:decide (dO n x<0)=true):dO n x= -1:=by
 have:=JX c
 unfold dO at*
 split<;>simp_all
def qj (a:LK) (x:Int):Int:=thenS (dO a.f0.size x) (dO a.f1.length)
theorem acK (a:LK) (x:Int) (h0:0≤x) (h1:x≤1048576) (hl:a.f0.size≤140737488351232) (hb:a.f1.length≤140737488351232):aH T Tryz.prog 186 [.ag (T.cells Ce a), .c (.sc (.int .i64 x))] (.c (.sc (.int .i64 (qj a x)))):=by
 refine aI hT Tryz.func186 (by kernel_rfl) rfl rfl (fun A=>?_)
 conv=>whnf
 refine Split.mk (fun c=>?_) (fun c=>?_)
 ·conv=>whnf
  exact aC.mk ⟨rfl,rfl⟩ ⟨rfl,rfl⟩ ⟨iv (Aq h0 (by omega) hl c),trivial⟩
 ·obtain⟨e1,e2,e3⟩:=Ar (K:=dO a.f1.length) h0 (by omega) hl c
  conv=>whnf
  refine aG.mk _ (aa9 a.f1 _ e2 (Int.le_trans e3 h1) hb) ?_
  conv=>whnf
  refine Split.mk (fun c=>?_) (fun c=>?_)
  ·conv=>whnf
   exact aC.mk ⟨rfl,rfl⟩ ⟨rfl,rfl⟩ ⟨iv (e1.trans (aeu c)),trivial⟩
  ·conv=>whnf
   exact aC.mk ⟨rfl,rfl⟩ ⟨rfl,rfl⟩ ⟨iv e1,trivial⟩
theorem XW (l:List ByteArray) (x:Int) (h0:0≤x) (h1:x≤1048576) (hl:l.length≤140737488351232) (hs:∀y∈l,(y:ByteArray).size≤140737488351232):aH T Tryz.prog 43 [.c (.sl 9 l), .c (.sc (.int .i64 x))] (.c (.sc (.int .i64 (thenS (dO l.length x) (iq (fun y:ByteArray=>dO y.size) l))))):=by
 have h2:x≤4611686018427387904:=by omega
 refine aI hT Tryz.func43 (by kernel_rfl) rfl rfl (fun A=>?_)
 conv=>whnf
 refine Split.mk (fun c=>?_) (fun c=>?_)
 ·conv=>whnf
  exact aC.mk ⟨rfl,rfl⟩ ⟨rfl,rfl⟩ ⟨iv (Aq h0 h2 hl c),trivial⟩
 ·obtain⟨e1,e2,e3⟩:=Ar (K:=iq (fun y:ByteArray=>dO y.size) l) h0 h2 hl c
  rw [e1]
  generalize hR:iq (fun y:ByteArray=>dO y.size) l (wrap64 (x - (l.length:Int)))=R
  conv=>whnf
  refine dU.mk {p:Nat × Int // p.1≤l.length∧0≤p.2∧p.2≤x∧iq (fun y:ByteArray=>dO y.size) (l.drop p.1) p.2=R} (fun p=>(0,[(5,i64 p.1.1),(1,i64 p.1.2),(0,im 9 l)],[])) (fun p=>l.length - p.1.1) ⟨(0,_),Nat.zero_le _,e2,e3,hR⟩ (ay [] rfl rfl rfl ⟨⟨rfl,rfl⟩,⟨rfl,rfl⟩,⟨rfl,rfl⟩,trivial⟩ trivial) ?_
  rintro⟨⟨k,y⟩,hk,p0,p1,hR⟩
  have p2:y≤4611686018427387904:=Int.le_trans p1 h2
  have p3:y≤1048576:=Int.le_trans p1 h1
  conv=>whnf
  refine Split.mk (fun c=>?_) (fun c=>?_)
  ·have hk2:k<l.length:=gX c
   conv=>whnf
   refine Need.mk (idx hk2) ?_
   conv=>whnf
   refine Split.mk (fun c=>?_) (fun c=>?_)
   ·conv=>whnf
    exact aC.mk ⟨rfl,rfl⟩ ⟨rfl,rfl⟩ ⟨iv ((hR.symm.trans (lK (F:=fun y:ByteArray=>dO y.size) (d:=(T.df 9)) hk2)).trans (Aq p0 p2 (hs _ (getD_mem hk2)) c)),trivial⟩
   ·obtain⟨g1,g2,g3⟩:=Ar (K:=iq (fun y:ByteArray=>dO y.size) (l.drop (k+1))) p0 p2 (hs _ (getD_mem hk2)) c
    conv=>whnf
    exact bM.mk ⟨⟨(k+1,_),hk2,g2,Int.le_trans g3 p1,(g1.symm.trans (lK (F:=fun y:ByteArray=>dO y.size) (d:=(T.df 9)) hk2).symm).trans hR⟩,Nat.sub_lt_sub_left hk2 (Nat.lt_succ_self k),ay [] rfl rfl rfl ⟨⟨rfl,congrArg i64 (eu hk2 hl)⟩,⟨rfl,rfl⟩,⟨rfl,rfl⟩,trivial⟩ trivial⟩
  ·have hk2:k=l.length:=Nat.le_antisymm hk (gY c)
   conv=>whnf
   subst hk2
   exact aC.mk ⟨rfl,rfl⟩ ⟨rfl,rfl⟩ ⟨iv (hR.symm.trans zG),trivial⟩
theorem acL (l:List LS) (x:Int) (h0:0≤x) (h1:x≤1048576) (hl:l.length≤140737488351232) (hs:∀y∈l,(y:LS).f0.size≤140737488351232):aH T Tryz.prog 94 [.c (.sl Cc l), .c (.sc (.int .i64 x))] (.c (.sc (.int .i64 (thenS (dO l.length x) (iq (fun y:LS=>dO y.f0.size) l))))):=by
 have h2:x≤4611686018427387904:=by omega
 refine aI hT Tryz.func94 (by kernel_rfl) rfl rfl (fun A=>?_)
 conv=>whnf
 refine Split.mk (fun c=>?_) (fun c=>?_)
 ·conv=>whnf
  exact aC.mk ⟨rfl,rfl⟩ ⟨rfl,rfl⟩ ⟨iv (Aq h0 h2 hl c),trivial⟩
 ·obtain⟨e1,e2,e3⟩:=Ar (K:=iq (fun y:LS=>dO y.f0.size) l) h0 h2 hl c
  rw [e1]
  generalize hR:iq (fun y:LS=>dO y.f0.size) l (wrap64 (x - (l.length:Int)))=R
  conv=>whnf
  refine dU.mk {p:Nat × Int // p.1≤l.length∧0≤p.2∧p.2≤x∧iq (fun y:LS=>dO y.f0.size) (l.drop p.1) p.2=R} (fun p=>(0,[(5,i64 p.1.1),(1,i64 p.1.2),(0,im Cc l)],[])) (fun p=>l.length - p.1.1) ⟨(0,_),Nat.zero_le _,e2,e3,hR⟩ (ay [] rfl rfl rfl ⟨⟨rfl,rfl⟩,⟨rfl,rfl⟩,⟨rfl,rfl⟩,trivial⟩ trivial) ?_
  rintro⟨⟨k,y⟩,hk,p0,p1,hR⟩
  have p2:y≤4611686018427387904:=Int.le_trans p1 h2
  have p3:y≤1048576:=Int.le_trans p1 h1
  conv=>whnf
  refine Split.mk (fun c=>?_) (fun c=>?_)
  ·have hk2:k<l.length:=gX c
   conv=>whnf
   refine Need.mk (idx hk2) ?_
   conv=>whnf
   refine aG.mk _ (adv (l.getD k (T.df Cc)) y p0 p3 (hs _ (getD_mem hk2))) ?_
   conv=>whnf
   refine Split.mk (fun c=>?_) (fun c=>?_)
   ·conv=>whnf
    exact aC.mk ⟨rfl,rfl⟩ ⟨rfl,rfl⟩ ⟨iv ((hR.symm.trans (lK (F:=fun y:LS=>dO y.f0.size) (d:=(T.df Cc)) hk2)).trans (zM c)),trivial⟩
   ·obtain⟨g1,g2⟩:=zO (K:=iq (fun y:LS=>dO y.f0.size) (l.drop (k+1))) c
    conv=>whnf
    exact bM.mk ⟨⟨(k+1,(fun y:LS=>dO y.f0.size) (l.getD k (T.df Cc)) y),hk2,g2,Int.le_trans (jf p0) p1,(g1.symm.trans (lK (F:=fun y:LS=>dO y.f0.size) (d:=(T.df Cc)) hk2).symm).trans hR⟩,Nat.sub_lt_sub_left hk2 (Nat.lt_succ_self k),ay [] rfl rfl rfl ⟨⟨rfl,congrArg i64 (eu hk2 hl)⟩,⟨rfl,rfl⟩,⟨rfl,rfl⟩,trivial⟩ trivial⟩
  ·have hk2:k=l.length:=Nat.le_antisymm hk (gY c)
   conv=>whnf
   subst hk2
   exact aC.mk ⟨rfl,rfl⟩ ⟨rfl,rfl⟩ ⟨iv (hR.symm.trans zG),trivial⟩
theorem aaE (l:List LW) (x:Int) (h0:0≤x) (h1:x≤1048576) (hl:l.length≤140737488351232) (hs:∀y∈l,(y:LW).f0.size≤140737488351232):aH T Tryz.prog 54 [.c (.sl pF l), .c (.sc (.int .i64 x))] (.c (.sc (.int .i64 (thenS (dO l.length x) (iq (fun y:LW=>dO y.f0.size) l))))):=by
 have h2:x≤4611686018427387904:=by omega
 refine aI hT Tryz.func54 (by kernel_rfl) rfl rfl (fun A=>?_)
 conv=>whnf
 refine Split.mk (fun c=>?_) (fun c=>?_)
 ·conv=>whnf
  exact aC.mk ⟨rfl,rfl⟩ ⟨rfl,rfl⟩ ⟨iv (Aq h0 h2 hl c),trivial⟩
 ·obtain⟨e1,e2,e3⟩:=Ar (K:=iq (fun y:LW=>dO y.f0.size) l) h0 h2 hl c
  rw [e1]
  generalize hR:iq (fun y:LW=>dO y.f0.size) l (wrap64 (x - (l.length:Int)))=R
  conv=>whnf
  refine dU.mk {p:Nat × Int // p.1≤l.length∧0≤p.2∧p.2≤x∧iq (fun y:LW=>dO y.f0.size) (l.drop p.1) p.2=R} (fun p=>(0,[(5,i64 p.1.1),(1,i64 p.1.2),(0,im pF l)],[])) (fun p=>l.length - p.1.1) ⟨(0,_),Nat.zero_le _,e2,e3,hR⟩ (ay [] rfl rfl rfl ⟨⟨rfl,rfl⟩,⟨rfl,rfl⟩,⟨rfl,rfl⟩,trivial⟩ trivial) ?_
  rintro⟨⟨k,y⟩,hk,p0,p1,hR⟩
  have p2:y≤4611686018427387904:=Int.le_trans p1 h2
  have p3:y≤1048576:=Int.le_trans p1 h1
  conv=>whnf
  refine Split.mk (fun c=>?_) (fun c=>?_)
  ·have hk2:k<l.length:=gX c
   conv=>whnf
   refine Need.mk (idx hk2) ?_
   conv=>whnf
   refine aG.mk _ (acJ (l.getD k (T.df pF)) y p0 p3 (hs _ (getD_mem hk2))) ?_
   conv=>whnf
   refine Split.mk (fun c=>?_) (fun c=>?_)
   ·conv=>whnf
    exact aC.mk ⟨rfl,rfl⟩ ⟨rfl,rfl⟩ ⟨iv ((hR.symm.trans (lK (F:=fun y:LW=>dO y.f0.size) (d:=(T.df pF)) hk2)).trans (zM c)),trivial⟩
   ·obtain⟨g1,g2⟩:=zO (K:=iq (fun y:LW=>dO y.f0.size) (l.drop (k+1))) c
    conv=>whnf
    exact bM.mk ⟨⟨(k+1,(fun y:LW=>dO y.f0.size) (l.getD k (T.df pF)) y),hk2,g2,Int.le_trans (jf p0) p1,(g1.symm.trans (lK (F:=fun y:LW=>dO y.f0.size) (d:=(T.df pF)) hk2).symm).trans hR⟩,Nat.sub_lt_sub_left hk2 (Nat.lt_succ_self k),ay [] rfl rfl rfl ⟨⟨rfl,congrArg i64 (eu hk2 hl)⟩,⟨rfl,rfl⟩,⟨rfl,rfl⟩,trivial⟩ trivial⟩
  ·have hk2:k=l.length:=Nat.le_antisymm hk (gY c)
   conv=>whnf
   subst hk2
   exact aC.mk ⟨rfl,rfl⟩ ⟨rfl,rfl⟩ ⟨iv (hR.symm.trans zG),trivial⟩
theorem JY {a:LK} {x:Int} (h:0≤x):qj a x≤x:=uX h (jf h) (fun h=>jf h)
theorem aax (l:List LK) (x:Int) (h0:0≤x) (h1:x≤1048576) (hl:l.length≤140737488351232) (hs:∀y∈l,(y:LK).f0.size≤140737488351232∧(y:LK).f1.length≤140737488351232):aH T Tryz.prog 119 [.c (.sl Ce l), .c (.sc (.int .i64 x))] (.c (.sc (.int .i64 (thenS (dO l.length x) (iq (qj) l))))):=by
 have h2:x≤4611686018427387904:=by omega
 refine aI hT Tryz.func119 (by kernel_rfl) rfl rfl (fun A=>?_)
 conv=>whnf
 refine Split.mk (fun c=>?_) (fun c=>?_)
 ·conv=>whnf
  exact aC.mk ⟨rfl,rfl⟩ ⟨rfl,rfl⟩ ⟨iv (Aq h0 h2 hl c),trivial⟩
 ·obtain⟨e1,e2,e3⟩:=Ar (K:=iq (qj) l) h0 h2 hl c
  rw [e1]
  generalize hR:iq (qj) l (wrap64 (x - (l.length:Int)))=R
  conv=>whnf
  refine dU.mk {p:Nat × Int // p.1≤l.length∧0≤p.2∧p.2≤x∧iq (qj) (l.drop p.1) p.2=R} (fun p=>(0,[(5,i64 p.1.1),(1,i64 p.1.2),(0,im Ce l)],[])) (fun p=>l.length - p.1.1) ⟨(0,_),Nat.zero_le _,e2,e3,hR⟩ (ay [] rfl rfl rfl ⟨⟨rfl,rfl⟩,⟨rfl,rfl⟩,⟨rfl,rfl⟩,trivial⟩ trivial) ?_
  rintro⟨⟨k,y⟩,hk,p0,p1,hR⟩
  have p2:y≤4611686018427387904:=Int.le_trans p1 h2
  have p3:y≤1048576:=Int.le_trans p1 h1
  conv=>whnf
  refine Split.mk (fun c=>?_) (fun c=>?_)
  ·have hk2:k<l.length:=gX c
   conv=>whnf
   refine Need.mk (idx hk2) ?_
   conv=>whnf
   refine aG.mk _ (acK (l.getD k (T.df Ce)) y p0 p3 (hs _ (getD_mem hk2)).1 (hs _ (getD_mem hk2)).2) ?_
   conv=>whnf
   refine Split.mk (fun c=>?_) (fun c=>?_)
   ·conv=>whnf
    exact aC.mk ⟨rfl,rfl⟩ ⟨rfl,rfl⟩ ⟨iv ((hR.symm.trans (lK (F:=qj) (d:=(T.df Ce)) hk2)).trans (zM c)),trivial⟩
   ·obtain⟨g1,g2⟩:=zO (K:=iq (qj) (l.drop (k+1))) c
    conv=>whnf
    exact bM.mk ⟨⟨(k+1,(qj) (l.getD k (T.df Ce)) y),hk2,g2,Int.le_trans (JY p0) p1,(g1.symm.trans (lK (F:=qj) (d:=(T.df Ce)) hk2).symm).trans hR⟩,Nat.sub_lt_sub_left hk2 (Nat.lt_succ_self k),ay [] rfl rfl rfl ⟨⟨rfl,congrArg i64 (eu hk2 hl)⟩,⟨rfl,rfl⟩,⟨rfl,rfl⟩,trivial⟩ trivial⟩
  ·have hk2:k=l.length:=Nat.le_antisymm hk (gY c)
   conv=>whnf
   subst hk2
   exact aC.mk ⟨rfl,rfl⟩ ⟨rfl,rfl⟩ ⟨iv (hR.symm.trans zG),trivial⟩
theorem U7 (l:List LN) (x:Int) (h0:0≤x) (h1:x≤1048576) (hl:l.length≤140737488351232) (F:LN→Int→Int) (ih:∀a∈l,∀x,0≤x→x≤1048576→aH T Tryz.prog 18 [.ag (T.cells su a), .c (.sc (.int .i64 x))] (.c (.sc (.int .i64 (F a x))))∧F a x≤x):aH T Tryz.prog 93 [.c (.sl su l), .c (.sc (.int .i64 x))] (.c (.sc (.int .i64 (thenS (dO l.length x) (iq (F) l))))):=by
 have h2:x≤4611686018427387904:=by omega
 refine aI hT Tryz.func93 (by kernel_rfl) rfl rfl (fun A=>?_)
 conv=>whnf
 refine Split.mk (fun c=>?_) (fun c=>?_)
 ·conv=>whnf
  exact aC.mk ⟨rfl,rfl⟩ ⟨rfl,rfl⟩ ⟨iv (Aq h0 h2 hl c),trivial⟩
 ·obtain⟨e1,e2,e3⟩:=Ar (K:=iq (F) l) h0 h2 hl c
  rw [e1]
  generalize hR:iq (F) l (wrap64 (x - (l.length:Int)))=R
  conv=>whnf
  refine dU.mk {p:Nat × Int // p.1≤l.length∧0≤p.2∧p.2≤x∧iq (F) (l.drop p.1) p.2=R} (fun p=>(0,[(5,i64 p.1.1),(1,i64 p.1.2),(0,im su l)],[])) (fun p=>l.length - p.1.1) ⟨(0,_),Nat.zero_le _,e2,e3,hR⟩ (ay [] rfl rfl rfl ⟨⟨rfl,rfl⟩,⟨rfl,rfl⟩,⟨rfl,rfl⟩,trivial⟩ trivial) ?_
  rintro⟨⟨k,y⟩,hk,p0,p1,hR⟩
  have p2:y≤4611686018427387904:=Int.le_trans p1 h2
  have p3:y≤1048576:=Int.le_trans p1 h1
  conv=>whnf
  refine Split.mk (fun c=>?_) (fun c=>?_)
  ·have hk2:k<l.length:=gX c
   conv=>whnf
   refine Need.mk (idx hk2) ?_
   conv=>whnf
   refine aG.mk _ ((ih (l.getD k (T.df su)) (getD_mem hk2) y p0 p3).1) ?_
   conv=>whnf
   refine Split.mk (fun c=>?_) (fun c=>?_)
   ·conv=>whnf
    exact aC.mk ⟨rfl,rfl⟩ ⟨rfl,rfl⟩ ⟨iv ((hR.symm.trans (lK (F:=F) (d:=(T.df su)) hk2)).trans (zM c)),trivial⟩
   ·obtain⟨g1,g2⟩:=zO (K:=iq (F) (l.drop (k+1))) c
    conv=>whnf
    exact bM.mk ⟨⟨(k+1,(F) (l.getD k (T.df su)) y),hk2,g2,Int.le_trans ((ih (l.getD k (T.df su)) (getD_mem hk2) y p0 p3).2) p1,(g1.symm.trans (lK (F:=F) (d:=(T.df su)) hk2).symm).trans hR⟩,Nat.sub_lt_sub_left hk2 (Nat.lt_succ_self k),ay [] rfl rfl rfl ⟨⟨rfl,congrArg i64 (eu hk2 hl)⟩,⟨rfl,rfl⟩,⟨rfl,rfl⟩,trivial⟩ trivial⟩
  ·have hk2:k=l.length:=Nat.le_antisymm hk (gY c)
   conv=>whnf
   subst hk2
   exact aC.mk ⟨rfl,rfl⟩ ⟨rfl,rfl⟩ ⟨iv (hR.symm.trans zG),trivial⟩
theorem JW {α:Type} {F:α→Int→Int} (hF:∀a x,0≤x→F a x<0→F a x= -1):∀{l:List α} {x:Int},0≤x→iq F l x<0→iq F l x= -1
 | [],x,h,h2=>by have:x<0:=h2;omega
 | a::l,x,h,h2=>by
   show thenS _ _= -1
   replace h2:thenS (F a x) (iq F l)<0:=h2
   by_cases hr:F a x<0
   ·unfold thenS;rw [if_pos hr]
   ·unfold thenS at*;rw [if_neg hr] at*;exact JW hF (by omega) h2
theorem RD {n:Nat} {x:Int} (h:dO n x<0):dO n x= -1:=by unfold dO at*;split<;>simp_all
theorem aev {l:List LS} {x:Int} (c:decide (thenS (dO l.length x) (iq (fun y:LS=>dO y.f0.size) l)<0)=true):thenS (dO l.length x) (iq (fun y:LS=>dO y.f0.size) l)= -1:=by
 have h:=JX c
 by_cases hr:dO l.length x<0
 ·unfold thenS;rw [if_pos hr]
 ·unfold thenS at*;rw [if_neg hr] at*;exact JW (fun a x _ h=>RD h) (by omega) h
abbrev Fa (l:List ByteArray) (x:Int):Int:=thenS (dO l.length x) (iq (fun y:ByteArray=>dO y.size) l)
abbrev BD (l:List LS) (x:Int):Int:=thenS (dO l.length x) (iq (fun y:LS=>dO y.f0.size) l)
theorem Oj {l:List ByteArray} {x:Int} (h:0≤x):Fa l x≤x:=uX h (jf h) (fun h=>qY (fun a _ x hx=>jf hx) h)
theorem acM {l:List LS} {x:Int} (h:0≤x):BD l x≤x:=uX h (jf h) (fun h=>qY (fun a _ x hx=>jf hx) h)
mutual
def ny:LN→Int→Int
 | ⟨a,b,c⟩,x=>thenS (Fa a x) fun x=>thenS (thenS (dO b.length x) (Qe b)) fun x=>BD c x
def Qe:List LN→Int→Int
 | [],x=>x
 | a::l,x=>thenS (ny a x) (Qe l)
end
theorem Ti:∀l:List LN,Qe l=iq ny l
 | []=>by funext x;rw [Qe];rfl
 | a::l=>by funext x;rw [Qe,Ti l];rfl
theorem Oi (n:LN) (x:Int):ny n x=thenS (Fa n.f0 x) fun x=>thenS (thenS (dO n.f1.length x) (iq ny n.f1)) fun x=>BD n.f2 x:=by cases n;rw [ny,Ti]
inductive yw:LN→Prop
 | mk (n:LN) (h0:n.f0.length≤140737488351232) (z0:∀y∈n.f0,(y:ByteArray).size≤140737488351232) (h1:n.f1.length≤140737488351232) (h2:n.f2.length≤140737488351232) (z2:∀y∈n.f2,(y:LS).f0.size≤140737488351232) (hk:∀k∈n.f1,yw k):yw n
theorem yw.kid {n:LN} (h:yw n):∀k∈n.f1,yw k:=by cases h;assumption
theorem wE:∀(n:LN) {x:Int},0≤x→ny n x≤x:=fun n x h=>by
 rw [Oi]
 exact uX h (Oj h) (fun h=>uX h (uX h (jf h) (fun h=>qY (fun a ha x hx=>wE a hx) h)) (fun h=>acM h))
termination_by n=>SizeOf.sizeOf n
decreasing_by exact yU ha
theorem XY (a:LN) (ha:yw a) (x:Int) (h0:0≤x) (h1:x≤1048576) (ih:∀x,0≤x→x≤1048576→aH T Tryz.prog 93 [.c (.sl su a.f1), .c (.sc (.int .i64 x))] (.c (.sc (.int .i64 (thenS (dO a.f1.length x) (iq ny a.f1)))))):aH T Tryz.prog 18 [.ag (T.cells su a), .c (.sc (.int .i64 x))] (.c (.sc (.int .i64 (ny a x)))):=by
 obtain⟨_,l0,z0,l1,l2,z2,_⟩:=ha
 rw [Oi]
 refine aI hT Tryz.func18 (by kernel_rfl) rfl rfl (fun A=>?_)
 conv=>whnf
 refine aG.mk _ (XW a.f0 x h0 h1 l0 z0) ?_
 conv=>whnf
 refine Split.mk (fun c=>?_) (fun c=>?_)
 ·conv=>whnf
  exact aC.mk ⟨rfl,rfl⟩ ⟨rfl,rfl⟩ ⟨iv (zM c),trivial⟩
 obtain⟨g1,g2⟩:=zO (K:=fun x=>thenS (thenS (dO a.f1.length x) (iq ny a.f1)) fun x=>BD a.f2 x) c
 have g3:Fa a.f0 x≤1048576:=Int.le_trans (Oj h0) h1
 rw [g1]
 clear c g1
 conv=>whnf
 refine aG.mk _ (ih _ g2 g3) ?_
 conv=>whnf
 refine Split.mk (fun c=>?_) (fun c=>?_)
 ·conv=>whnf
  exact aC.mk ⟨rfl,rfl⟩ ⟨rfl,rfl⟩ ⟨iv (zM c),trivial⟩
 obtain⟨g4,g5⟩:=zO (K:=fun x=>BD a.f2 x) c
 have g6:thenS (dO a.f1.length (Fa a.f0 x)) (iq ny a.f1)≤1048576:=Int.le_trans (uX g2 (jf g2) (fun h=>qY (fun a _ x hx=>wE a hx) h)) g3
 rw [g4]
 clear c g4
 conv=>whnf
 refine aG.mk _ (acL a.f2 _ g5 g6 l2 z2) ?_
 conv=>whnf
 refine Split.mk (fun c=>?_) (fun c=>?_)
 ·conv=>whnf
  exact aC.mk ⟨rfl,rfl⟩ ⟨rfl,rfl⟩ ⟨iv (aev c),trivial⟩
 ·conv=>whnf
  exact aC.mk ⟨rfl,rfl⟩ ⟨rfl,rfl⟩ ⟨rfl,trivial⟩
theorem V3:∀(a:LN),yw a→∀(x:Int) (h0:0≤x) (h1:x≤1048576),aH T Tryz.prog 18 [.ag (T.cells su a), .c (.sc (.int .i64 x))] (.c (.sc (.int .i64 (ny a x)))):=fun a ha x h0 h1=>
 XY a ha x h0 h1 (fun y g0 g1=>U7 a.f1 y g0 g1 (by cases ha;assumption) ny (fun k hk z z0 z1=>⟨V3 k (ha.kid k hk) z z0 z1,wE k z0⟩))
termination_by a=>SizeOf.sizeOf a
decreasing_by exact yU hk
end Go.Proofs.YtcnfgfomholheaaGreatDoor.Q
end
