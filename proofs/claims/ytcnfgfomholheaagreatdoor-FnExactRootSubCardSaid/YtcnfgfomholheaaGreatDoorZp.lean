/- Several texts of this claim in one (a claim holds at most 60 files). -/
import Derived.Test.YtcnfgfomholheaaGreatDoorZT
import Derived.Test.YtcnfgfomholheaaGreatDoorZc
import Derived.Test.YtcnfgfomholheaaGreatDoorT5
import Derived.Test.YtcnfgfomholheaaGreatDoorT7
import Derived.Test.YtcnfgfomholheaaGreatDoorPx8
section
namespace Go.Proofs.YtcnfgfomholheaaGreatDoor.Q
open Go.RowKit Go.Proofs.YtcnfgfomholheaaGreatDoor.Z
set_option linter.unusedVariables false
set_option linter.unusedSimpArgs false
set_option maxRecDepth 100000
set_option maxHeartbeats 4000000
abbrev i64 (n:Int):Slot T:= .c (.sc (.int .i64 n))
abbrev im (e:Nat) (l:List (T.Tb e)):Slot T:= .c (.im none e l)
abbrev eN:Nat:=31
abbrev eS:Nat:=44
abbrev eK:Nat:=121
abbrev eW:Nat:=113
abbrev eE:Nat:=96
abbrev sU:Nat:=26
abbrev Dw:Nat:=41
abbrev Dx:Nat:=186
abbrev pY:Nat:=142
abbrev SN:=Dj
abbrev SS:=GY
abbrev SK:=CO
abbrev SW:=oz
abbrev SE:=Ko
abbrev LN:=wV
abbrev LS:=zF
abbrev LK:=vJ
abbrev LW:=vI
theorem adF (a b:List Int) (ha:a.length≤140737488351232):aG T Tryz.prog 58 [.c (.sl 3 a), .c (.sl 3 b)] (.c (.sc (.bool (same a b)))):=by
 refine aH hT Tryz.func58 (by kernel_rfl) rfl rfl (fun A=>?_)
 conv=>whnf
 refine Split.mk (fun c=>?_) (fun c=>?_)
 ·conv=>whnf
  exact aC.mk ⟨rfl,rfl⟩ ⟨rfl,rfl⟩ ⟨bv (gG (fun e=>BP c (congrArg List.length e))),trivial⟩
 ·have hl:a.length=b.length:=BO c
  conv=>whnf
  refine dF.mk {k:Nat // k≤a.length∧a.take k=b.take k} (fun p=>(0,[(5,i64 p.1),(0,im 3 a),(1,im 3 b)],[])) (fun p=>a.length - p.1) ⟨0,Nat.zero_le _,rfl⟩ (aA [] rfl rfl rfl ⟨⟨rfl,rfl⟩,⟨rfl,rfl⟩,⟨rfl,rfl⟩,trivial⟩ trivial) ?_
  rintro⟨k,hk,ht⟩
  conv=>whnf
  refine Split.mk (fun c=>?_) (fun c=>?_)
  ·have hk2:k<a.length:=fQ c
   conv=>whnf
   refine Need.mk (idx hk2) ?_
   conv=>whnf
   refine Need.mk (idx (hl▸hk2)) ?_
   conv=>whnf
   refine aT.mk ⟨by kernel_rfl,by kernel_rfl⟩ ?_
   conv=>whnf
   refine Split.mk (fun c=>?_) (fun c=>?_)
   ·conv=>whnf
    exact aC.mk ⟨rfl,rfl⟩ ⟨rfl,rfl⟩ ⟨bv (gG (fun e=>rV c (congrArg (fun l=>l.getD k (T.df 3)) e))),trivial⟩
   ·conv=>whnf
    exact bF.mk ⟨⟨k+1,hk2,o7 (d:=(T.df 3)) hk2 (hl▸hk2) ht (Hg c)⟩,Nat.sub_lt_sub_left hk2 (Nat.lt_succ_self k),aA [] rfl rfl rfl ⟨⟨rfl,congrArg i64 (dO hk2 ha)⟩,⟨rfl,rfl⟩,⟨rfl,rfl⟩,trivial⟩ trivial⟩
  ·have hk2:k=a.length:=Nat.le_antisymm hk (fZ c)
   conv=>whnf
   subst hk2
   exact aC.mk ⟨rfl,rfl⟩ ⟨rfl,rfl⟩ ⟨bv (nT (qI hl ht)),trivial⟩
theorem Zf (a b:List ByteArray) (ha:a.length≤140737488351232):aG T Tryz.prog 47 [.c (.sl 9 a), .c (.sl 9 b)] (.c (.sc (.bool (same a b)))):=by
 refine aH hT Tryz.func47 (by kernel_rfl) rfl rfl (fun A=>?_)
 conv=>whnf
 refine Split.mk (fun c=>?_) (fun c=>?_)
 ·conv=>whnf
  exact aC.mk ⟨rfl,rfl⟩ ⟨rfl,rfl⟩ ⟨bv (gG (fun e=>BP c (congrArg List.length e))),trivial⟩
 ·have hl:a.length=b.length:=BO c
  conv=>whnf
  refine dF.mk {k:Nat // k≤a.length∧a.take k=b.take k} (fun p=>(0,[(5,i64 p.1),(0,im 9 a),(1,im 9 b)],[])) (fun p=>a.length - p.1) ⟨0,Nat.zero_le _,rfl⟩ (aA [] rfl rfl rfl ⟨⟨rfl,rfl⟩,⟨rfl,rfl⟩,⟨rfl,rfl⟩,trivial⟩ trivial) ?_
  rintro⟨k,hk,ht⟩
  conv=>whnf
  refine Split.mk (fun c=>?_) (fun c=>?_)
  ·have hk2:k<a.length:=fQ c
   conv=>whnf
   refine Need.mk (idx hk2) ?_
   conv=>whnf
   refine Need.mk (idx (hl▸hk2)) ?_
   conv=>whnf
   refine aT.mk ⟨by kernel_rfl,by kernel_rfl⟩ ?_
   conv=>whnf
   refine Split.mk (fun c=>?_) (fun c=>?_)
   ·conv=>whnf
    exact aC.mk ⟨rfl,rfl⟩ ⟨rfl,rfl⟩ ⟨bv (gG (fun e=>Ik c (congrArg (fun l=>l.getD k (T.df 9)) e))),trivial⟩
   ·conv=>whnf
    exact bF.mk ⟨⟨k+1,hk2,o7 (d:=(T.df 9)) hk2 (hl▸hk2) ht (WR c)⟩,Nat.sub_lt_sub_left hk2 (Nat.lt_succ_self k),aA [] rfl rfl rfl ⟨⟨rfl,congrArg i64 (dO hk2 ha)⟩,⟨rfl,rfl⟩,⟨rfl,rfl⟩,trivial⟩ trivial⟩
  ·have hk2:k=a.length:=Nat.le_antisymm hk (fZ c)
   conv=>whnf
   subst hk2
   exact aC.mk ⟨rfl,rfl⟩ ⟨rfl,rfl⟩ ⟨bv (nT (qI hl ht)),trivial⟩
theorem ac7 (a b:List Int) (ha:a.length≤140737488351232):aG T Tryz.prog 52 [.c (.sl 5 a), .c (.sl 5 b)] (.c (.sc (.bool (same a b)))):=by
 refine aH hT Tryz.func52 (by kernel_rfl) rfl rfl (fun A=>?_)
 conv=>whnf
 refine Split.mk (fun c=>?_) (fun c=>?_)
 ·conv=>whnf
  exact aC.mk ⟨rfl,rfl⟩ ⟨rfl,rfl⟩ ⟨bv (gG (fun e=>BP c (congrArg List.length e))),trivial⟩
 ·have hl:a.length=b.length:=BO c
  conv=>whnf
  refine dF.mk {k:Nat // k≤a.length∧a.take k=b.take k} (fun p=>(0,[(5,i64 p.1),(0,im 5 a),(1,im 5 b)],[])) (fun p=>a.length - p.1) ⟨0,Nat.zero_le _,rfl⟩ (aA [] rfl rfl rfl ⟨⟨rfl,rfl⟩,⟨rfl,rfl⟩,⟨rfl,rfl⟩,trivial⟩ trivial) ?_
  rintro⟨k,hk,ht⟩
  conv=>whnf
  refine Split.mk (fun c=>?_) (fun c=>?_)
  ·have hk2:k<a.length:=fQ c
   conv=>whnf
   refine Need.mk (idx hk2) ?_
   conv=>whnf
   refine Need.mk (idx (hl▸hk2)) ?_
   conv=>whnf
   refine aT.mk ⟨by kernel_rfl,by kernel_rfl⟩ ?_
   conv=>whnf
   refine Split.mk (fun c=>?_) (fun c=>?_)
   ·conv=>whnf
    exact aC.mk ⟨rfl,rfl⟩ ⟨rfl,rfl⟩ ⟨bv (gG (fun e=>rV c (congrArg (fun l=>l.getD k (T.df 5)) e))),trivial⟩
   ·conv=>whnf
    exact bF.mk ⟨⟨k+1,hk2,o7 (d:=(T.df 5)) hk2 (hl▸hk2) ht (Hg c)⟩,Nat.sub_lt_sub_left hk2 (Nat.lt_succ_self k),aA [] rfl rfl rfl ⟨⟨rfl,congrArg i64 (dO hk2 ha)⟩,⟨rfl,rfl⟩,⟨rfl,rfl⟩,trivial⟩ trivial⟩
  ·have hk2:k=a.length:=Nat.le_antisymm hk (fZ c)
   conv=>whnf
   subst hk2
   exact aC.mk ⟨rfl,rfl⟩ ⟨rfl,rfl⟩ ⟨bv (nT (qI hl ht)),trivial⟩
theorem aa5 {a b:SS} (h0:a.f0=b.f0) (h1:a.f1=b.f1) (h2:a.f2=b.f2):a=b:=by cases a;cases b;simp_all
theorem afk (a b:SS):aG T Tryz.prog 117 [.ag (T.cells eS a), .ag (T.cells eS b)] (.c (.sc (.bool (same a b)))):=by
 refine aH hT Tryz.func117 (by kernel_rfl) rfl rfl (fun A=>?_)
 conv=>whnf
 refine Split.mk (fun c=>?_) (fun c=>?_)
 ·conv=>whnf
  exact aC.mk ⟨rfl,rfl⟩ ⟨rfl,rfl⟩ ⟨bv (gG (fun e=>Ik c (congrArg (fun z:SS=>z.f0) e))),trivial⟩
 have c0:a.f0=b.f0:=WR c
 clear c
 conv=>whnf
 refine Split.mk (fun c=>?_) (fun c=>?_)
 ·conv=>whnf
  exact aC.mk ⟨rfl,rfl⟩ ⟨rfl,rfl⟩ ⟨bv (gG (fun e=>rV c (congrArg (fun z:SS=>z.f1) e))),trivial⟩
 have c1:a.f1=b.f1:=Hg c
 clear c
 conv=>whnf
 refine Split.mk (fun c=>?_) (fun c=>?_)
 ·conv=>whnf
  exact aC.mk ⟨rfl,rfl⟩ ⟨rfl,rfl⟩ ⟨bv (gG (fun e=>rV c (congrArg (fun z:SS=>z.f2) e))),trivial⟩
 have c2:a.f2=b.f2:=Hg c
 clear c
 conv=>whnf
 exact aC.mk ⟨rfl,rfl⟩ ⟨rfl,rfl⟩ ⟨bv (nT (aa5 c0 c1 c2)),trivial⟩
theorem ael (a b:List SS) (ha:a.length≤140737488351232):aG T Tryz.prog 33 [.c (.sl eS a), .c (.sl eS b)] (.c (.sc (.bool (same a b)))):=by
 refine aH hT Tryz.func33 (by kernel_rfl) rfl rfl (fun A=>?_)
 conv=>whnf
 refine Split.mk (fun c=>?_) (fun c=>?_)
 ·conv=>whnf
  exact aC.mk ⟨rfl,rfl⟩ ⟨rfl,rfl⟩ ⟨bv (gG (fun e=>BP c (congrArg List.length e))),trivial⟩
 ·have hl:a.length=b.length:=BO c
  conv=>whnf
  refine dF.mk {k:Nat // k≤a.length∧a.take k=b.take k} (fun p=>(0,[(5,i64 p.1),(0,im eS a),(1,im eS b)],[])) (fun p=>a.length - p.1) ⟨0,Nat.zero_le _,rfl⟩ (aA [] rfl rfl rfl ⟨⟨rfl,rfl⟩,⟨rfl,rfl⟩,⟨rfl,rfl⟩,trivial⟩ trivial) ?_
  rintro⟨k,hk,ht⟩
  conv=>whnf
  refine Split.mk (fun c=>?_) (fun c=>?_)
  ·have hk2:k<a.length:=fQ c
   conv=>whnf
   refine Need.mk (idx hk2) ?_
   conv=>whnf
   refine Need.mk (idx (hl▸hk2)) ?_
   conv=>whnf
   refine ak.mk _ (afk _ _) ?_
   conv=>whnf
   refine aT.mk ⟨by kernel_rfl,by kernel_rfl⟩ ?_
   conv=>whnf
   refine Split.mk (fun c=>?_) (fun c=>?_)
   ·conv=>whnf
    exact aC.mk ⟨rfl,rfl⟩ ⟨rfl,rfl⟩ ⟨bv (gG (fun e=>gJ (bU c) (congrArg (fun l=>l.getD k (T.df eS)) e))),trivial⟩
   ·conv=>whnf
    exact bF.mk ⟨⟨k+1,hk2,o7 (d:=(T.df eS)) hk2 (hl▸hk2) ht (of_same (dn c))⟩,Nat.sub_lt_sub_left hk2 (Nat.lt_succ_self k),aA [] rfl rfl rfl ⟨⟨rfl,congrArg i64 (dO hk2 ha)⟩,⟨rfl,rfl⟩,⟨rfl,rfl⟩,trivial⟩ trivial⟩
  ·have hk2:k=a.length:=Nat.le_antisymm hk (fZ c)
   conv=>whnf
   subst hk2
   exact aC.mk ⟨rfl,rfl⟩ ⟨rfl,rfl⟩ ⟨bv (nT (qI hl ht)),trivial⟩
theorem Zg {a b:SW} (h0:a.f0=b.f0) (h1:a.f1=b.f1):a=b:=by cases a;cases b;simp_all
theorem aem (a b:SW):aG T Tryz.prog 129 [.ag (T.cells eW a), .ag (T.cells eW b)] (.c (.sc (.bool (same a b)))):=by
 refine aH hT Tryz.func129 (by kernel_rfl) rfl rfl (fun A=>?_)
 conv=>whnf
 refine Split.mk (fun c=>?_) (fun c=>?_)
 ·conv=>whnf
  exact aC.mk ⟨rfl,rfl⟩ ⟨rfl,rfl⟩ ⟨bv (gG (fun e=>Ik c (congrArg (fun z:SW=>z.f0) e))),trivial⟩
 have c0:a.f0=b.f0:=WR c
 clear c
 conv=>whnf
 refine Split.mk (fun c=>?_) (fun c=>?_)
 ·conv=>whnf
  exact aC.mk ⟨rfl,rfl⟩ ⟨rfl,rfl⟩ ⟨bv (gG (fun e=>rV c (congrArg (fun z:SW=>z.f1) e))),trivial⟩
 have c1:a.f1=b.f1:=Hg c
 clear c
 conv=>whnf
 exact aC.mk ⟨rfl,rfl⟩ ⟨rfl,rfl⟩ ⟨bv (nT (Zg c0 c1)),trivial⟩
theorem acH (a b:List SW) (ha:a.length≤140737488351232):aG T Tryz.prog 59 [.c (.sl eW a), .c (.sl eW b)] (.c (.sc (.bool (same a b)))):=by
 refine aH hT Tryz.func59 (by kernel_rfl) rfl rfl (fun A=>?_)
 conv=>whnf
 refine Split.mk (fun c=>?_) (fun c=>?_)
 ·conv=>whnf
  exact aC.mk ⟨rfl,rfl⟩ ⟨rfl,rfl⟩ ⟨bv (gG (fun e=>BP c (congrArg List.length e))),trivial⟩
 ·have hl:a.length=b.length:=BO c
  conv=>whnf
  refine dF.mk {k:Nat // k≤a.length∧a.take k=b.take k} (fun p=>(0,[(5,i64 p.1),(0,im eW a),(1,im eW b)],[])) (fun p=>a.length - p.1) ⟨0,Nat.zero_le _,rfl⟩ (aA [] rfl rfl rfl ⟨⟨rfl,rfl⟩,⟨rfl,rfl⟩,⟨rfl,rfl⟩,trivial⟩ trivial) ?_
  rintro⟨k,hk,ht⟩
  conv=>whnf
  refine Split.mk (fun c=>?_) (fun c=>?_)
  ·have hk2:k<a.length:=fQ c
   conv=>whnf
   refine Need.mk (idx hk2) ?_
   conv=>whnf
   refine Need.mk (idx (hl▸hk2)) ?_
   conv=>whnf
   refine ak.mk _ (aem _ _) ?_
   conv=>whnf
   refine aT.mk ⟨by kernel_rfl,by kernel_rfl⟩ ?_
   conv=>whnf
   refine Split.mk (fun c=>?_) (fun c=>?_)
   ·conv=>whnf
    exact aC.mk ⟨rfl,rfl⟩ ⟨rfl,rfl⟩ ⟨bv (gG (fun e=>gJ (bU c) (congrArg (fun l=>l.getD k (T.df eW)) e))),trivial⟩
   ·conv=>whnf
    exact bF.mk ⟨⟨k+1,hk2,o7 (d:=(T.df eW)) hk2 (hl▸hk2) ht (of_same (dn c))⟩,Nat.sub_lt_sub_left hk2 (Nat.lt_succ_self k),aA [] rfl rfl rfl ⟨⟨rfl,congrArg i64 (dO hk2 ha)⟩,⟨rfl,rfl⟩,⟨rfl,rfl⟩,trivial⟩ trivial⟩
  ·have hk2:k=a.length:=Nat.le_antisymm hk (fZ c)
   conv=>whnf
   subst hk2
   exact aC.mk ⟨rfl,rfl⟩ ⟨rfl,rfl⟩ ⟨bv (nT (qI hl ht)),trivial⟩
theorem Zh {a b:SK} (h0:a.f0=b.f0) (h1:a.f1=b.f1) (h2:a.f2=b.f2):a=b:=by cases a;cases b;simp_all
theorem aen (a b:SK) (ha:a.f1.length≤140737488351232):aG T Tryz.prog 132 [.ag (T.cells eK a), .ag (T.cells eK b)] (.c (.sc (.bool (same a b)))):=by
 refine aH hT Tryz.func132 (by kernel_rfl) rfl rfl (fun A=>?_)
 conv=>whnf
 refine Split.mk (fun c=>?_) (fun c=>?_)
 ·conv=>whnf
  exact aC.mk ⟨rfl,rfl⟩ ⟨rfl,rfl⟩ ⟨bv (gG (fun e=>Ik c (congrArg (fun z:SK=>z.f0) e))),trivial⟩
 have c0:a.f0=b.f0:=WR c
 clear c
 conv=>whnf
 refine ak.mk _ (ac7 a.f1 b.f1 ha) ?_
 conv=>whnf
 refine Split.mk (fun c=>?_) (fun c=>?_)
 ·conv=>whnf
  exact aC.mk ⟨rfl,rfl⟩ ⟨rfl,rfl⟩ ⟨bv (gG (fun e=>gJ (bU c) (congrArg (fun z:SK=>z.f1) e))),trivial⟩
 have c1:a.f1=b.f1:=of_same (dn c)
 clear c
 conv=>whnf
 refine Split.mk (fun c=>?_) (fun c=>?_)
 ·conv=>whnf
  exact aC.mk ⟨rfl,rfl⟩ ⟨rfl,rfl⟩ ⟨bv (gG (fun e=>rV c (congrArg (fun z:SK=>z.f2) e))),trivial⟩
 have c2:a.f2=b.f2:=Hg c
 clear c
 conv=>whnf
 exact aC.mk ⟨rfl,rfl⟩ ⟨rfl,rfl⟩ ⟨bv (nT (Zh c0 c1 c2)),trivial⟩
theorem aco (a b:List SK) (ha:a.length≤140737488351232) (hb:∀y∈a,y.f1.length≤140737488351232):aG T Tryz.prog 66 [.c (.sl eK a), .c (.sl eK b)] (.c (.sc (.bool (same a b)))):=by
 refine aH hT Tryz.func66 (by kernel_rfl) rfl rfl (fun A=>?_)
 conv=>whnf
 refine Split.mk (fun c=>?_) (fun c=>?_)
 ·conv=>whnf
  exact aC.mk ⟨rfl,rfl⟩ ⟨rfl,rfl⟩ ⟨bv (gG (fun e=>BP c (congrArg List.length e))),trivial⟩
 ·have hl:a.length=b.length:=BO c
  conv=>whnf
  refine dF.mk {k:Nat // k≤a.length∧a.take k=b.take k} (fun p=>(0,[(5,i64 p.1),(0,im eK a),(1,im eK b)],[])) (fun p=>a.length - p.1) ⟨0,Nat.zero_le _,rfl⟩ (aA [] rfl rfl rfl ⟨⟨rfl,rfl⟩,⟨rfl,rfl⟩,⟨rfl,rfl⟩,trivial⟩ trivial) ?_
  rintro⟨k,hk,ht⟩
  conv=>whnf
  refine Split.mk (fun c=>?_) (fun c=>?_)
  ·have hk2:k<a.length:=fQ c
   conv=>whnf
   refine Need.mk (idx hk2) ?_
   conv=>whnf
   refine Need.mk (idx (hl▸hk2)) ?_
   conv=>whnf
   refine ak.mk _ (aen _ _ (hb _ (getD_mem hk2))) ?_
   conv=>whnf
   refine aT.mk ⟨by kernel_rfl,by kernel_rfl⟩ ?_
   conv=>whnf
   refine Split.mk (fun c=>?_) (fun c=>?_)
   ·conv=>whnf
    exact aC.mk ⟨rfl,rfl⟩ ⟨rfl,rfl⟩ ⟨bv (gG (fun e=>gJ (bU c) (congrArg (fun l=>l.getD k (T.df eK)) e))),trivial⟩
   ·conv=>whnf
    exact bF.mk ⟨⟨k+1,hk2,o7 (d:=(T.df eK)) hk2 (hl▸hk2) ht (of_same (dn c))⟩,Nat.sub_lt_sub_left hk2 (Nat.lt_succ_self k),aA [] rfl rfl rfl ⟨⟨rfl,congrArg i64 (dO hk2 ha)⟩,⟨rfl,rfl⟩,⟨rfl,rfl⟩,trivial⟩ trivial⟩
  ·have hk2:k=a.length:=Nat.le_antisymm hk (fZ c)
   conv=>whnf
   subst hk2
   exact aC.mk ⟨rfl,rfl⟩ ⟨rfl,rfl⟩ ⟨bv (nT (qI hl ht)),trivial⟩
inductive Bd:SN→Prop
 | mk (n:SN) (h0:n.f0.length≤2097152) (z0:∀x∈n.f0,x.size≤1048576) (h1:n.f1.length≤2097152) (h2:n.f2.length≤2097152) (z2:∀x∈n.f2,x.f0.size≤1048576) (hk:∀k∈n.f1,Bd k):Bd n
theorem Bd.l0 {n:SN} (h:Bd n):n.f0.length≤2097152:=by cases h;assumption
theorem Bd.z0 {n:SN} (h:Bd n):∀x∈n.f0,x.size≤1048576:=by cases h;assumption
theorem Bd.l1 {n:SN} (h:Bd n):n.f1.length≤2097152:=by cases h;assumption
theorem Bd.l2 {n:SN} (h:Bd n):n.f2.length≤2097152:=by cases h;assumption
theorem Bd.z2 {n:SN} (h:Bd n):∀x∈n.f2,x.f0.size≤1048576:=by cases h;assumption
theorem Bd.kid {n:SN} (h:Bd n):∀k∈n.f1,Bd k:=by cases h;assumption
theorem kG {n k:SN} (h:k∈n.f1):SizeOf.sizeOf k<SizeOf.sizeOf n:=by
 cases n with
 | mk a b c=>
   have h2:=List.sizeOf_lt_of_mem h
   simp only [Dj.mk.sizeOf_spec] at h2⊢
   omega
theorem zH {n k:LN} (h:k∈n.f1):SizeOf.sizeOf k<SizeOf.sizeOf n:=by
 cases n with
 | mk a b c=>
   have h2:=List.sizeOf_lt_of_mem h
   simp only [wV.mk.sizeOf_spec] at h2⊢
   omega
theorem Xk (a b:List SN) (ha:a.length≤140737488351232) (ih:∀k∈a,∀b:SN,aG T Tryz.prog 22 [.ag (T.cells eN k), .ag (T.cells eN b)] (.c (.sc (.bool (same k b))))):aG T Tryz.prog 102 [.c (.sl eN a), .c (.sl eN b)] (.c (.sc (.bool (same a b)))):=by
 refine aH hT Tryz.func102 (by kernel_rfl) rfl rfl (fun A=>?_)
 conv=>whnf
 refine Split.mk (fun c=>?_) (fun c=>?_)
 ·conv=>whnf
  exact aC.mk ⟨rfl,rfl⟩ ⟨rfl,rfl⟩ ⟨bv (gG (fun e=>BP c (congrArg List.length e))),trivial⟩
 ·have hl:a.length=b.length:=BO c
  conv=>whnf
  refine dF.mk {k:Nat // k≤a.length∧a.take k=b.take k} (fun p=>(0,[(5,i64 p.1),(0,im eN a),(1,im eN b)],[])) (fun p=>a.length - p.1) ⟨0,Nat.zero_le _,rfl⟩ (aA [] rfl rfl rfl ⟨⟨rfl,rfl⟩,⟨rfl,rfl⟩,⟨rfl,rfl⟩,trivial⟩ trivial) ?_
  rintro⟨k,hk,ht⟩
  conv=>whnf
  refine Split.mk (fun c=>?_) (fun c=>?_)
  ·have hk2:k<a.length:=fQ c
   conv=>whnf
   refine Need.mk (idx hk2) ?_
   conv=>whnf
   refine Need.mk (idx (hl▸hk2)) ?_
   conv=>whnf
   refine ak.mk _ (ih _ (getD_mem hk2) _) ?_
   conv=>whnf
   refine aT.mk ⟨by kernel_rfl,by kernel_rfl⟩ ?_
   conv=>whnf
   refine Split.mk (fun c=>?_) (fun c=>?_)
   ·conv=>whnf
    exact aC.mk ⟨rfl,rfl⟩ ⟨rfl,rfl⟩ ⟨bv (gG (fun e=>gJ (bU c) (congrArg (fun l=>l.getD k (T.df eN)) e))),trivial⟩
   ·conv=>whnf
    exact bF.mk ⟨⟨k+1,hk2,o7 (d:=(T.df eN)) hk2 (hl▸hk2) ht (of_same (dn c))⟩,Nat.sub_lt_sub_left hk2 (Nat.lt_succ_self k),aA [] rfl rfl rfl ⟨⟨rfl,congrArg i64 (dO hk2 ha)⟩,⟨rfl,rfl⟩,⟨rfl,rfl⟩,trivial⟩ trivial⟩
  ·have hk2:k=a.length:=Nat.le_antisymm hk (fZ c)
   conv=>whnf
   subst hk2
   exact aC.mk ⟨rfl,rfl⟩ ⟨rfl,rfl⟩ ⟨bv (nT (qI hl ht)),trivial⟩
theorem RX {a b:SN} (h0:a.f0=b.f0) (h1:a.f1=b.f1) (h2:a.f2=b.f2):a=b:=by cases a;cases b;simp_all
theorem Zi (a b:SN) (ha:Bd a) (ih:∀b:List SN,aG T Tryz.prog 102 [.c (.sl eN a.f1), .c (.sl eN b)] (.c (.sc (.bool (same a.f1 b))))):aG T Tryz.prog 22 [.ag (T.cells eN a), .ag (T.cells eN b)] (.c (.sc (.bool (same a b)))):=by
 refine aH hT Tryz.func22 (by kernel_rfl) rfl rfl (fun A=>?_)
 conv=>whnf
 refine ak.mk _ (Zf a.f0 b.f0 (Nat.le_trans ha.l0 (by decide))) ?_
 conv=>whnf
 refine Split.mk (fun c=>?_) (fun c=>?_)
 ·conv=>whnf
  exact aC.mk ⟨rfl,rfl⟩ ⟨rfl,rfl⟩ ⟨bv (gG (fun e=>gJ (bU c) (congrArg (fun z:SN=>z.f0) e))),trivial⟩
 have c0:a.f0=b.f0:=of_same (dn c)
 clear c
 conv=>whnf
 refine ak.mk _ (ih b.f1) ?_
 conv=>whnf
 refine Split.mk (fun c=>?_) (fun c=>?_)
 ·conv=>whnf
  exact aC.mk ⟨rfl,rfl⟩ ⟨rfl,rfl⟩ ⟨bv (gG (fun e=>gJ (bU c) (congrArg (fun z:SN=>z.f1) e))),trivial⟩
 have c1:a.f1=b.f1:=of_same (dn c)
 clear c
 conv=>whnf
 refine ak.mk _ (ael a.f2 b.f2 (Nat.le_trans ha.l2 (by decide))) ?_
 conv=>whnf
 refine Split.mk (fun c=>?_) (fun c=>?_)
 ·conv=>whnf
  exact aC.mk ⟨rfl,rfl⟩ ⟨rfl,rfl⟩ ⟨bv (gG (fun e=>gJ (bU c) (congrArg (fun z:SN=>z.f2) e))),trivial⟩
 have c2:a.f2=b.f2:=of_same (dn c)
 clear c
 conv=>whnf
 exact aC.mk ⟨rfl,rfl⟩ ⟨rfl,rfl⟩ ⟨bv (nT (RX c0 c1 c2)),trivial⟩
theorem Ya:∀(a:SN),Bd a→∀b:SN,aG T Tryz.prog 22 [.ag (T.cells eN a), .ag (T.cells eN b)] (.c (.sc (.bool (same a b)))):=fun a ha b=>
 Zi a b ha (fun c=>Xk a.f1 c (Nat.le_trans ha.l1 (by decide)) (fun k hk=>Ya k (ha.kid k hk)))
termination_by a=>SizeOf.sizeOf a
decreasing_by exact kG hk
theorem ac8 (a:List Int) (ha:a.length≤1048576):aG T Tryz.prog 50 [.c (.sl 5 a)] (.c (.ow 5 a)):=by
 refine aH hT Tryz.func50 (by kernel_rfl) rfl rfl (fun A=>?_)
 conv=>whnf
 refine Need.mk (Vd (by decide) ha) ?_
 conv=>whnf
 refine dF.mk {k:Nat // k≤a.length} (fun p=>(2,[(4,i64 p.1),(3, .c (.hd 0)),(0,im 5 a)],[(0, .row 1 5 (fill (fun x=>x) (0:Int) a p.1))])) (fun p=>a.length - p.1) ⟨0,Nat.zero_le _⟩ (aA [(0,0)] rfl rfl rfl ⟨⟨rfl,rfl⟩,⟨rfl,rfl⟩,⟨rfl,rfl⟩,trivial⟩ ⟨eu rE.symm,trivial⟩) ?_
 rintro⟨k,hk⟩
 conv=>whnf
 refine Split.mk (fun c=>?_) (fun c=>?_)
 ·have hk2:k<a.length:=fQ c
  conv=>whnf
  refine Need.mk (idx hk2) ?_
  conv=>whnf
  refine Need.mk (idx (Nat.lt_of_lt_of_eq hk2 (uq hk).symm)) ?_
  conv=>whnf
  exact bF.mk ⟨⟨k+1,hk2⟩,Nat.sub_lt_sub_left hk2 (Nat.lt_succ_self k),aA [(0,0)] rfl rfl rfl ⟨⟨rfl,congrArg i64 (dO hk2 (Nat.le_trans ha (by decide)))⟩,⟨rfl,rfl⟩,⟨rfl,rfl⟩,trivial⟩ ⟨eu (uw hk2),trivial⟩⟩
 ·have hk2:k=a.length:=Nat.le_antisymm hk (fZ c)
  conv=>whnf
  subst hk2
  exact aC.mk ⟨rfl,rfl⟩ ⟨rfl,rfl⟩ ⟨eu (uo.trans abO),trivial⟩
theorem Zj (a:List ByteArray) (ha:a.length≤1048576):aG T Tryz.prog 45 [.c (.sl 9 a)] (.c (.ow 9 a)):=by
 refine aH hT Tryz.func45 (by kernel_rfl) rfl rfl (fun A=>?_)
 conv=>whnf
 refine Need.mk (Vd (by decide) ha) ?_
 conv=>whnf
 refine dF.mk {k:Nat // k≤a.length} (fun p=>(2,[(4,i64 p.1),(3, .c (.hd 0)),(0,im 9 a)],[(0, .row 1 9 (fill (fun x=>x) (⟨#[]⟩:ByteArray) a p.1))])) (fun p=>a.length - p.1) ⟨0,Nat.zero_le _⟩ (aA [(0,0)] rfl rfl rfl ⟨⟨rfl,rfl⟩,⟨rfl,rfl⟩,⟨rfl,rfl⟩,trivial⟩ ⟨eu rE.symm,trivial⟩) ?_
 rintro⟨k,hk⟩
 conv=>whnf
 refine Split.mk (fun c=>?_) (fun c=>?_)
 ·have hk2:k<a.length:=fQ c
  conv=>whnf
  refine Need.mk (idx hk2) ?_
  conv=>whnf
  refine Need.mk (idx (Nat.lt_of_lt_of_eq hk2 (uq hk).symm)) ?_
  conv=>whnf
  exact bF.mk ⟨⟨k+1,hk2⟩,Nat.sub_lt_sub_left hk2 (Nat.lt_succ_self k),aA [(0,0)] rfl rfl rfl ⟨⟨rfl,congrArg i64 (dO hk2 (Nat.le_trans ha (by decide)))⟩,⟨rfl,rfl⟩,⟨rfl,rfl⟩,trivial⟩ ⟨eu (uw hk2),trivial⟩⟩
 ·have hk2:k=a.length:=Nat.le_antisymm hk (fZ c)
  conv=>whnf
  subst hk2
  exact aC.mk ⟨rfl,rfl⟩ ⟨rfl,rfl⟩ ⟨eu (uo.trans abO),trivial⟩
def tS (x:LS):SS:=⟨x.f0,x.f1,x.f2⟩
def tW (x:LW):SW:=⟨x.f0,x.f1⟩
def tK (x:LK):SK:=⟨x.f0,x.f1,x.f2⟩
theorem toSub (a:LS):aG T Tryz.prog 29 [.ag (T.cells Dw a)] (.ag [.sc (.string a.f0), .sc (.int .i64 a.f1), .sc (.int .i64 a.f2)]):=by
 refine aH hT Tryz.func29 (by kernel_rfl) rfl rfl (fun A=>?_)
 conv=>whnf
 exact aC.mk ⟨rfl,rfl⟩ ⟨rfl,rfl⟩ ⟨rfl,rfl,rfl,trivial⟩
theorem aeo (a:List LS) (ha:a.length≤1048576):aG T Tryz.prog 98 [.c (.sl Dw a)] (.c (.ow eS (a.map tS))):=by
 refine aH hT Tryz.func98 (by kernel_rfl) rfl rfl (fun A=>?_)
 conv=>whnf
 refine Need.mk (Vd (by decide) ha) ?_
 conv=>whnf
 refine dF.mk {k:Nat // k≤a.length} (fun p=>(2,[(4,i64 p.1),(3, .c (.hd 0)),(0,im Dw a)],[(0, .row 1 eS (fill (tS) z44 a p.1))])) (fun p=>a.length - p.1) ⟨0,Nat.zero_le _⟩ (aA [(0,0)] rfl rfl rfl ⟨⟨rfl,rfl⟩,⟨rfl,rfl⟩,⟨rfl,rfl⟩,trivial⟩ ⟨eu rE.symm,trivial⟩) ?_
 rintro⟨k,hk⟩
 conv=>whnf
 refine Split.mk (fun c=>?_) (fun c=>?_)
 ·have hk2:k<a.length:=fQ c
  conv=>whnf
  refine Need.mk (idx hk2) ?_
  conv=>whnf
  refine ak.mk _ (toSub _) ?_
  conv=>whnf
  refine Need.mk (idx (Nat.lt_of_lt_of_eq hk2 (uq hk).symm)) ?_
  conv=>whnf
  exact bF.mk ⟨⟨k+1,hk2⟩,Nat.sub_lt_sub_left hk2 (Nat.lt_succ_self k),aA [(0,0)] rfl rfl rfl ⟨⟨rfl,congrArg i64 (dO hk2 (Nat.le_trans ha (by decide)))⟩,⟨rfl,rfl⟩,⟨rfl,rfl⟩,trivial⟩ ⟨eu (uw hk2),trivial⟩⟩
 ·have hk2:k=a.length:=Nat.le_antisymm hk (fZ c)
  conv=>whnf
  subst hk2
  exact aC.mk ⟨rfl,rfl⟩ ⟨rfl,rfl⟩ ⟨eu (uo),trivial⟩
theorem aep (a:LW):aG T Tryz.prog 126 [.ag (T.cells pY a)] (.ag [.sc (.string a.f0), .sc (.int .i64 a.f1)]):=by
 refine aH hT Tryz.func126 (by kernel_rfl) rfl rfl (fun A=>?_)
 conv=>whnf
 exact aC.mk ⟨rfl,rfl⟩ ⟨rfl,rfl⟩ ⟨rfl,rfl,trivial⟩
theorem acG (a:List LW) (ha:a.length≤1048576):aG T Tryz.prog 56 [.c (.sl pY a)] (.c (.ow eW (a.map tW))):=by
 refine aH hT Tryz.func56 (by kernel_rfl) rfl rfl (fun A=>?_)
 conv=>whnf
 refine Need.mk (Vd (by decide) ha) ?_
 conv=>whnf
 refine dF.mk {k:Nat // k≤a.length} (fun p=>(2,[(4,i64 p.1),(3, .c (.hd 0)),(0,im pY a)],[(0, .row 1 eW (fill (tW) aa6 a p.1))])) (fun p=>a.length - p.1) ⟨0,Nat.zero_le _⟩ (aA [(0,0)] rfl rfl rfl ⟨⟨rfl,rfl⟩,⟨rfl,rfl⟩,⟨rfl,rfl⟩,trivial⟩ ⟨eu rE.symm,trivial⟩) ?_
 rintro⟨k,hk⟩
 conv=>whnf
 refine Split.mk (fun c=>?_) (fun c=>?_)
 ·have hk2:k<a.length:=fQ c
  conv=>whnf
  refine Need.mk (idx hk2) ?_
  conv=>whnf
  refine ak.mk _ (aep _) ?_
  conv=>whnf
  refine Need.mk (idx (Nat.lt_of_lt_of_eq hk2 (uq hk).symm)) ?_
  conv=>whnf
  exact bF.mk ⟨⟨k+1,hk2⟩,Nat.sub_lt_sub_left hk2 (Nat.lt_succ_self k),aA [(0,0)] rfl rfl rfl ⟨⟨rfl,congrArg i64 (dO hk2 (Nat.le_trans ha (by decide)))⟩,⟨rfl,rfl⟩,⟨rfl,rfl⟩,trivial⟩ ⟨eu (uw hk2),trivial⟩⟩
 ·have hk2:k=a.length:=Nat.le_antisymm hk (fZ c)
  conv=>whnf
  subst hk2
  exact aC.mk ⟨rfl,rfl⟩ ⟨rfl,rfl⟩ ⟨eu (uo),trivial⟩
theorem aer (a:LK) (ha:a.f1.length≤1048576):aG T Tryz.prog 188 [.ag (T.cells Dx a)] (.ag [.sc (.string a.f0), .ow 5 a.f1, .sc (.int .i64 a.f2)]):=by
 refine aH hT Tryz.func188 (by kernel_rfl) rfl rfl (fun A=>?_)
 conv=>whnf
 refine ak.mk _ (ac8 a.f1 ha) ?_
 conv=>whnf
 exact aC.mk ⟨rfl,rfl⟩ ⟨rfl,rfl⟩ ⟨rfl,rfl,rfl,trivial⟩
theorem acn (a:List LK) (ha:a.length≤1048576) (hb:∀y∈a,y.f1.length≤1048576):aG T Tryz.prog 121 [.c (.sl Dx a)] (.c (.ow eK (a.map tK))):=by
 refine aH hT Tryz.func121 (by kernel_rfl) rfl rfl (fun A=>?_)
 conv=>whnf
 refine Need.mk (Vd (by decide) ha) ?_
 conv=>whnf
 refine dF.mk {k:Nat // k≤a.length} (fun p=>(2,[(4,i64 p.1),(3, .c (.hd 0)),(0,im Dx a)],[(0, .row 1 eK (fill (tK) aa7 a p.1))])) (fun p=>a.length - p.1) ⟨0,Nat.zero_le _⟩ (aA [(0,0)] rfl rfl rfl ⟨⟨rfl,rfl⟩,⟨rfl,rfl⟩,⟨rfl,rfl⟩,trivial⟩ ⟨eu rE.symm,trivial⟩) ?_
 rintro⟨k,hk⟩
 conv=>whnf
 refine Split.mk (fun c=>?_) (fun c=>?_)
 ·have hk2:k<a.length:=fQ c
  conv=>whnf
  refine Need.mk (idx hk2) ?_
  conv=>whnf
  refine ak.mk _ (aer _ (hb _ (getD_mem hk2))) ?_
  conv=>whnf
  refine Need.mk (idx (Nat.lt_of_lt_of_eq hk2 (uq hk).symm)) ?_
  conv=>whnf
  exact bF.mk ⟨⟨k+1,hk2⟩,Nat.sub_lt_sub_left hk2 (Nat.lt_succ_self k),aA [(0,0)] rfl rfl rfl ⟨⟨rfl,congrArg i64 (dO hk2 (Nat.le_trans ha (by decide)))⟩,⟨rfl,rfl⟩,⟨rfl,rfl⟩,trivial⟩ ⟨eu (uw hk2),trivial⟩⟩
 ·have hk2:k=a.length:=Nat.le_antisymm hk (fZ c)
  conv=>whnf
  subst hk2
  exact aC.mk ⟨rfl,rfl⟩ ⟨rfl,rfl⟩ ⟨eu (uo),trivial⟩
mutual
def tN:LN→SN
 | ⟨a,b,c⟩=>⟨a,tNL b,c.map tS⟩
def tNL:List LN→List SN
 | []=>[]
 | x::r=>tN x::tNL r
end
theorem Vp:∀l:List LN,tNL l=l.map tN
 | []=>rfl
 | x::r=>by rw [tNL,Vp r,List.map_cons]
theorem Ll (n:SN):(⟨n.f0,n.f1,n.f2⟩:SN)=n:=by cases n;rfl
theorem VK (n:LN):tN n=⟨n.f0,n.f1.map tN,n.f2.map tS⟩:=by cases n;rw [tN,Vp]
theorem Xl (a:List LN) (ha:a.length≤1048576) (ih:∀k∈a,aG T Tryz.prog 20 [.ag (T.cells sU k)] (.ag [.ow 9 (tN k).f0, .ow eN (tN k).f1, .ow eS (tN k).f2])):aG T Tryz.prog 97 [.c (.sl sU a)] (.c (.ow eN (a.map tN))):=by
 refine aH hT Tryz.func97 (by kernel_rfl) rfl rfl (fun A=>?_)
 conv=>whnf
 refine Need.mk (Vd (by decide) ha) ?_
 conv=>whnf
 refine dF.mk {k:Nat // k≤a.length} (fun p=>(2,[(4,i64 p.1),(3, .c (.hd 0)),(0,im sU a)],[(0, .row 1 eN (fill (tN) z31 a p.1))])) (fun p=>a.length - p.1) ⟨0,Nat.zero_le _⟩ (aA [(0,0)] rfl rfl rfl ⟨⟨rfl,rfl⟩,⟨rfl,rfl⟩,⟨rfl,rfl⟩,trivial⟩ ⟨eu rE.symm,trivial⟩) ?_
 rintro⟨k,hk⟩
 conv=>whnf
 refine Split.mk (fun c=>?_) (fun c=>?_)
 ·have hk2:k<a.length:=fQ c
  conv=>whnf
  refine Need.mk (idx hk2) ?_
  conv=>whnf
  refine ak.mk _ (ih _ (getD_mem hk2)) ?_
  conv=>whnf
  refine Need.mk (idx (Nat.lt_of_lt_of_eq hk2 (uq hk).symm)) ?_
  conv=>whnf
  exact bF.mk ⟨⟨k+1,hk2⟩,Nat.sub_lt_sub_left hk2 (Nat.lt_succ_self k),aA [(0,0)] rfl rfl rfl ⟨⟨rfl,congrArg i64 (dO hk2 (Nat.le_trans ha (by decide)))⟩,⟨rfl,rfl⟩,⟨rfl,rfl⟩,trivial⟩ ⟨eu ((congrArg (List.set _ _) (Ll _)).trans (uw hk2)),trivial⟩⟩
 ·have hk2:k=a.length:=Nat.le_antisymm hk (fZ c)
  conv=>whnf
  subst hk2
  exact aC.mk ⟨rfl,rfl⟩ ⟨rfl,rfl⟩ ⟨eu (uo),trivial⟩
theorem Zk (a:LN) (h0:a.f0.length≤1048576) (h2:a.f2.length≤1048576) (ih:aG T Tryz.prog 97 [.c (.sl sU a.f1)] (.c (.ow eN (a.f1.map tN)))):aG T Tryz.prog 20 [.ag (T.cells sU a)] (.ag [.ow 9 a.f0, .ow eN (a.f1.map tN), .ow eS (a.f2.map tS)]):=by
 refine aH hT Tryz.func20 (by kernel_rfl) rfl rfl (fun A=>?_)
 conv=>whnf
 refine ak.mk _ (Zj a.f0 h0) ?_
 conv=>whnf
 refine ak.mk _ (ih) ?_
 conv=>whnf
 refine ak.mk _ (aeo a.f2 h2) ?_
 conv=>whnf
 exact aC.mk ⟨rfl,rfl⟩ ⟨rfl,rfl⟩ ⟨rfl,rfl,rfl,trivial⟩
inductive Qg:LN→Prop
 | mk (n:LN) (h0:n.f0.length≤1048576) (h1:n.f1.length≤1048576) (h2:n.f2.length≤1048576) (hk:∀k∈n.f1,Qg k):Qg n
theorem X8:∀(a:LN),Qg a→aG T Tryz.prog 20 [.ag (T.cells sU a)] (.ag [.ow 9 (tN a).f0, .ow eN (tN a).f1, .ow eS (tN a).f2]):=fun a ha=>by
 rw [VK]
 exact Zk a (by cases ha;assumption) (by cases ha;assumption) (Xl a.f1 (by cases ha;assumption) (fun k hk=>X8 k (by cases ha with | mk _ _ _ _ h=>exact h k hk)))
termination_by a=>SizeOf.sizeOf a
decreasing_by exact zH hk
end Go.Proofs.YtcnfgfomholheaaGreatDoor.Q
end
section
namespace Go.Proofs.YtcnfgfomholheaaGreatDoor.Q
open Go.RowKit Go.Proofs.YtcnfgfomholheaaGreatDoor.Z
set_option linter.unusedVariables false
set_option linter.unusedSimpArgs false
set_option maxRecDepth 100000
set_option maxHeartbeats 4000000
def OA (k:Nat) (out:ByteArray):ByteArray:=if h:k=0 then out else OA (k / 10) (strOfNums [IntKind.u8.wrap (wrap64 (48+((k % 10:Nat):Int)))]++out)
termination_by k
decreasing_by omega
def markT (k:Nat):ByteArray:=(⟨#[109]⟩:ByteArray)++OA k (⟨#[]⟩:ByteArray)
theorem Zl (n:Int):(strOfNums [n]).size=1:=rfl
theorem uM (a b:ByteArray):(a++b).size=a.size+b.size:=ByteArray.size_append
theorem afl (k:Nat):((k:Int).tmod 10)=((k % 10:Nat):Int):=by rw [Int.tmod_eq_emod_of_nonneg (by omega)];omega
theorem afm {k:Nat} (h:k≤4611686018427387904):IntKind.i64.wrap ((k:Int).tdiv 10)=((k / 10:Nat):Int):=by
 rw [Int.tdiv_eq_ediv_of_nonneg (by omega),wrap_i64]
 simp only [wrap64];omega
theorem agf (x:Int):strOfNums (List.map (numOf T 5) [x])=strOfNums [x]:=rfl
theorem aes (n:Nat):strOfNums (List.map (numOf T 5) [IntKind.u8.wrap (wrap64 (48+(n:Int).tmod 10))])=strOfNums [IntKind.u8.wrap (wrap64 (48+((n % 10:Nat):Int)))]:=by rw [afl,agf]
theorem agh (out:ByteArray):OA 0 out=out:=by unfold OA;rfl
theorem tx {x y:ByteArray} (h:y=x):Value.string x=Value.string y:=by rw [h]
abbrev tx_ (s:ByteArray):Slot T:= .c (.sc (.string s))
theorem qL (k:Nat) (h0:0<k) (h1:k≤4611686018427387904):aG T Tryz.prog 118 [.c (.sc (.int .i64 (k:Int)))] (.c (.sc (.string (markT k)))):=by
 refine aH hT Tryz.func118 (by kernel_rfl) rfl rfl (fun A=>?_)
 conv=>whnf
 refine Split.mk (fun c=>?_) (fun c=>?_)
 ·exact absurd c (by simp;omega)
 clear c
 conv=>whnf
 refine dF.mk {p:Nat × ByteArray // p.1≤k∧p.2.size+p.1≤k∧OA p.1 p.2=OA k (⟨#[]⟩:ByteArray)} (fun p=>(0,[(0,i64 p.1.1),(3,tx_ p.1.2)],[])) (fun p=>p.1.1) ⟨(k,⟨#[]⟩),Nat.le_refl _,by show(0:Nat)+k≤k;omega,rfl⟩ (aA [] rfl rfl rfl ⟨⟨rfl,rfl⟩,⟨rfl,rfl⟩,trivial⟩ trivial) ?_
 rintro⟨⟨n,out⟩,g1,g2,g3⟩
 dsimp only at g1 g2 g3
 conv=>whnf
 refine Split.mk (fun c=>?_) (fun c=>?_)
 ·have hn:n≠0:=by simp at c;omega
  clear c
  conv=>whnf
  refine Need.mk (fun _=>rfl) ?_
  conv=>whnf
  refine Need.mk (show 1+ByteArray.size out≤9223372036854775807 by omega) ?_
  conv=>whnf
  refine bF.mk ⟨⟨(n / 10,strOfNums [IntKind.u8.wrap (wrap64 (48+((n % 10:Nat):Int)))]++out),by omega,by rw [uM,Zl];omega,?_⟩,Nat.div_lt_self (by omega) (by decide),aA [] rfl rfl rfl ⟨⟨rfl,congrArg i64 (afm (by omega)).symm⟩,⟨rfl,?_⟩,trivial⟩ trivial⟩
  ·rw [←g3]
   conv=>rhs;unfold OA
   rw [dif_neg hn]
  ·exact congrArg (fun x:ByteArray=>tx_ (x++out)) (aes n).symm
 ·have hn:n=0:=by simp at c;omega
  subst hn
  clear c
  have g4:out=OA k (⟨#[]⟩:ByteArray):=(agh out).symm.trans g3
  conv=>whnf
  refine Need.mk (show 1+ByteArray.size out≤9223372036854775807 by omega) ?_
  conv=>whnf
  exact aC.mk ⟨rfl,rfl⟩ ⟨rfl,rfl⟩ ⟨tx (congrArg (fun x:ByteArray=>(⟨#[109]⟩:ByteArray)++x) g4.symm),trivial⟩
def jm {β:Type} (s:Nat) (f:Nat→β) (k n:Nat):List β:=(List.range n).map (fun j=>f (k+s*j))
def mP {β:Type} (s:Nat) (f:Nat→β) (k:Nat) (a:List β) (i:Nat):List β:=jm s f k i++a.drop i
section
variable {β:Type} {s:Nat} {f:Nat→β} {k i n:Nat} {a:List β}
theorem lq:(jm s f k n).length=n:=by simp [jm]
theorem pW (h:i≤a.length):(mP s f k a i).length=a.length:=by simp [mP,lq];omega
theorem Ad (hi:i≤a.length) (h:i<a.length):i<(mP s f k a i).length:=by rw [pW hi];exact h
theorem CP:a=mP s f k a 0:=by simp [mP,jm]
theorem Gl:mP s f k a a.length=jm s f k a.length:=by simp [mP]
theorem Gm (h:i<a.length):(mP s f k a i).set i (f (k+s*i))=mP s f k a (i+1):=by
 unfold mP
 rw [List.set_append_right _ _ (by simp [lq]),lq,Nat.sub_self,List.drop_eq_getElem_cons h,List.set_cons_zero]
 simp [jm,List.range_succ]
theorem ML {d:β} (h:i<n):(jm s f k n).getD i d=f (k+s*i):=by simp [jm,h]
end
theorem yc {k n:Nat} (h:k+n≤4611686018427387904) (hn:0<n):((k+1:Nat):Int)=wrap64 ((k:Int)+1):=by simp only [wrap64];omega
theorem Ae {m n:Nat} (h:decide ((m:Int)<(n:Int))=true) {l:Nat} (hl:n=l):m<l:=hl▸fQ h
theorem uF {m n:Nat} (h:decide ((m:Int)<(n:Int))=false) {l:Nat} (hl:n=l):l≤m:=hl▸fZ h
def fB (n:Nat):Int:=IntKind.u8.wrap (n:Int)
def fI (n:Nat):Int:=(n:Int)
def fS (n:Nat):ByteArray:=markT n
def fW (n:Nat):oz:=⟨markT n,((n+1:Nat):Int)⟩
abbrev hd0:Slot T:= .c (.hd 1000)
theorem gs_ {e:Nat} {l:List (T.Tb e)} {i:Nat} {x:T.Tb e} (h:i<l.length):bP T e (l.set i x) i=x:=by simp [bP,h]
theorem Zm (a:List Int) (k:Nat) (hl:a.length≤140737488351232) (h0:0<k) (hk:k+1*a.length≤4611686018427387904):CallWOb T Tryz.prog 53 [.c (.ow 5 a 5 (jm 1 fB k a.length)), .c (.c (.sc (.int .i64 (k:Int))))] (.c (.sc (.int .i64 ((k+1*a.length:Nat):Int)))):=by
 refine nY hT Tryz.func53 (by kernel_rfl) rfl rfl (fun A=>?_)
 conv=>whnf
 refine dF.mk {i:Nat // i≤a.length} (fun p=>(1,[(5,i64 p.1),(1,i64 (k+1*p.1:Nat)),(0,hd0)],[(1000, .row 0 5 (mP 1 fB k a p.1))])) (fun p=>a.length - p.1) ⟨0,Nat.zero_le _⟩ (aA [] rfl rfl rfl ⟨⟨rfl,rfl⟩,⟨rfl,rfl⟩,⟨rfl,rfl⟩,trivial⟩ ⟨show bT (T:=T) 5 a 5 (mP 1 fB k a 0) from eu CP,trivial⟩) ?_
 rintro⟨i,hi⟩
 conv=>whnf
 refine Split.mk (fun c=>?_) (fun c=>?_)
 ·have hk2:i<a.length:=Ae c (pW hi)
  clear c
  have hb:k+1*i+1≤4611686018427387904:=by omega
  conv=>whnf
  refine Need.mk (idx (Ad hi hk2)) ?_
  conv=>whnf
  exact bF.mk ⟨⟨i+1,hk2⟩,Nat.sub_lt_sub_left hk2 (Nat.lt_succ_self i),aA [] rfl rfl rfl ⟨⟨rfl,congrArg i64 (dO hk2 hl)⟩,⟨rfl,congrArg i64 (yc (k:=k+1*i) (n:=1) (by omega) (by decide))⟩,⟨rfl,rfl⟩,trivial⟩ ⟨eu (Gm (s:=1) (f:=fB) hk2),trivial⟩⟩
 ·have hk2:i=a.length:=Nat.le_antisymm hi (uF c (pW hi))
  clear c
  conv=>whnf
  subst hk2
  exact uK.mk ⟨rfl,rfl⟩ ⟨⟨rfl,rfl⟩,rfl⟩ ⟨rfl,trivial⟩ ⟨show bT (T:=T) 5 (mP 1 fB k a a.length) 5 (jm 1 fB k a.length) from eu Gl,trivial⟩
theorem aav (a:List Int) (k:Nat) (hl:a.length≤140737488351232) (h0:0<k) (hk:k+1*a.length≤4611686018427387904):CallWOb T Tryz.prog 61 [.c (.ow 3 a 3 (jm 1 fI k a.length)), .c (.c (.sc (.int .i64 (k:Int))))] (.c (.sc (.int .i64 ((k+1*a.length:Nat):Int)))):=by
 refine nY hT Tryz.func61 (by kernel_rfl) rfl rfl (fun A=>?_)
 conv=>whnf
 refine dF.mk {i:Nat // i≤a.length} (fun p=>(1,[(5,i64 p.1),(1,i64 (k+1*p.1:Nat)),(0,hd0)],[(1000, .row 0 3 (mP 1 fI k a p.1))])) (fun p=>a.length - p.1) ⟨0,Nat.zero_le _⟩ (aA [] rfl rfl rfl ⟨⟨rfl,rfl⟩,⟨rfl,rfl⟩,⟨rfl,rfl⟩,trivial⟩ ⟨show bT (T:=T) 3 a 3 (mP 1 fI k a 0) from eu CP,trivial⟩) ?_
 rintro⟨i,hi⟩
 conv=>whnf
 refine Split.mk (fun c=>?_) (fun c=>?_)
 ·have hk2:i<a.length:=Ae c (pW hi)
  clear c
  have hb:k+1*i+1≤4611686018427387904:=by omega
  conv=>whnf
  refine Need.mk (idx (Ad hi hk2)) ?_
  conv=>whnf
  exact bF.mk ⟨⟨i+1,hk2⟩,Nat.sub_lt_sub_left hk2 (Nat.lt_succ_self i),aA [] rfl rfl rfl ⟨⟨rfl,congrArg i64 (dO hk2 hl)⟩,⟨rfl,congrArg i64 (yc (k:=k+1*i) (n:=1) (by omega) (by decide))⟩,⟨rfl,rfl⟩,trivial⟩ ⟨eu (Gm (s:=1) (f:=fI) hk2),trivial⟩⟩
 ·have hk2:i=a.length:=Nat.le_antisymm hi (uF c (pW hi))
  clear c
  conv=>whnf
  subst hk2
  exact uK.mk ⟨rfl,rfl⟩ ⟨⟨rfl,rfl⟩,rfl⟩ ⟨rfl,trivial⟩ ⟨show bT (T:=T) 3 (mP 1 fI k a a.length) 3 (jm 1 fI k a.length) from eu Gl,trivial⟩
theorem GZ (a:List ByteArray) (k:Nat) (hl:a.length≤140737488351232) (h0:0<k) (hk:k+1*a.length≤4611686018427387904):CallWOb T Tryz.prog 48 [.c (.ow 9 a 9 (jm 1 fS k a.length)), .c (.c (.sc (.int .i64 (k:Int))))] (.c (.sc (.int .i64 ((k+1*a.length:Nat):Int)))):=by
 refine nY hT Tryz.func48 (by kernel_rfl) rfl rfl (fun A=>?_)
 conv=>whnf
 refine dF.mk {i:Nat // i≤a.length} (fun p=>(1,[(5,i64 p.1),(1,i64 (k+1*p.1:Nat)),(0,hd0)],[(1000, .row 0 9 (mP 1 fS k a p.1))])) (fun p=>a.length - p.1) ⟨0,Nat.zero_le _⟩ (aA [] rfl rfl rfl ⟨⟨rfl,rfl⟩,⟨rfl,rfl⟩,⟨rfl,rfl⟩,trivial⟩ ⟨show bT (T:=T) 9 a 9 (mP 1 fS k a 0) from eu CP,trivial⟩) ?_
 rintro⟨i,hi⟩
 conv=>whnf
 refine Split.mk (fun c=>?_) (fun c=>?_)
 ·have hk2:i<a.length:=Ae c (pW hi)
  clear c
  have hb:k+1*i+1≤4611686018427387904:=by omega
  conv=>whnf
  refine ak.mk _ (qL (k+1*i) (by omega) (by omega)) ?_
  conv=>whnf
  refine Need.mk (idx (Ad hi hk2)) ?_
  conv=>whnf
  exact bF.mk ⟨⟨i+1,hk2⟩,Nat.sub_lt_sub_left hk2 (Nat.lt_succ_self i),aA [] rfl rfl rfl ⟨⟨rfl,congrArg i64 (dO hk2 hl)⟩,⟨rfl,congrArg i64 (yc (k:=k+1*i) (n:=1) (by omega) (by decide))⟩,⟨rfl,rfl⟩,trivial⟩ ⟨eu (Gm (s:=1) (f:=fS) hk2),trivial⟩⟩
 ·have hk2:i=a.length:=Nat.le_antisymm hi (uF c (pW hi))
  clear c
  conv=>whnf
  subst hk2
  exact uK.mk ⟨rfl,rfl⟩ ⟨⟨rfl,rfl⟩,rfl⟩ ⟨rfl,trivial⟩ ⟨show bT (T:=T) 9 (mP 1 fS k a a.length) 9 (jm 1 fS k a.length) from eu Gl,trivial⟩
theorem aa8 {a:List oz} {k i:Nat} (h:i<a.length) (hi:i≤a.length) {x:Int} {y:oz} (hx:((k+2*i+1:Nat):Int)=x):List.set (List.set (mP 2 fW k a i) i ⟨markT (k+2*i),y.f1⟩) i ⟨(bP T 113 (List.set (mP 2 fW k a i) i ⟨markT (k+2*i),y.f1⟩) i).f0,x⟩=mP 2 fW k a (i+1):=by
 subst hx
 have h2:bP T 113 (List.set (mP 2 fW k a i) i ⟨markT (k+2*i),y.f1⟩) i=(⟨markT (k+2*i),y.f1⟩:oz):=gs_ (e:=113) (Ad hi h)
 have h3:(⟨oz.f0 (bP T 113 (List.set (mP 2 fW k a i) i ⟨markT (k+2*i),y.f1⟩) i),((k+2*i+1:Nat):Int)⟩:oz)=fW (k+2*i):=congrArg (fun z:oz=>(⟨z.f0,((k+2*i+1:Nat):Int)⟩:oz)) h2
 exact(congrArg (List.set _ i) h3).trans ((List.set_set ..).trans (Gm h))
theorem k2_ {k:Nat} (h:k+2≤4611686018427387904):((k+2:Nat):Int)=wrap64 (wrap64 ((k:Int)+1)+1):=by simp only [wrap64];omega
theorem Yv (a:List oz) (k:Nat) (hl:a.length≤140737488351232) (h0:0<k) (hk:k+2*a.length≤4611686018427387904):CallWOb T Tryz.prog 60 [.c (.ow 113 a 113 (jm 2 fW k a.length)), .c (.c (.sc (.int .i64 (k:Int))))] (.c (.sc (.int .i64 ((k+2*a.length:Nat):Int)))):=by
 refine nY hT Tryz.func60 (by kernel_rfl) rfl rfl (fun A=>?_)
 conv=>whnf
 refine dF.mk {i:Nat // i≤a.length} (fun p=>(1,[(5,i64 p.1),(1,i64 (k+2*p.1:Nat)),(0,hd0)],[(1000, .row 0 113 (mP 2 fW k a p.1))])) (fun p=>a.length - p.1) ⟨0,Nat.zero_le _⟩ (aA [] rfl rfl rfl ⟨⟨rfl,rfl⟩,⟨rfl,rfl⟩,⟨rfl,rfl⟩,trivial⟩ ⟨show bT (T:=T) 113 a 113 (mP 2 fW k a 0) from eu CP,trivial⟩) ?_
 rintro⟨i,hi⟩
 conv=>whnf
 refine Split.mk (fun c=>?_) (fun c=>?_)
 ·have hk2:i<a.length:=Ae c (pW hi)
  clear c
  have hb:k+2*i+2≤4611686018427387904:=by omega
  conv=>whnf
  refine ak.mk _ (qL (k+2*i) (by omega) (by omega)) ?_
  conv=>whnf
  refine Need.mk (idx (Ad hi hk2)) ?_
  conv=>whnf
  refine Need.mk (idx (Nat.lt_of_lt_of_eq (Ad hi hk2) List.length_set.symm)) ?_
  conv=>whnf
  exact bF.mk ⟨⟨i+1,hk2⟩,Nat.sub_lt_sub_left hk2 (Nat.lt_succ_self i),aA [] rfl rfl rfl ⟨⟨rfl,congrArg i64 (dO hk2 hl)⟩,⟨rfl,congrArg i64 (k2_ (k:=k+2*i) (by omega))⟩,⟨rfl,rfl⟩,trivial⟩ ⟨eu (aa8 (a:=a) hk2 hi (yc (k:=k+2*i) (n:=2) (by omega) (by decide))),trivial⟩⟩
 ·have hk2:i=a.length:=Nat.le_antisymm hi (uF c (pW hi))
  clear c
  conv=>whnf
  subst hk2
  exact uK.mk ⟨rfl,rfl⟩ ⟨⟨rfl,rfl⟩,rfl⟩ ⟨rfl,trivial⟩ ⟨show bT (T:=T) 113 (mP 2 fW k a a.length) 113 (jm 2 fW k a.length) from eu Gl,trivial⟩
end Go.Proofs.YtcnfgfomholheaaGreatDoor.Q
end
section
namespace Go.Proofs.YtcnfgfomholheaaGreatDoor.Q
open Go.RowKit Go.Proofs.YtcnfgfomholheaaGreatDoor.Z
set_option linter.unusedVariables false
set_option linter.unusedSimpArgs false
set_option maxRecDepth 100000
set_option maxHeartbeats 4000000
def bg {β:Type} (f:β→Nat→β × Nat):List β→Nat→List β × Nat
 | [],k=>([],k)
 | p::l,k=>((f p k).1::(bg f l (f p k).2).1,(bg f l (f p k).2).2)
def kM {β:Type} (f:β→Nat→β × Nat) (a:List β) (k i:Nat):List β:=(bg f (a.take i) k).1++a.drop i
section
variable {β:Type} {f:β→Nat→β × Nat} {a:List β} {k i:Nat} {d:β}
theorem Gn:∀(l m:List β) (k:Nat),bg f (l++m) k=((bg f l k).1++(bg f m (bg f l k).2).1,(bg f m (bg f l k).2).2)
 | [],_,_=>rfl
 | p::l,m,k=>by simp only [List.cons_append,bg,Gn l m]
theorem uG:∀(l:List β) (k:Nat),(bg f l k).1.length=l.length
 | [],_=>rfl
 | p::l,k=>by simp only [bg,List.length_cons,uG l]
theorem qM (h:i<a.length):bg f (a.take (i+1)) k=((bg f (a.take i) k).1++[(f (a.getD i d) (bg f (a.take i) k).2).1],(f (a.getD i d) (bg f (a.take i) k).2).2):=by
 have e:a.getD i d=a[i]:=by simp [h]
 rw [List.take_succ_eq_append_getElem h,Gn,e];rfl
theorem iM (hf:∀p k,k≤(f p k).2):∀(l:List β) (k:Nat),k≤(bg f l k).2
 | [],k=>Nat.le_refl _
 | p::l,k=>Nat.le_trans (hf p k) (iM hf l _)
theorem uH (hf:∀p k,k≤(f p k).2) (i:Nat):(bg f (a.take i) k).2≤(bg f a k).2:=by
 have h:=Gn (f:=f) (a.take i) (a.drop i) k
 rw [List.take_append_drop] at h
 rw [h];exact iM hf _ _
theorem IC (h:i≤a.length):(kM f a k i).length=a.length:=by
 rw [kM,List.length_append,uG,List.length_take,List.length_drop];omega
theorem RY (h:i<a.length) (x:β):(kM f a k i).set i x=(bg f (a.take i) k).1++x::a.drop (i+1):=by
 have hl:(bg f (a.take i) k).1.length=i:=by rw [uG,List.length_take];omega
 rw [kM,List.set_append_right _ _ (by omega),hl,Nat.sub_self,List.drop_eq_getElem_cons h];rfl
theorem EP (h:i<a.length):kM f a k i=(kM f a k i).set i (a.getD i d):=by
 rw [RY h,kM,List.drop_eq_getElem_cons h];simp [h]
theorem ER (h:i<a.length):(kM f a k i).set i (f (a.getD i d) (bg f (a.take i) k).2).1=kM f a k (i+1):=by
 rw [RY h,kM,qM (d:=d) h,List.append_assoc];rfl
theorem IE:kM f a k a.length=(bg f a k).1:=by rw [kM,List.take_length,List.drop_length,List.append_nil]
theorem wR {e:Nat} {R:List (T.Tb e)} {i:Nat} (h:i<R.length) (x:T.Tb e) (g:T.Tb e→T.Tb e):(R.set i x).set i (g (bP T e (R.set i x) i))=R.set i (g x):=by
 rw [gs_ h,List.set_set]
theorem ge_ {e:Nat} {R:List (T.Tb e)} {i:Nat} (h:i<R.length) (x:T.Tb e) (C:T.Tb e→Prop) (hc:C x):C (bP T e (R.set i x) i):=by
 rw [gs_ h];exact hc
end
def dU (p:SS) (k:Nat):SS × Nat:=(⟨markT k,((k+1:Nat):Int),((k+2:Nat):Int)⟩,k+3)
def eX (p:SK) (k:Nat):SK × Nat:=(⟨markT k,jm 1 fB (k+1) p.f1.length,((k+1+1*p.f1.length:Nat):Int)⟩,k+1+1*p.f1.length+1)
mutual
def bQ:SN→Nat→SN × Nat
 | ⟨a,b,c⟩,k=>(⟨jm 1 fS k a.length,(tq b (k+1*a.length)).1,(bg dU c (tq b (k+1*a.length)).2).1⟩,(bg dU c (tq b (k+1*a.length)).2).2)
def tq:List SN→Nat→List SN × Nat
 | [],k=>([],k)
 | p::l,k=>((bQ p k).1::(tq l (bQ p k).2).1,(tq l (bQ p k).2).2)
end
theorem Vq:∀l:List SN,tq l=bg bQ l
 | []=>by funext k;rw [tq];rfl
 | p::l=>by funext k;rw [tq,Vq l];rfl
theorem vw (n:SN) (k:Nat):bQ n k=(⟨jm 1 fS k n.f0.length,(bg bQ n.f1 (k+1*n.f0.length)).1,(bg dU n.f2 (bg bQ n.f1 (k+1*n.f0.length)).2).1⟩,(bg dU n.f2 (bg bQ n.f1 (k+1*n.f0.length)).2).2):=by cases n;rw [bQ,Vq]
theorem mQ (p:SS) (k:Nat):k≤(dU p k).2:=by show k≤k+3;omega
theorem tC (p:SK) (k:Nat):k≤(eX p k).2:=by show k≤k+1+1*p.f1.length+1;omega
theorem Vr {β:Type} {f:β→Nat→β × Nat}:∀(l:List β) (k:Nat),(∀p∈l,∀k,k≤(f p k).2)→k≤(bg f l k).2
 | [],k,_=>Nat.le_refl _
 | p::l,k,h=>Nat.le_trans (h p List.mem_cons_self k) (Vr l _ (fun q hq=>h q (List.mem_cons_of_mem _ hq)))
theorem lG:∀(n:SN) (k:Nat),k≤(bQ n k).2:=fun n k=>by
 rw [vw]
 exact Nat.le_trans (Nat.le_trans (Nat.le_add_right _ _) (Vr n.f1 _ (fun p hp k=>lG p k))) (iM mQ _ _)
termination_by n=>SizeOf.sizeOf n
decreasing_by exact kG hp
theorem RZ (a:List SS) (k:Nat) (ha:a.length≤2097152) (h0:0<k) (hk:(bg (β:=SS) dU a k).2≤4611686018427387904):CallWOb T Tryz.prog 34 [.c (.ow eS a eS (bg (β:=SS) dU a k).1), .c (.c (.sc (.int .i64 (k:Int))))] (.c (.sc (.int .i64 ((bg (β:=SS) dU a k).2:Int)))):=by
 refine uT hT Tryz.func34 (by kernel_rfl) rfl rfl (fun A=>?_)
 refine Vc.seq 0 hT ?_
 conv=>whnf
 refine Vc.LY ?_
 refine Vc.seq 0 hT ?_
 conv=>whnf
 refine Vc.block ?_
 refine Vc.loop (α:={i:Nat // i≤a.length}) (fun s=>([(5,i64 s.1),(1,i64 ((bg (β:=SS) dU (a.take s.1) k).2:Nat)),(0,hd0)],[(1000, .row 0 eS (kM (β:=SS) dU a k s.1))])) (fun s=>a.length - s.1) ⟨0,Nat.zero_le _⟩ (aA [] rfl rfl rfl ⟨⟨rfl,rfl⟩,⟨rfl,rfl⟩,⟨rfl,rfl⟩,trivial⟩ ⟨show bT (T:=T) eS a eS (kM (β:=SS) dU a k 0) from eu rfl,trivial⟩) ?_
 rintro⟨i,hi⟩
 have hR:=IC (β:=SS) (f:=dU) (k:=k) hi
 refine Vc.seq 1 hT ?_
 conv=>whnf
 refine Split.mk (fun c=>?_) (fun c=>?_)
 ·have hk2:i<a.length:=Ae c hR
  clear c
  have hq:=iM (β:=SS) mQ (a.take i) k
  have hself:=EP (β:=SS) (f:=dU) (k:=k) (d:=T.df eS) hk2
  have hnext:=ER (β:=SS) (f:=dU) (k:=k) (d:=T.df eS) hk2
  have hmk:=qM (β:=SS) (f:=dU) (k:=k) (d:=T.df eS) hk2
  have hkp:=Nat.le_trans (uH (β:=SS) (f:=dU) (a:=a) (k:=k) mQ (i+1)) hk
  rw [hmk] at hkp
  replace hmk:=congrArg Prod.snd hmk
  have hp:=getD_mem (α:=SS) (d:=T.df eS) hk2
  generalize kM (β:=SS) dU a k i=R at hself hnext hR⊢
  generalize (bg (β:=SS) dU (a.take i) k).2=k at hq hnext hmk hkp⊢
  generalize a.getD i (T.df eS)=p at hself hnext hmk hkp hp⊢
  have hlt:i<R.length:=by omega
  have hk1:0<k:=by omega
  have hkb:(dU p k).2≤4611686018427387904:=hkp
  conv=>whnf
  refine Vc.imp (tm':=[(5,i64 i),(1,i64 (k:Nat)),(0,hd0)]) (rs':=[(1000, .row 0 eS (R.set i p))]) (aA [] rfl rfl rfl ⟨⟨rfl,rfl⟩,⟨rfl,rfl⟩,⟨rfl,rfl⟩,trivial⟩ ⟨show bT (T:=T) eS R eS (R.set i p) from eu hself,trivial⟩) ?_
  clear hself
  refine Vc.LY ?_
  refine Vc.block ?_
  refine Vc.seq 1 hT ?_
  conv=>whnf
  refine ak.mk _ (qL k (by omega) (by simp only [dU] at hkb;omega)) ?_
  conv=>whnf
  refine Need.mk (idx (Nat.lt_of_lt_of_eq hlt List.length_set.symm)) ?_
  conv=>whnf
  refine Vc.cut (α:=Unit) 50 (fun _=>True) (fun _=>[(5,i64 i),(1,i64 ((k+1):Nat)),(0,hd0)]) (fun _=>[(1000, .row 0 eS (R.set i (⟨markT k,p.f1,p.f2⟩:SS)))]) hT ?_ (fun _ _=>?_)
  ·conv=>whnf
   exact jX.mk ⟨(),trivial,aA [] rfl rfl rfl ⟨⟨rfl,rfl⟩,⟨rfl,congrArg i64 (yc (k:=k) (n:=1) (by simp only [dU] at hkb;omega) (by decide))⟩,⟨rfl,rfl⟩,trivial⟩ ⟨eu (wR (e:=eS) hlt (p:SS) (fun q:T.Tb eS=>(⟨markT k,q.f1,q.f2⟩:SS))),trivial⟩⟩
  refine Vc.seq 1 hT ?_
  conv=>whnf
  refine Need.mk (idx (Nat.lt_of_lt_of_eq hlt List.length_set.symm)) ?_
  conv=>whnf
  refine Vc.cut (α:=Unit) 50 (fun _=>True) (fun _=>[(5,i64 i),(1,i64 (((k+1)+1):Nat)),(0,hd0)]) (fun _=>[(1000, .row 0 eS (R.set i (⟨markT k,(((k+1):Nat):Int),p.f2⟩:SS)))]) hT ?_ (fun _ _=>?_)
  ·conv=>whnf
   exact jX.mk ⟨(),trivial,aA [] rfl rfl rfl ⟨⟨rfl,rfl⟩,⟨rfl,congrArg i64 (yc (k:=(k+1)) (n:=1) (by simp only [dU] at hkb;omega) (by decide))⟩,⟨rfl,rfl⟩,trivial⟩ ⟨eu (wR (e:=eS) hlt (⟨markT k,p.f1,p.f2⟩:SS) (fun q:T.Tb eS=>(⟨q.f0,(((k+1):Nat):Int),q.f2⟩:SS))),trivial⟩⟩
  refine Vc.seq 1 hT ?_
  conv=>whnf
  refine Need.mk (idx (Nat.lt_of_lt_of_eq hlt List.length_set.symm)) ?_
  conv=>whnf
  refine Vc.of 1 hT ?_
  conv=>whnf
  refine Vc.of 1 hT ?_
  conv=>whnf
  exact bF.mk ⟨⟨i+1,hk2⟩,Nat.sub_lt_sub_left hk2 (Nat.lt_succ_self i),aA [] rfl rfl rfl ⟨⟨rfl,congrArg i64 (dO hk2 (by omega))⟩,⟨rfl,congrArg i64 ((congrArg (fun x:Nat=>(x:Int)) (hmk)).trans (yc (k:=((k+1)+1)) (n:=1) (by simp only [dU] at hkb;omega) (by decide)))⟩,⟨rfl,rfl⟩,trivial⟩ ⟨eu ((wR (e:=eS) hlt (⟨markT k,(((k+1):Nat):Int),p.f2⟩:SS) (fun q:T.Tb eS=>(⟨q.f0,q.f1,((((k+1)+1):Nat):Int)⟩:SS))).trans hnext),trivial⟩⟩
 ·have hk2:i=a.length:=Nat.le_antisymm hi (uF c hR)
  clear c hR
  subst hk2
  conv=>whnf
  refine Vc.of 1 hT ?_
  conv=>whnf
  exact uK.mk ⟨rfl,rfl⟩ ⟨⟨rfl,rfl⟩,rfl⟩ ⟨iv (by rw [List.take_length]),trivial⟩ ⟨show bT (T:=T) eS (kM (β:=SS) dU a k a.length) eS (bg (β:=SS) dU a k).1 from eu IE,trivial⟩
theorem Yb (a:List SK) (k:Nat) (ha:a.length≤2097152) (hy:∀y∈a,y.f1.length≤2097152) (h0:0<k) (hk:(bg (β:=SK) eX a k).2≤4611686018427387904):CallWOb T Tryz.prog 67 [.c (.ow eK a eK (bg (β:=SK) eX a k).1), .c (.c (.sc (.int .i64 (k:Int))))] (.c (.sc (.int .i64 ((bg (β:=SK) eX a k).2:Int)))):=by
 refine uT hT Tryz.func67 (by kernel_rfl) rfl rfl (fun A=>?_)
 refine Vc.seq 0 hT ?_
 conv=>whnf
 refine Vc.LY ?_
 refine Vc.seq 0 hT ?_
 conv=>whnf
 refine Vc.block ?_
 refine Vc.loop (α:={i:Nat // i≤a.length}) (fun s=>([(5,i64 s.1),(1,i64 ((bg (β:=SK) eX (a.take s.1) k).2:Nat)),(0,hd0)],[(1000, .row 0 eK (kM (β:=SK) eX a k s.1))])) (fun s=>a.length - s.1) ⟨0,Nat.zero_le _⟩ (aA [] rfl rfl rfl ⟨⟨rfl,rfl⟩,⟨rfl,rfl⟩,⟨rfl,rfl⟩,trivial⟩ ⟨show bT (T:=T) eK a eK (kM (β:=SK) eX a k 0) from eu rfl,trivial⟩) ?_
 rintro⟨i,hi⟩
 have hR:=IC (β:=SK) (f:=eX) (k:=k) hi
 refine Vc.seq 1 hT ?_
 conv=>whnf
 refine Split.mk (fun c=>?_) (fun c=>?_)
 ·have hk2:i<a.length:=Ae c hR
  clear c
  have hq:=iM (β:=SK) tC (a.take i) k
  have hself:=EP (β:=SK) (f:=eX) (k:=k) (d:=T.df eK) hk2
  have hnext:=ER (β:=SK) (f:=eX) (k:=k) (d:=T.df eK) hk2
  have hmk:=qM (β:=SK) (f:=eX) (k:=k) (d:=T.df eK) hk2
  have hkp:=Nat.le_trans (uH (β:=SK) (f:=eX) (a:=a) (k:=k) tC (i+1)) hk
  rw [hmk] at hkp
  replace hmk:=congrArg Prod.snd hmk
  have hp:=getD_mem (α:=SK) (d:=T.df eK) hk2
  have hpb:=hy _ hp
  generalize kM (β:=SK) eX a k i=R at hself hnext hR⊢
  generalize (bg (β:=SK) eX (a.take i) k).2=k at hq hnext hmk hkp⊢
  generalize a.getD i (T.df eK)=p at hself hnext hmk hkp hp hpb⊢
  have hlt:i<R.length:=by omega
  have hk1:0<k:=by omega
  have hkb:(eX p k).2≤4611686018427387904:=hkp
  conv=>whnf
  refine Vc.imp (tm':=[(5,i64 i),(1,i64 (k:Nat)),(0,hd0)]) (rs':=[(1000, .row 0 eK (R.set i p))]) (aA [] rfl rfl rfl ⟨⟨rfl,rfl⟩,⟨rfl,rfl⟩,⟨rfl,rfl⟩,trivial⟩ ⟨show bT (T:=T) eK R eK (R.set i p) from eu hself,trivial⟩) ?_
  clear hself
  refine Vc.LY ?_
  refine Vc.block ?_
  refine Vc.seq 1 hT ?_
  conv=>whnf
  refine ak.mk _ (qL k (by omega) (by simp only [eX] at hkb;omega)) ?_
  conv=>whnf
  refine Need.mk (idx (Nat.lt_of_lt_of_eq hlt List.length_set.symm)) ?_
  conv=>whnf
  refine Vc.cut (α:=Unit) 50 (fun _=>True) (fun _=>[(5,i64 i),(1,i64 ((k+1):Nat)),(0,hd0)]) (fun _=>[(1000, .row 0 eK (R.set i (⟨markT k,p.f1,p.f2⟩:SK)))]) hT ?_ (fun _ _=>?_)
  ·conv=>whnf
   exact jX.mk ⟨(),trivial,aA [] rfl rfl rfl ⟨⟨rfl,rfl⟩,⟨rfl,congrArg i64 (yc (k:=k) (n:=1) (by simp only [eX] at hkb;omega) (by decide))⟩,⟨rfl,rfl⟩,trivial⟩ ⟨eu (wR (e:=eK) hlt (p:SK) (fun q:T.Tb eK=>(⟨markT k,q.f1,q.f2⟩:SK))),trivial⟩⟩
  refine Vc.cut (α:=Unit) 50 (fun _=>True) (fun _=>[(5,i64 i),(1,i64 (((k+1)+1*p.f1.length):Nat)),(0,hd0)]) (fun _=>[(1000, .row 0 eK (R.set i (⟨markT k,jm 1 fB (k+1) p.f1.length,p.f2⟩:SK)))]) hT ?_ (fun _ _=>?_)
  ·conv=>whnf
   refine Need.mk (idx (Nat.lt_of_lt_of_eq hlt List.length_set.symm)) ?_
   conv=>whnf
   refine ak.wr [[NW.wr 5 (jm 1 fB (k+1) p.f1.length)],[NW.rd]] (.c (.sc (.int .i64 ((((k+1)+1*p.f1.length):Nat):Int)))) ?_
   conv=>whnf
   refine jK.mk (ge_ (e:=eK) hlt (⟨markT k,p.f1,p.f2⟩:SK) (fun q=>CallWOb T Tryz.prog 53 [.c (.ow 5 q.f1 5 (jm 1 fB (k+1) p.f1.length)), .c (.c (.sc (.int .i64 (((k+1):Nat):Int))))] (.c (.sc (.int .i64 ((((k+1)+1*p.f1.length):Nat):Int))))) (Zm p.f1 ((k+1)) (Nat.le_trans hpb (by decide)) (by omega) (by simp only [eX] at hkb;omega))) ?_
   conv=>whnf
   exact jX.mk ⟨(),trivial,aA [] rfl rfl rfl ⟨⟨rfl,rfl⟩,⟨rfl,rfl⟩,⟨rfl,rfl⟩,trivial⟩ ⟨eu (wR (e:=eK) hlt (⟨markT k,p.f1,p.f2⟩:SK) (fun q:T.Tb eK=>(⟨q.f0,jm 1 fB (k+1) p.f1.length,q.f2⟩:SK))),trivial⟩⟩
  refine Vc.seq 1 hT ?_
  conv=>whnf
  refine Need.mk (idx (Nat.lt_of_lt_of_eq hlt List.length_set.symm)) ?_
  conv=>whnf
  refine Vc.of 1 hT ?_
  conv=>whnf
  refine Vc.of 1 hT ?_
  conv=>whnf
  exact bF.mk ⟨⟨i+1,hk2⟩,Nat.sub_lt_sub_left hk2 (Nat.lt_succ_self i),aA [] rfl rfl rfl ⟨⟨rfl,congrArg i64 (dO hk2 (by omega))⟩,⟨rfl,congrArg i64 ((congrArg (fun x:Nat=>(x:Int)) (hmk)).trans (yc (k:=((k+1)+1*p.f1.length)) (n:=1) (by simp only [eX] at hkb;omega) (by decide)))⟩,⟨rfl,rfl⟩,trivial⟩ ⟨eu ((wR (e:=eK) hlt (⟨markT k,jm 1 fB (k+1) p.f1.length,p.f2⟩:SK) (fun q:T.Tb eK=>(⟨q.f0,q.f1,((((k+1)+1*p.f1.length):Nat):Int)⟩:SK))).trans hnext),trivial⟩⟩
 ·have hk2:i=a.length:=Nat.le_antisymm hi (uF c hR)
  clear c hR
  subst hk2
  conv=>whnf
  refine Vc.of 1 hT ?_
  conv=>whnf
  exact uK.mk ⟨rfl,rfl⟩ ⟨⟨rfl,rfl⟩,rfl⟩ ⟨iv (by rw [List.take_length]),trivial⟩ ⟨show bT (T:=T) eK (kM (β:=SK) eX a k a.length) eK (bg (β:=SK) eX a k).1 from eu IE,trivial⟩
theorem Si (a:List SN) (k:Nat) (ha:a.length≤2097152) (hy:∀y∈a,Bd y∧∀k,0<k→(bg bQ y.f1 k).2≤4611686018427387904→CallWOb T Tryz.prog 103 [.c (.ow eN y.f1 eN (bg bQ y.f1 k).1), .c (.c (.sc (.int .i64 (k:Int))))] (.c (.sc (.int .i64 ((bg bQ y.f1 k).2:Int))))) (h0:0<k) (hk:(bg (β:=SN) bQ a k).2≤4611686018427387904):CallWOb T Tryz.prog 103 [.c (.ow eN a eN (bg (β:=SN) bQ a k).1), .c (.c (.sc (.int .i64 (k:Int))))] (.c (.sc (.int .i64 ((bg (β:=SN) bQ a k).2:Int)))):=by
 refine uT hT Tryz.func103 (by kernel_rfl) rfl rfl (fun A=>?_)
 refine Vc.seq 0 hT ?_
 conv=>whnf
 refine Vc.LY ?_
 refine Vc.seq 0 hT ?_
 conv=>whnf
 refine Vc.block ?_
 refine Vc.loop (α:={i:Nat // i≤a.length}) (fun s=>([(5,i64 s.1),(1,i64 ((bg (β:=SN) bQ (a.take s.1) k).2:Nat)),(0,hd0)],[(1000, .row 0 eN (kM (β:=SN) bQ a k s.1))])) (fun s=>a.length - s.1) ⟨0,Nat.zero_le _⟩ (aA [] rfl rfl rfl ⟨⟨rfl,rfl⟩,⟨rfl,rfl⟩,⟨rfl,rfl⟩,trivial⟩ ⟨show bT (T:=T) eN a eN (kM (β:=SN) bQ a k 0) from eu rfl,trivial⟩) ?_
 rintro⟨i,hi⟩
 have hR:=IC (β:=SN) (f:=bQ) (k:=k) hi
 refine Vc.seq 1 hT ?_
 conv=>whnf
 refine Split.mk (fun c=>?_) (fun c=>?_)
 ·have hk2:i<a.length:=Ae c hR
  clear c
  have hq:=iM (β:=SN) lG (a.take i) k
  have hself:=EP (β:=SN) (f:=bQ) (k:=k) (d:=T.df eN) hk2
  have hnext:=ER (β:=SN) (f:=bQ) (k:=k) (d:=T.df eN) hk2
  have hmk:=qM (β:=SN) (f:=bQ) (k:=k) (d:=T.df eN) hk2
  have hkp:=Nat.le_trans (uH (β:=SN) (f:=bQ) (a:=a) (k:=k) lG (i+1)) hk
  rw [hmk] at hkp
  replace hmk:=congrArg Prod.snd hmk
  have hp:=getD_mem (α:=SN) (d:=T.df eN) hk2
  have hpb:=hy _ hp
  rw [vw] at hkp
  generalize kM (β:=SN) bQ a k i=R at hself hnext hR⊢
  generalize (bg (β:=SN) bQ (a.take i) k).2=k at hq hnext hmk hkp⊢
  generalize a.getD i (T.df eN)=p at hself hnext hmk hkp hp hpb⊢
  have hlt:i<R.length:=by omega
  have hk1:0<k:=by omega
  have hkb:(bg dU p.f2 (bg bQ p.f1 (k+1*p.f0.length)).2).2≤4611686018427387904:=hkp
  conv=>whnf
  refine Vc.imp (tm':=[(5,i64 i),(1,i64 (k:Nat)),(0,hd0)]) (rs':=[(1000, .row 0 eN (R.set i p))]) (aA [] rfl rfl rfl ⟨⟨rfl,rfl⟩,⟨rfl,rfl⟩,⟨rfl,rfl⟩,trivial⟩ ⟨show bT (T:=T) eN R eN (R.set i p) from eu hself,trivial⟩) ?_
  clear hself
  refine Vc.LY ?_
  refine Vc.block ?_
  refine Vc.cut (α:=Unit) 50 (fun _=>True) (fun _=>[(5,i64 i),(1,i64 ((k+1*p.f0.length):Nat)),(0,hd0)]) (fun _=>[(1000, .row 0 eN (R.set i (⟨jm 1 fS k p.f0.length,p.f1,p.f2⟩:SN)))]) hT ?_ (fun _ _=>?_)
  ·conv=>whnf
   refine Need.mk (idx (Nat.lt_of_lt_of_eq hlt List.length_set.symm)) ?_
   conv=>whnf
   refine ak.wr [[NW.wr 9 (jm 1 fS k p.f0.length)],[NW.rd]] (.c (.sc (.int .i64 (((k+1*p.f0.length):Nat):Int)))) ?_
   conv=>whnf
   refine jK.mk (ge_ (e:=eN) hlt (p:SN) (fun q=>CallWOb T Tryz.prog 48 [.c (.ow 9 q.f0 9 (jm 1 fS k p.f0.length)), .c (.c (.sc (.int .i64 ((k:Nat):Int))))] (.c (.sc (.int .i64 (((k+1*p.f0.length):Nat):Int))))) (GZ p.f0 (k) (Nat.le_trans hpb.1.l0 (by decide)) (by omega) (Nat.le_trans (Nat.le_trans (iM lG p.f1 _) (iM mQ p.f2 _)) hkb))) ?_
   conv=>whnf
   exact jX.mk ⟨(),trivial,aA [] rfl rfl rfl ⟨⟨rfl,rfl⟩,⟨rfl,rfl⟩,⟨rfl,rfl⟩,trivial⟩ ⟨eu (wR (e:=eN) hlt (p:SN) (fun q:T.Tb eN=>(⟨jm 1 fS k p.f0.length,q.f1,q.f2⟩:SN))),trivial⟩⟩
  refine Vc.cut (α:=Unit) 50 (fun _=>True) (fun _=>[(5,i64 i),(1,i64 ((bg bQ p.f1 (k+1*p.f0.length)).2:Nat)),(0,hd0)]) (fun _=>[(1000, .row 0 eN (R.set i (⟨jm 1 fS k p.f0.length,(bg bQ p.f1 (k+1*p.f0.length)).1,p.f2⟩:SN)))]) hT ?_ (fun _ _=>?_)
  ·conv=>whnf
   refine Need.mk (idx (Nat.lt_of_lt_of_eq hlt List.length_set.symm)) ?_
   conv=>whnf
   refine ak.wr [[NW.wr eN ((bg bQ p.f1 (k+1*p.f0.length)).1)],[NW.rd]] (.c (.sc (.int .i64 (((bg bQ p.f1 (k+1*p.f0.length)).2:Nat):Int)))) ?_
   conv=>whnf
   refine jK.mk (ge_ (e:=eN) hlt (⟨jm 1 fS k p.f0.length,p.f1,p.f2⟩:SN) (fun q=>CallWOb T Tryz.prog 103 [.c (.ow eN q.f1 eN ((bg bQ p.f1 (k+1*p.f0.length)).1)), .c (.c (.sc (.int .i64 (((k+1*p.f0.length):Nat):Int))))] (.c (.sc (.int .i64 (((bg bQ p.f1 (k+1*p.f0.length)).2:Nat):Int))))) (hpb.2 ((k+1*p.f0.length)) (by omega) (Nat.le_trans (iM mQ p.f2 _) hkb))) ?_
   conv=>whnf
   exact jX.mk ⟨(),trivial,aA [] rfl rfl rfl ⟨⟨rfl,rfl⟩,⟨rfl,rfl⟩,⟨rfl,rfl⟩,trivial⟩ ⟨eu (wR (e:=eN) hlt (⟨jm 1 fS k p.f0.length,p.f1,p.f2⟩:SN) (fun q:T.Tb eN=>(⟨q.f0,(bg bQ p.f1 (k+1*p.f0.length)).1,q.f2⟩:SN))),trivial⟩⟩
  refine Vc.of 1 hT ?_
  conv=>whnf
  refine Need.mk (idx (Nat.lt_of_lt_of_eq hlt List.length_set.symm)) ?_
  conv=>whnf
  refine ak.wr [[NW.wr eS ((bg dU p.f2 (bg bQ p.f1 (k+1*p.f0.length)).2).1)],[NW.rd]] (.c (.sc (.int .i64 (((bg dU p.f2 (bg bQ p.f1 (k+1*p.f0.length)).2).2:Nat):Int)))) ?_
  conv=>whnf
  refine jK.mk (ge_ (e:=eN) hlt (⟨jm 1 fS k p.f0.length,(bg bQ p.f1 (k+1*p.f0.length)).1,p.f2⟩:SN) (fun q=>CallWOb T Tryz.prog 34 [.c (.ow eS q.f2 eS ((bg dU p.f2 (bg bQ p.f1 (k+1*p.f0.length)).2).1)), .c (.c (.sc (.int .i64 (((bg bQ p.f1 (k+1*p.f0.length)).2:Nat):Int))))] (.c (.sc (.int .i64 (((bg dU p.f2 (bg bQ p.f1 (k+1*p.f0.length)).2).2:Nat):Int))))) (RZ p.f2 ((bg bQ p.f1 (k+1*p.f0.length)).2) hpb.1.l2 (Nat.lt_of_lt_of_le (show 0<k+1*p.f0.length by omega) (iM lG _ _)) hkb)) ?_
  conv=>whnf
  refine Vc.of 1 hT ?_
  conv=>whnf
  exact bF.mk ⟨⟨i+1,hk2⟩,Nat.sub_lt_sub_left hk2 (Nat.lt_succ_self i),aA [] rfl rfl rfl ⟨⟨rfl,congrArg i64 (dO hk2 (by omega))⟩,⟨rfl,congrArg i64 ((congrArg (fun x:Nat=>(x:Int)) (hmk.trans (show(bQ p k).2=_ from congrArg Prod.snd (vw p k)))).trans (rfl))⟩,⟨rfl,rfl⟩,trivial⟩ ⟨eu ((wR (e:=eN) hlt (⟨jm 1 fS k p.f0.length,(bg bQ p.f1 (k+1*p.f0.length)).1,p.f2⟩:SN) (fun q:T.Tb eN=>(⟨q.f0,q.f1,(bg dU p.f2 (bg bQ p.f1 (k+1*p.f0.length)).2).1⟩:SN))).trans (Eq.trans (congrArg (fun z:SN × Nat=>List.set R i z.1) (vw p k).symm) hnext)),trivial⟩⟩
 ·have hk2:i=a.length:=Nat.le_antisymm hi (uF c hR)
  clear c hR
  subst hk2
  conv=>whnf
  refine Vc.of 1 hT ?_
  conv=>whnf
  exact uK.mk ⟨rfl,rfl⟩ ⟨⟨rfl,rfl⟩,rfl⟩ ⟨iv (by rw [List.take_length]),trivial⟩ ⟨show bT (T:=T) eN (kM (β:=SN) bQ a k a.length) eN (bg (β:=SN) bQ a k).1 from eu IE,trivial⟩
theorem OB:∀(n:SN),Bd n→∀k,0<k→(bg bQ n.f1 k).2≤4611686018427387904→CallWOb T Tryz.prog 103 [.c (.ow eN n.f1 eN (bg bQ n.f1 k).1), .c (.c (.sc (.int .i64 (k:Int))))] (.c (.sc (.int .i64 ((bg bQ n.f1 k).2:Int)))):=fun n hn k h0 hk=>
 Si n.f1 k hn.l1 (fun y hy=>⟨hn.kid y hy,OB y (hn.kid y hy)⟩) h0 hk
termination_by n=>SizeOf.sizeOf n
decreasing_by exact kG hy
theorem aan (n:SN) (k:Nat) (hn:Bd n) (h0:0<k) (hk:(bQ n k).2≤4611686018427387904):CallWOb T Tryz.prog 23 [.ag [.ow 9 n.f0 9 (bQ n k).1.f0, .ow eN n.f1 eN (bQ n k).1.f1, .ow eS n.f2 eS (bQ n k).1.f2], .c (.c (.sc (.int .i64 (k:Int))))] (.c (.sc (.int .i64 ((bQ n k).2:Int)))):=by
 rw [vw] at hk⊢
 have g1:=iM lG n.f1 (k+1*n.f0.length)
 have g2:=iM mQ n.f2 (bg bQ n.f1 (k+1*n.f0.length)).2
 have h1:=GZ n.f0 k (Nat.le_trans hn.l0 (by decide)) h0 (Nat.le_trans (Nat.le_trans g1 g2) hk)
 have h2:=OB n hn (k+1*n.f0.length) (by omega) (Nat.le_trans g2 hk)
 have h3:=RZ n.f2 (bg bQ n.f1 (k+1*n.f0.length)).2 hn.l2 (by omega) hk
 refine nY hT Tryz.func23 (by kernel_rfl) rfl rfl (fun A=>?_)
 conv=>whnf
 refine ak.wr [[NW.wr 9 (jm 1 fS k n.f0.length)],[NW.rd]] (.c (.sc (.int .i64 ((k+1*n.f0.length:Nat):Int)))) ?_
 conv=>whnf
 refine jK.mk h1 ?_
 conv=>whnf
 refine ak.wr [[NW.wr eN (bg bQ n.f1 (k+1*n.f0.length)).1],[NW.rd]] (.c (.sc (.int .i64 ((bg bQ n.f1 (k+1*n.f0.length)).2:Int)))) ?_
 conv=>whnf
 refine jK.mk h2 ?_
 conv=>whnf
 refine ak.wr [[NW.wr eS (bg dU n.f2 (bg bQ n.f1 (k+1*n.f0.length)).2).1],[NW.rd]] (.c (.sc (.int .i64 ((bg dU n.f2 (bg bQ n.f1 (k+1*n.f0.length)).2).2:Int)))) ?_
 conv=>whnf
 refine jK.mk h3 ?_
 conv=>whnf
 exact uK.mk ⟨rfl,rfl⟩ ⟨⟨rfl,rfl⟩,rfl⟩ ⟨rfl,trivial⟩ ⟨rfl,rfl,rfl,trivial⟩
end Go.Proofs.YtcnfgfomholheaaGreatDoor.Q
end
section
namespace Go.Proofs.YtcnfgfomholheaaGreatDoor.Q
open Go.RowKit Go.Proofs.YtcnfgfomholheaaGreatDoor.Z
set_option linter.unusedVariables false
set_option linter.unusedSimpArgs false
set_option maxRecDepth 100000
set_option maxHeartbeats 4000000
theorem yG {n:Nat} {q:Prop} (c:decide ((n:Int)<0)=true):q:=by have:=La c;omega
theorem Zn (n k:Nat) (hl:n≤140737488351232) (h0:0<k) (hk:k+1*n≤4611686018427387904):aG T Tryz.prog 133 [.c (.sl 5 (jm 1 fB k n)), .c (.sc (.int .i64 (k:Int)))] (.c (.sc (.int .i64 ((k+1*n:Nat):Int)))):=by
 refine aH hT Tryz.func133 (by kernel_rfl) rfl rfl (fun A=>?_)
 conv=>whnf
 refine dF.mk {i:Nat // i≤n} (fun p=>(0,[(5,i64 p.1),(1,i64 (k+1*p.1:Nat)),(0,im 5 (jm 1 fB k n))],[])) (fun p=>n - p.1) ⟨0,Nat.zero_le _⟩ (aA [] rfl rfl rfl ⟨⟨rfl,rfl⟩,⟨rfl,rfl⟩,⟨rfl,rfl⟩,trivial⟩ trivial) ?_
 rintro⟨i,hi⟩
 conv=>whnf
 refine Split.mk (fun c=>?_) (fun c=>?_)
 ·have hk2:i<n:=Ae c lq
  clear c
  have hb:k+1*i+1≤4611686018427387904:=by omega
  conv=>whnf
  refine Need.mk (idx (Nat.lt_of_lt_of_eq hk2 lq.symm)) ?_
  conv=>whnf
  refine Split.mk (fun c=>(rV c (ML (s:=1) (f:=fB) (k:=k) (d:=(0:Int)) hk2)).elim) (fun c=>?_)
  clear c
  conv=>whnf
  exact bF.mk ⟨⟨i+1,hk2⟩,Nat.sub_lt_sub_left hk2 (Nat.lt_succ_self i),aA [] rfl rfl rfl ⟨⟨rfl,congrArg i64 (dO hk2 hl)⟩,⟨rfl,congrArg i64 (yc (k:=k+1*i) (n:=1) (by omega) (by decide))⟩,⟨rfl,rfl⟩,trivial⟩ trivial⟩
 ·have hk2:i=n:=Nat.le_antisymm hi (uF c lq)
  clear c
  conv=>whnf
  subst hk2
  exact aC.mk ⟨rfl,rfl⟩ ⟨rfl,rfl⟩ ⟨rfl,trivial⟩
theorem aaw (n k:Nat) (hl:n≤140737488351232) (h0:0<k) (hk:k+1*n≤4611686018427387904):aG T Tryz.prog 62 [.c (.sl 3 (jm 1 fI k n)), .c (.sc (.int .i64 (k:Int)))] (.c (.sc (.int .i64 ((k+1*n:Nat):Int)))):=by
 refine aH hT Tryz.func62 (by kernel_rfl) rfl rfl (fun A=>?_)
 conv=>whnf
 refine dF.mk {i:Nat // i≤n} (fun p=>(0,[(5,i64 p.1),(1,i64 (k+1*p.1:Nat)),(0,im 3 (jm 1 fI k n))],[])) (fun p=>n - p.1) ⟨0,Nat.zero_le _⟩ (aA [] rfl rfl rfl ⟨⟨rfl,rfl⟩,⟨rfl,rfl⟩,⟨rfl,rfl⟩,trivial⟩ trivial) ?_
 rintro⟨i,hi⟩
 conv=>whnf
 refine Split.mk (fun c=>?_) (fun c=>?_)
 ·have hk2:i<n:=Ae c lq
  clear c
  have hb:k+1*i+1≤4611686018427387904:=by omega
  conv=>whnf
  refine Need.mk (idx (Nat.lt_of_lt_of_eq hk2 lq.symm)) ?_
  conv=>whnf
  refine Split.mk (fun c=>(rV c (ML (s:=1) (f:=fI) (k:=k) (d:=(0:Int)) hk2)).elim) (fun c=>?_)
  clear c
  conv=>whnf
  exact bF.mk ⟨⟨i+1,hk2⟩,Nat.sub_lt_sub_left hk2 (Nat.lt_succ_self i),aA [] rfl rfl rfl ⟨⟨rfl,congrArg i64 (dO hk2 hl)⟩,⟨rfl,congrArg i64 (yc (k:=k+1*i) (n:=1) (by omega) (by decide))⟩,⟨rfl,rfl⟩,trivial⟩ trivial⟩
 ·have hk2:i=n:=Nat.le_antisymm hi (uF c lq)
  clear c
  conv=>whnf
  subst hk2
  exact aC.mk ⟨rfl,rfl⟩ ⟨rfl,rfl⟩ ⟨rfl,trivial⟩
theorem G5 (n k:Nat) (hl:n≤140737488351232) (h0:0<k) (hk:k+1*n≤4611686018427387904):aG T Tryz.prog 104 [.c (.sl 9 (jm 1 fS k n)), .c (.sc (.int .i64 (k:Int)))] (.c (.sc (.int .i64 ((k+1*n:Nat):Int)))):=by
 refine aH hT Tryz.func104 (by kernel_rfl) rfl rfl (fun A=>?_)
 conv=>whnf
 refine dF.mk {i:Nat // i≤n} (fun p=>(0,[(5,i64 p.1),(1,i64 (k+1*p.1:Nat)),(0,im 9 (jm 1 fS k n))],[])) (fun p=>n - p.1) ⟨0,Nat.zero_le _⟩ (aA [] rfl rfl rfl ⟨⟨rfl,rfl⟩,⟨rfl,rfl⟩,⟨rfl,rfl⟩,trivial⟩ trivial) ?_
 rintro⟨i,hi⟩
 conv=>whnf
 refine Split.mk (fun c=>?_) (fun c=>?_)
 ·have hk2:i<n:=Ae c lq
  clear c
  have hb:k+1*i+1≤4611686018427387904:=by omega
  conv=>whnf
  refine Need.mk (idx (Nat.lt_of_lt_of_eq hk2 lq.symm)) ?_
  conv=>whnf
  refine ak.mk _ (qL (k+1*i) (by omega) (by omega)) ?_
  conv=>whnf
  refine aT.mk ⟨by kernel_rfl,by kernel_rfl⟩ ?_
  conv=>whnf
  refine Split.mk (fun c=>(Ik c (ML (s:=1) (f:=fS) (k:=k) (d:=ByteArray.empty) hk2)).elim) (fun c=>?_)
  clear c
  conv=>whnf
  exact bF.mk ⟨⟨i+1,hk2⟩,Nat.sub_lt_sub_left hk2 (Nat.lt_succ_self i),aA [] rfl rfl rfl ⟨⟨rfl,congrArg i64 (dO hk2 hl)⟩,⟨rfl,congrArg i64 (yc (k:=k+1*i) (n:=1) (by omega) (by decide))⟩,⟨rfl,rfl⟩,trivial⟩ trivial⟩
 ·have hk2:i=n:=Nat.le_antisymm hi (uF c lq)
  clear c
  conv=>whnf
  subst hk2
  exact aC.mk ⟨rfl,rfl⟩ ⟨rfl,rfl⟩ ⟨rfl,trivial⟩
theorem MN {β:Type} {f:β→Nat→β × Nat} {a:List β} {k i:Nat} {d:β} (h:i<a.length):(bg f a k).1.getD i d=(f (a.getD i d) (bg f (a.take i) k).2).1:=by
 have e:a.getD i d=a[i]:=by simp [h]
 have h1:=Gn (f:=f) (a.take i) (a.drop i) k
 rw [List.take_append_drop,List.drop_eq_getElem_cons h] at h1
 have hl:(bg f (a.take i) k).1.length=i:=by rw [uG,List.length_take];omega
 rw [h1,List.getD_eq_getElem?_getD,List.getElem?_append_right (by omega),hl,Nat.sub_self,e]
 rfl
theorem Xm {e:Nat} {R:List (T.Tb e)} {i:Nat} {x:T.Tb e} (h:R.getD i (T.df e)=x) (C:T.Tb e→Prop) (hc:C x):C (bP T e R i):=by
 rw [show bP T e R i=x from h];exact hc
theorem k3_ {k:Nat} (h:k+3≤4611686018427387904):((k+3:Nat):Int)=wrap64 (wrap64 (wrap64 ((k:Int)+1)+1)+1):=by simp only [wrap64];omega
theorem agi {k:Nat} (h:k+2≤4611686018427387904):((k+2:Nat):Int)=wrap64 (wrap64 ((k:Int)+1)+1):=by simp only [wrap64];omega
theorem Sj (a:List SS) (k:Nat) (ha:a.length≤2097152) (h0:0<k) (hk:(bg (β:=SS) dU a k).2≤4611686018427387904):aG T Tryz.prog 35 [.c (.sl eS (bg (β:=SS) dU a k).1), .c (.sc (.int .i64 (k:Int)))] (.c (.sc (.int .i64 ((bg (β:=SS) dU a k).2:Int)))):=by
 refine aH hT Tryz.func35 (by kernel_rfl) rfl rfl (fun A=>?_)
 conv=>whnf
 refine dF.mk {i:Nat // i≤a.length} (fun p=>(0,[(5,i64 p.1),(1,i64 ((bg (β:=SS) dU (a.take p.1) k).2:Nat)),(0,im eS (bg (β:=SS) dU a k).1)],[])) (fun p=>a.length - p.1) ⟨0,Nat.zero_le _⟩ (aA [] rfl rfl rfl ⟨⟨rfl,rfl⟩,⟨rfl,rfl⟩,⟨rfl,rfl⟩,trivial⟩ trivial) ?_
 rintro⟨i,hi⟩
 have hR:=uG (f:=dU) a k
 conv=>whnf
 refine Split.mk (fun c=>?_) (fun c=>?_)
 ·have hk2:i<a.length:=Ae c hR
  clear c
  have hq:=iM (β:=SS) mQ (a.take i) k
  have hg:=MN (β:=SS) (f:=dU) (k:=k) (d:=T.df eS) hk2
  have hmk:=congrArg Prod.snd (qM (β:=SS) (f:=dU) (k:=k) (d:=T.df eS) hk2)
  have hkb:=Nat.le_trans (uH (β:=SS) (f:=dU) (a:=a) (k:=k) mQ (i+1)) hk
  rw [hmk] at hkb
  have hp:=getD_mem (α:=SS) (d:=T.df eS) hk2
  dsimp only at hkb
  generalize (bg (β:=SS) dU (a.take i) k).2=k2 at hq hg hmk hkb⊢
  generalize a.getD i (T.df eS)=p at hg hmk hkb hp⊢
  have hk1:0<k2:=by omega
  generalize hrw:(bg (β:=SS) dU a k).1=R at hg hR⊢
  have hlt:i<R.length:=by omega
  conv=>whnf
  refine Need.mk (idx hlt) ?_
  conv=>whnf
  refine ak.mk _ (qL k2 (by omega) (by simp only [dU] at hkb;omega)) ?_
  conv=>whnf
  refine aT.mk ⟨by kernel_rfl,by kernel_rfl⟩ ?_
  conv=>whnf
  refine Split.mk (fun c=>(Ik c (congrArg (fun z:SS=>z.f0) hg)).elim) (fun c=>?_)
  clear c
  conv=>whnf
  refine Need.mk (idx hlt) ?_
  conv=>whnf
  refine Split.mk (fun c=>(rV c ((congrArg (fun z:SS=>z.f1) hg).trans (yc (k:=k2) (n:=1) (by simp only [dU] at hkb;omega) (by decide)))).elim) (fun c=>?_)
  clear c
  conv=>whnf
  refine Need.mk (idx hlt) ?_
  conv=>whnf
  refine Split.mk (fun c=>(rV c ((congrArg (fun z:SS=>z.f2) hg).trans (agi (k:=k2) (by simp only [dU] at hkb;omega)))).elim) (fun c=>?_)
  clear c
  conv=>whnf
  exact bF.mk ⟨⟨i+1,hk2⟩,Nat.sub_lt_sub_left hk2 (Nat.lt_succ_self i),aA [] rfl rfl rfl ⟨⟨rfl,congrArg i64 (dO hk2 (by omega))⟩,⟨rfl,congrArg i64 ((congrArg (fun x:Nat=>(x:Int)) (hmk)).trans (k3_ (k:=k2) (by simp only [dU] at hkb;omega)))⟩,⟨rfl,rfl⟩,trivial⟩ trivial⟩
 ·have hk2:i=a.length:=Nat.le_antisymm hi (uF c hR)
  clear c
  conv=>whnf
  subst hk2
  exact aC.mk ⟨rfl,rfl⟩ ⟨rfl,rfl⟩ ⟨iv (by rw [List.take_length]),trivial⟩
theorem Yc (a:List SK) (k:Nat) (ha:a.length≤2097152) (hy:∀y∈a,y.f1.length≤2097152) (h0:0<k) (hk:(bg (β:=SK) eX a k).2≤4611686018427387904):aG T Tryz.prog 68 [.c (.sl eK (bg (β:=SK) eX a k).1), .c (.sc (.int .i64 (k:Int)))] (.c (.sc (.int .i64 ((bg (β:=SK) eX a k).2:Int)))):=by
 refine aH hT Tryz.func68 (by kernel_rfl) rfl rfl (fun A=>?_)
 conv=>whnf
 refine dF.mk {i:Nat // i≤a.length} (fun p=>(0,[(5,i64 p.1),(1,i64 ((bg (β:=SK) eX (a.take p.1) k).2:Nat)),(0,im eK (bg (β:=SK) eX a k).1)],[])) (fun p=>a.length - p.1) ⟨0,Nat.zero_le _⟩ (aA [] rfl rfl rfl ⟨⟨rfl,rfl⟩,⟨rfl,rfl⟩,⟨rfl,rfl⟩,trivial⟩ trivial) ?_
 rintro⟨i,hi⟩
 have hR:=uG (f:=eX) a k
 conv=>whnf
 refine Split.mk (fun c=>?_) (fun c=>?_)
 ·have hk2:i<a.length:=Ae c hR
  clear c
  have hq:=iM (β:=SK) tC (a.take i) k
  have hg:=MN (β:=SK) (f:=eX) (k:=k) (d:=T.df eK) hk2
  have hmk:=congrArg Prod.snd (qM (β:=SK) (f:=eX) (k:=k) (d:=T.df eK) hk2)
  have hkb:=Nat.le_trans (uH (β:=SK) (f:=eX) (a:=a) (k:=k) tC (i+1)) hk
  rw [hmk] at hkb
  have hp:=getD_mem (α:=SK) (d:=T.df eK) hk2
  have hpb:=hy _ hp
  dsimp only at hkb
  generalize (bg (β:=SK) eX (a.take i) k).2=k2 at hq hg hmk hkb⊢
  generalize a.getD i (T.df eK)=p at hg hmk hkb hp hpb⊢
  have hk1:0<k2:=by omega
  generalize hrw:(bg (β:=SK) eX a k).1=R at hg hR⊢
  have hlt:i<R.length:=by omega
  conv=>whnf
  refine Need.mk (idx hlt) ?_
  conv=>whnf
  refine ak.mk _ (qL k2 (by omega) (by simp only [eX] at hkb;omega)) ?_
  conv=>whnf
  refine aT.mk ⟨by kernel_rfl,by kernel_rfl⟩ ?_
  conv=>whnf
  refine Split.mk (fun c=>(Ik c (congrArg (fun z:SK=>z.f0) hg)).elim) (fun c=>?_)
  clear c
  conv=>whnf
  refine Need.mk (idx hlt) ?_
  conv=>whnf
  refine ak.mk (.c (.sc (.int .i64 (((k2+1+1*p.f1.length):Nat):Int)))) (Xm (e:=eK) hg (fun q=>aG T Tryz.prog 133 [.c (.sl 5 q.f1), .c (.sc (.int .i64 (wrap64 ((k2:Int)+1))))] (.c (.sc (.int .i64 (((k2+1+1*p.f1.length):Nat):Int))))) (by have h:=Zn p.f1.length (k2+1) (Nat.le_trans hpb (by decide)) (by omega) (by simp only [eX] at hkb;omega);rw [yc (k:=k2) (n:=1) (by simp only [eX] at hkb;omega) (by decide)] at h;exact h)) ?_
  conv=>whnf
  refine Split.mk (fun c=>yG c) (fun c=>?_)
  clear c
  conv=>whnf
  refine Need.mk (idx hlt) ?_
  conv=>whnf
  refine Split.mk (fun c=>(rV c ((congrArg (fun z:SK=>z.f2) hg).trans rfl)).elim) (fun c=>?_)
  clear c
  conv=>whnf
  exact bF.mk ⟨⟨i+1,hk2⟩,Nat.sub_lt_sub_left hk2 (Nat.lt_succ_self i),aA [] rfl rfl rfl ⟨⟨rfl,congrArg i64 (dO hk2 (by omega))⟩,⟨rfl,congrArg i64 ((congrArg (fun x:Nat=>(x:Int)) (hmk)).trans (yc (k:=(k2+1+1*p.f1.length)) (n:=1) (by simp only [eX] at hkb;omega) (by decide)))⟩,⟨rfl,rfl⟩,trivial⟩ trivial⟩
 ·have hk2:i=a.length:=Nat.le_antisymm hi (uF c hR)
  clear c
  conv=>whnf
  subst hk2
  exact aC.mk ⟨rfl,rfl⟩ ⟨rfl,rfl⟩ ⟨iv (by rw [List.take_length]),trivial⟩
theorem Sl (a:List SN) (k:Nat) (ha:a.length≤2097152) (hy:∀y∈a,Bd y∧∀k,0<k→(bg bQ y.f1 k).2≤4611686018427387904→aG T Tryz.prog 105 [.c (.sl eN (bg bQ y.f1 k).1), .c (.sc (.int .i64 (k:Int)))] (.c (.sc (.int .i64 ((bg bQ y.f1 k).2:Int))))) (h0:0<k) (hk:(bg (β:=SN) bQ a k).2≤4611686018427387904):aG T Tryz.prog 105 [.c (.sl eN (bg (β:=SN) bQ a k).1), .c (.sc (.int .i64 (k:Int)))] (.c (.sc (.int .i64 ((bg (β:=SN) bQ a k).2:Int)))):=by
 refine aH hT Tryz.func105 (by kernel_rfl) rfl rfl (fun A=>?_)
 conv=>whnf
 refine dF.mk {i:Nat // i≤a.length} (fun p=>(0,[(5,i64 p.1),(1,i64 ((bg (β:=SN) bQ (a.take p.1) k).2:Nat)),(0,im eN (bg (β:=SN) bQ a k).1)],[])) (fun p=>a.length - p.1) ⟨0,Nat.zero_le _⟩ (aA [] rfl rfl rfl ⟨⟨rfl,rfl⟩,⟨rfl,rfl⟩,⟨rfl,rfl⟩,trivial⟩ trivial) ?_
 rintro⟨i,hi⟩
 have hR:=uG (f:=bQ) a k
 conv=>whnf
 refine Split.mk (fun c=>?_) (fun c=>?_)
 ·have hk2:i<a.length:=Ae c hR
  clear c
  have hq:=iM (β:=SN) lG (a.take i) k
  have hg:=MN (β:=SN) (f:=bQ) (k:=k) (d:=T.df eN) hk2
  have hmk:=congrArg Prod.snd (qM (β:=SN) (f:=bQ) (k:=k) (d:=T.df eN) hk2)
  have hkb:=Nat.le_trans (uH (β:=SN) (f:=bQ) (a:=a) (k:=k) lG (i+1)) hk
  rw [hmk] at hkb
  have hp:=getD_mem (α:=SN) (d:=T.df eN) hk2
  have hpb:=hy _ hp
  rw [vw] at hkb hg
  dsimp only at hkb
  generalize (bg (β:=SN) bQ (a.take i) k).2=k2 at hq hg hmk hkb⊢
  generalize a.getD i (T.df eN)=p at hg hmk hkb hp hpb⊢
  have hk1:0<k2:=by omega
  generalize hrw:(bg (β:=SN) bQ a k).1=R at hg hR⊢
  have hlt:i<R.length:=by omega
  conv=>whnf
  refine Need.mk (idx hlt) ?_
  conv=>whnf
  refine ak.mk (.c (.sc (.int .i64 (((k2+1*p.f0.length):Nat):Int)))) (Xm (e:=eN) hg (fun q=>aG T Tryz.prog 104 [.c (.sl 9 q.f0), .c (.sc (.int .i64 ((k2:Nat))))] (.c (.sc (.int .i64 (((k2+1*p.f0.length):Nat):Int))))) (G5 p.f0.length k2 (Nat.le_trans hpb.1.l0 (by decide)) (by omega) (Nat.le_trans (Nat.le_trans (iM lG p.f1 _) (iM mQ p.f2 _)) hkb))) ?_
  conv=>whnf
  refine Split.mk (fun c=>yG c) (fun c=>?_)
  clear c
  conv=>whnf
  refine Need.mk (idx hlt) ?_
  conv=>whnf
  refine ak.mk (.c (.sc (.int .i64 (((bg bQ p.f1 (k2+1*p.f0.length)).2:Nat):Int)))) (Xm (e:=eN) hg (fun q=>aG T Tryz.prog 105 [.c (.sl eN q.f1), .c (.sc (.int .i64 (((k2+1*p.f0.length):Nat))))] (.c (.sc (.int .i64 (((bg bQ p.f1 (k2+1*p.f0.length)).2:Nat):Int))))) (hpb.2 ((k2+1*p.f0.length)) (by omega) (Nat.le_trans (iM mQ p.f2 _) hkb))) ?_
  conv=>whnf
  refine Split.mk (fun c=>yG c) (fun c=>?_)
  clear c
  conv=>whnf
  refine Need.mk (idx hlt) ?_
  conv=>whnf
  refine ak.mk (.c (.sc (.int .i64 (((bg dU p.f2 (bg bQ p.f1 (k2+1*p.f0.length)).2).2:Nat):Int)))) (Xm (e:=eN) hg (fun q=>aG T Tryz.prog 35 [.c (.sl eS q.f2), .c (.sc (.int .i64 (((bg bQ p.f1 (k2+1*p.f0.length)).2:Nat))))] (.c (.sc (.int .i64 (((bg dU p.f2 (bg bQ p.f1 (k2+1*p.f0.length)).2).2:Nat):Int))))) (Sj p.f2 ((bg bQ p.f1 (k2+1*p.f0.length)).2) hpb.1.l2 (Nat.lt_of_lt_of_le (show 0<k2+1*p.f0.length by omega) (iM lG _ _)) hkb)) ?_
  conv=>whnf
  refine Split.mk (fun c=>yG c) (fun c=>?_)
  clear c
  conv=>whnf
  exact bF.mk ⟨⟨i+1,hk2⟩,Nat.sub_lt_sub_left hk2 (Nat.lt_succ_self i),aA [] rfl rfl rfl ⟨⟨rfl,congrArg i64 (dO hk2 (by omega))⟩,⟨rfl,congrArg i64 ((congrArg (fun x:Nat=>(x:Int)) (hmk.trans (show(bQ p k2).2=_ from congrArg Prod.snd (vw p k2)))).trans (rfl))⟩,⟨rfl,rfl⟩,trivial⟩ trivial⟩
 ·have hk2:i=a.length:=Nat.le_antisymm hi (uF c hR)
  clear c
  conv=>whnf
  subst hk2
  exact aC.mk ⟨rfl,rfl⟩ ⟨rfl,rfl⟩ ⟨iv (by rw [List.take_length]),trivial⟩
theorem OD:∀(n:SN),Bd n→∀k,0<k→(bg bQ n.f1 k).2≤4611686018427387904→aG T Tryz.prog 105 [.c (.sl eN (bg bQ n.f1 k).1), .c (.sc (.int .i64 (k:Int)))] (.c (.sc (.int .i64 ((bg bQ n.f1 k).2:Int)))):=fun n hn k h0 hk=>
 Sl n.f1 k hn.l1 (fun y hy=>⟨hn.kid y hy,OD y (hn.kid y hy)⟩) h0 hk
termination_by n=>SizeOf.sizeOf n
decreasing_by exact kG hy
theorem aap (n:SN) (k:Nat) (hn:Bd n) (h0:0<k) (hk:(bQ n k).2≤4611686018427387904):aG T Tryz.prog 24 [.ag [.sl 9 (bQ n k).1.f0, .sl eN (bQ n k).1.f1, .sl eS (bQ n k).1.f2], .c (.sc (.int .i64 (k:Int)))] (.c (.sc (.int .i64 ((bQ n k).2:Int)))):=by
 rw [vw] at hk⊢
 have g1:=iM lG n.f1 (k+1*n.f0.length)
 have g2:=iM mQ n.f2 (bg bQ n.f1 (k+1*n.f0.length)).2
 have h1:=G5 n.f0.length k (Nat.le_trans hn.l0 (by decide)) h0 (Nat.le_trans (Nat.le_trans g1 g2) hk)
 have h2:=OD n hn (k+1*n.f0.length) (by omega) (Nat.le_trans g2 hk)
 have h3:=Sj n.f2 (bg bQ n.f1 (k+1*n.f0.length)).2 hn.l2 (by omega) hk
 refine aH hT Tryz.func24 (by kernel_rfl) rfl rfl (fun A=>?_)
 conv=>whnf
 refine ak.mk _ h1 ?_
 conv=>whnf
 refine Split.mk (fun c=>yG c) (fun c=>?_)
 clear c
 conv=>whnf
 refine ak.mk _ h2 ?_
 conv=>whnf
 refine Split.mk (fun c=>yG c) (fun c=>?_)
 clear c
 conv=>whnf
 refine ak.mk _ h3 ?_
 conv=>whnf
 refine Split.mk (fun c=>yG c) (fun c=>?_)
 clear c
 conv=>whnf
 exact aC.mk ⟨rfl,rfl⟩ ⟨rfl,rfl⟩ ⟨rfl,trivial⟩
end Go.Proofs.YtcnfgfomholheaaGreatDoor.Q
end
section
namespace Go.Proofs.YtcnfgfomholheaaGreatDoor.Q
open Go.RowKit Go.Proofs.YtcnfgfomholheaaGreatDoor.Z Go.Proofs.YtcnfgfomholheaaGreatDoor.X Go.Proofs.YtcnfgfomholheaaGreatDoor.Pure
set_option linter.unusedVariables false
set_option linter.unusedSimpArgs false
abbrev NI:=SN
abbrev SI:=SS
abbrev EI:=SE
theorem aa9 (b:Nat) (h:Lib.firstT b % 8=2∨Lib.firstT b % 8=3∨Lib.firstT b % 8=4):128≤Lib.accLo (Lib.firstT b / 16):=by
 unfold Lib.firstT at h⊢
 unfold Lib.accLo
 repeat' split at h
 all_goals first | (exfalso;omega) | (simp [*];done) | (simp [*];omega)
theorem Sr (a b:List UInt8) (i:Nat) (h:i<a.length):(a++47::b).getD i 0=a.getD i 0:=by
 rw [List.getD_eq_getElem?_getD,List.getD_eq_getElem?_getD,List.getElem?_append_left h]
theorem Sv (a b:List UInt8) (i:Nat) (h:i=a.length):(a++47::b).getD i 0=47:=by
 subst h
 rw [List.getD_eq_getElem?_getD,List.getElem?_append_right (Nat.le_refl _)]
 simp
theorem abb (a b:List UInt8) (k:Nat) (h:k≤a.length):(a++47::b).drop k=a.drop k++47::b:=List.drop_append_of_le_length h
theorem Zo (a b:List UInt8) (h0:0<a.length) (sz lo hi k:Nat) (hlo:sz=2∨sz=3∨sz=4→128≤lo)
  (h:Lib.checkN (a++47::b).length ((a++47::b).getD 1 0).toNat ((a++47::b).getD 2 0).toNat ((a++47::b).getD 3 0).toNat sz lo hi=some k):
  k≤a.length∧1≤k∧Lib.checkN a.length (a.getD 1 0).toNat (a.getD 2 0).toNat (a.getD 3 0).toNat sz lo hi=some k:=by
 have e47:(47:UInt8).toNat=47:=rfl
 have at1:a.length=1→((a++47::b).getD 1 0).toNat=47:=fun e=>by rw [Sv a b 1 e.symm];rfl
 have at2:a.length=2→((a++47::b).getD 2 0).toNat=47:=fun e=>by rw [Sv a b 2 e.symm];rfl
 have at3:a.length=3→((a++47::b).getD 3 0).toNat=47:=fun e=>by rw [Sv a b 3 e.symm];rfl
 have in1:1<a.length→(a++47::b).getD 1 0=a.getD 1 0:=fun e=>Sr a b 1 e
 have in2:2<a.length→(a++47::b).getD 2 0=a.getD 2 0:=fun e=>Sr a b 2 e
 have in3:3<a.length→(a++47::b).getD 3 0=a.getD 3 0:=fun e=>Sr a b 3 e
 unfold Lib.checkN at h⊢
 by_cases c1:sz=2
 ·have hlo:=hlo (.inl c1)
  rw [if_pos c1] at h⊢
  split at h
  ·cases h
  ·rename_i q
   obtain rfl:k=2:=by injection h with h;exact h.symm
   have l1:a.length≠1:=fun e=>by have:=at1 e;omega
   have:=in1 (by omega)
   rw [this] at q
   refine⟨by omega,by omega,?_⟩
   rw [if_neg (by omega)]
 rw [if_neg c1] at h⊢
 by_cases c2:sz=3
 ·have hlo:=hlo (.inr (.inl c2))
  rw [if_pos c2] at h⊢
  split at h
  ·cases h
  ·rename_i q
   obtain rfl:k=3:=by injection h with h;exact h.symm
   have l1:a.length≠1:=fun e=>by have:=at1 e;omega
   have l2:a.length≠2:=fun e=>by have:=at2 e;omega
   have e1:=in1 (by omega)
   have e2:=in2 (by omega)
   rw [e1,e2] at q
   refine⟨by omega,by omega,?_⟩
   rw [if_neg (by omega)]
 rw [if_neg c2] at h⊢
 by_cases c3:sz=4
 ·have hlo:=hlo (.inr (.inr c3))
  rw [if_pos c3] at h⊢
  split at h
  ·cases h
  ·rename_i q
   obtain rfl:k=4:=by injection h with h;exact h.symm
   have l1:a.length≠1:=fun e=>by have:=at1 e;omega
   have l2:a.length≠2:=fun e=>by have:=at2 e;omega
   have l3:a.length≠3:=fun e=>by have:=at3 e;omega
   have e1:=in1 (by omega)
   have e2:=in2 (by omega)
   have e3:=in3 (by omega)
   rw [e1,e2,e3] at q
   refine⟨by omega,by omega,?_⟩
   rw [if_neg (by omega)]
 ·rw [if_neg c3] at h
  cases h
theorem ES:∀(n:Nat) (a b:List UInt8),a.length≤n→Lib.validD (a++47::b)=true→Lib.validD a=true∧Lib.validD b=true
 | n,[],b,_,h=>⟨rfl,by rw [←Lib.validD_cons 47 b (by decide)];exact h⟩
 | 0,x::t,b,hn,h=>by simp at hn
 | n+1,x::t,b,hn,h=>by
   have hn':t.length≤n:=by simpa using hn
   by_cases hx:x.toNat<128
   ·rw [List.cons_append,Lib.validD_cons x _ hx] at h
    rw [Lib.validD_cons x t hx]
    exact ES n t b hn' h
   ·have h128:128≤(((x::t)++47::b).getD 0 0).toNat:=by show 128≤x.toNat;omega
    have h128':128≤((x::t).getD 0 0).toNat:=by show 128≤x.toNat;omega
    have hg:((x::t)++47::b).getD 0 0=(x::t).getD 0 0:=rfl
    rw [Lib.validD_lead _ (by simp) h128,hg] at h
    split at h
    ·cases h
    ·rename_i k hk
     obtain⟨hk1,hk2,hk3⟩:=Zo (x::t) b (by simp) _ _ _ k (aa9 _) hk
     rw [abb _ _ _ hk1] at h
     have hl:((x::t).drop k).length≤n:=by rw [List.length_drop,List.length_cons];omega
     obtain⟨i1,i2⟩:=ES n ((x::t).drop k) b hl h
     refine⟨?_,i2⟩
     rw [Lib.validD_lead _ (by simp) h128',hk3]
     exact i1
theorem abd (n b0 b1 b2 b3:Nat):(Lib.decodeN n b0 b1 b2 b3).1=0↔b0=0:=by
 unfold Lib.decodeN
 repeat' split
 all_goals first | (simp only [];omega) | (constructor<;>intro h<;>first | omega | (simp at h;omega))
theorem abe (n b0 b1 b2 b3:Nat):1≤(Lib.decodeN n b0 b1 b2 b3).2∧(Lib.decodeN n b0 b1 b2 b3).2≤4∧(2≤(Lib.decodeN n b0 b1 b2 b3).2→128≤b1)∧(3≤(Lib.decodeN n b0 b1 b2 b3).2→128≤b2)∧(4≤(Lib.decodeN n b0 b1 b2 b3).2→128≤b3):=by
 unfold Lib.decodeN
 repeat' split
 all_goals (refine⟨?_,?_,?_,?_,?_⟩<;>simp only []<;>omega)
theorem Kq (s:ByteArray):∀(b pos:Nat),s.size≤pos+b→(lK s b pos=true↔∀j,pos≤j→j<s.size→(s.get! j).toNat≠0)
 | 0,pos,h=>by
   constructor
   ·intro _ j h1 h2
    omega
   ·intro _
    rfl
 | b+1,pos,h=>by
   unfold lK
   by_cases hp:pos<s.size
   ·rw [if_pos hp]
    have e:=Lib.decode_at s pos
    have hz:=abd (s.size - pos) (s.get! pos).toNat (s.get! (pos+1)).toNat (s.get! (pos+2)).toNat (s.get! (pos+3)).toNat
    obtain⟨w1,w4,t1,t2,t3⟩:=abe (s.size - pos) (s.get! pos).toNat (s.get! (pos+1)).toNat (s.get! (pos+2)).toNat (s.get! (pos+3)).toNat
    rw [←e] at hz w1 w4 t1 t2 t3
    by_cases h0:(Utf8.decode s pos).1=0
    ·rw [if_pos h0]
     constructor
     ·intro q
      cases q
     ·intro q
      exact absurd (hz.1 h0) (q pos (Nat.le_refl _) hp)
    ·rw [if_neg h0,Kq s b _ (by omega)]
     constructor
     ·intro q j h1 h2
      by_cases hj:pos+(Utf8.decode s pos).2≤j
      ·exact q j hj h2
      ·have:j=pos∨j=pos+1∨j=pos+2∨j=pos+3:=by omega
       rcases this with rfl | rfl | rfl | rfl
       ·exact fun hh=>h0 (hz.2 hh)
       ·have:=t1 (by omega);omega
       ·have:=t2 (by omega);omega
       ·have:=t3 (by omega);omega
     ·intro q j h1 h2
      exact q j (by omega) h2
   ·rw [if_neg hp]
    constructor
    ·intro _ j h1 h2
     omega
    ·intro _
     rfl
theorem tail_cons (y:List UInt8) (r:List (List UInt8)):Lib.joinTail [47] (y::r)=47::(y++Lib.joinTail [47] r):=by simp [Lib.joinTail]
theorem Kr:∀(t:List (List UInt8)) (x:List UInt8),Lib.validD (x++Lib.joinTail [47] t)=true→∀y∈x::t,Lib.validD y=true
 | [],x,h,y,hy=>by
   have:y=x:=by simpa using hy
   subst this
   simpa [Lib.joinTail] using h
 | z::t,x,h,y,hy=>by
   rw [tail_cons] at h
   obtain⟨h1,h2⟩:=ES _ x _ (Nat.le_refl _) h
   rcases List.mem_cons.1 hy with rfl | hy
   ·exact h1
   ·exact Kr t z h2 y hy
theorem Sz:∀(t:List (List UInt8)) (x:List UInt8) (b:UInt8),∀y∈x::t,b∈y→b∈x++Lib.joinTail [47] t
 | [],x,b,y,hy,hb=>by
   have:y=x:=by simpa using hy
   subst this
   simp [hb]
 | z::t,x,b,y,hy,hb=>by
   rw [tail_cons]
   rcases List.mem_cons.1 hy with rfl | hy
   ·simp [hb]
   ·have:=Sz t z b y hy hb
    simp only [List.mem_append,List.mem_cons] at this⊢
    exact .inr (.inr this)
theorem OE:∀(t:List (List UInt8)) (x:List UInt8),∀y∈x::t,y.length≤(x++Lib.joinTail [47] t).length
 | [],x,y,hy=>by
   have:y=x:=by simpa using hy
   subst this
   simp
 | z::t,x,y,hy=>by
   rw [tail_cons]
   rcases List.mem_cons.1 hy with rfl | hy
   ·simp
   ·have:=OE t z y hy
    simp only [List.length_append,List.length_cons] at this⊢
    omega
theorem vX (s:ByteArray):fO s=true↔(0:UInt8)∉dl s∧Lib.validD (dl s)=true∧s.size≤60:=by
 unfold fO
 rw [Bool.and_eq_true,Bool.and_eq_true,decide_eq_true_eq,Kq s s.size 0 (by omega)]
 have e:(∀j,0≤j→j<s.size→(s.get! j).toNat≠0)↔(0:UInt8)∉dl s:=by
  have g:∀(j:Nat) (h:j<(dl s).length),s.get! j=(dl s)[j]:=by
   intro j h
   have h2:j<s.data.size:=by rw [mV] at h;exact h
   show s.data[j]! =_
   rw [getElem!_pos s.data j h2]
   rfl
  constructor
  ·intro h m
   obtain⟨j,hj,e⟩:=List.mem_iff_getElem.1 m
   refine h j (Nat.zero_le _) (by rw [mV] at hj;exact hj) ?_
   rw [g j hj,e]
   rfl
  ·intro h j _ hj hz
   have hj':j<(dl s).length:=by rw [mV];exact hj
   rw [g j hj'] at hz
   refine h ?_
   have:(dl s)[j]=0:=UInt8.toNat_inj.1 hz
   rw [←this]
   exact List.getElem_mem hj'
 rw [e]
def dG (p:List ByteArray):ByteArray:=⟨(Lib.join (p.map dl) [47]).toArray⟩
theorem tH (p:List ByteArray):dl (dG p)=Lib.join (p.map dl) [47]:=rfl
theorem Kt (p:List ByteArray):(dG p).size=(Lib.join (p.map dl) [47]).length:=by rw [←mV,tH]
theorem SA (p:List ByteArray) (h:fO (dG p)=true):∀x∈p,fO x=true:=by
 intro x hx
 obtain⟨h1,h2,h3⟩:=(vX _).1 h
 cases p with
 | nil=>cases hx
 | cons y t=>
   rw [tH,List.map_cons,Lib.join_cons] at h1 h2
   rw [Kt,List.map_cons,Lib.join_cons] at h3
   have hm:dl x∈dl y::t.map dl:=by rw [←List.map_cons];exact List.mem_map_of_mem hx
   refine(vX x).2 ⟨fun m=>h1 (Sz _ _ 0 _ hm m),Kr _ _ h2 _ hm,?_⟩
   have:=OE (t.map dl) (dl y) _ hm
   rw [mV] at this
   omega
theorem Zp (x:ByteArray):dG [x]=x:=by
 refine Go.WideShapes.bytes_inj ?_
 show dl (dG [x])=dl x
 rw [tH]
 exact Lib.join_one _ _
theorem Xn (p:List ByteArray) (hp:p≠[]) (x:ByteArray):dG (p++[x])=(dG p++(⟨#[47]⟩:ByteArray))++x:=by
 refine Go.WideShapes.bytes_inj ?_
 show dl (dG (p++[x]))=dl ((dG p++(⟨#[47]⟩:ByteArray))++x)
 have ap:∀a b:ByteArray,dl (a++b)=dl a++dl b:=fun a b=>by
  unfold dl
  rw [ByteArray.data_append,Array.toList_append]
 rw [ap,ap,tH,tH]
 cases p with
 | nil=>exact absurd rfl hp
 | cons y t=>
   rw [List.cons_append,List.map_cons,List.map_append,Lib.join_cons,show(y::t).map dl=dl y::t.map dl from rfl,Lib.join_cons]
   have e:∀l:List (List UInt8),Lib.joinTail [47] (l++[dl x])=Lib.joinTail [47] l++[47]++dl x:=fun l=>by simp [Lib.joinTail]
   show dl y++Lib.joinTail [47] (t.map dl++[dl x])=_
   rw [e]
   simp [List.append_assoc]
   rfl
theorem abf (m:Nat):∀(p:List ByteArray),(∀x∈p,x.size≤m)→(dG p).size≤p.length*(m+1):=by
 intro p h
 rw [Kt]
 cases p with
 | nil=>simp [Lib.join_nil]
 | cons y t=>
   have aux:∀(t:List ByteArray),(∀x∈t,x.size≤m)→(Lib.joinTail [47] (t.map dl)).length≤t.length*(m+1):=by
    intro t
    induction t with
    | nil=>intro _;simp [Lib.joinTail]
    | cons z t ih=>
      intro h
      have h1:=h z List.mem_cons_self
      have h2:=ih (fun x hx=>h x (List.mem_cons_of_mem _ hx))
      rw [List.map_cons,tail_cons,List.length_cons,List.length_append,mV,List.length_cons,Nat.succ_mul]
      omega
   have h1:=h y List.mem_cons_self
   have h2:=aux t (fun x hx=>h x (List.mem_cons_of_mem _ hx))
   rw [List.map_cons,Lib.join_cons,List.length_append,mV,List.length_cons,Nat.succ_mul]
   omega
mutual
def cnt:NI→Nat
 | ⟨a,b,c⟩=>a.length+c.length+jW b
def jW:List NI→Nat
 | []=>0
 | k::r=>cnt k+jW r
end
theorem xg (n:NI):cnt n=n.f0.length+n.f2.length+jW n.f1:=by cases n;rw [cnt]
def nameP (s:ByteArray):Bool:=fO s && !(dl s).isEmpty
def iw (x:SI):Bool:=nameP x.f0 && ((decide (0≤x.f1) && decide (x.f1≤2)) && decide (x.f2≥0))
def mW (x:ByteArray):Bool:=(bW x && !(dl x).contains 47) || (dl x).isEmpty
def lD:Option ByteArray→ByteArray→Bool
 | none,_=>true
 | some y,x=>Op.bytesLess y.toList x.toList
def nD:Option ByteArray→List SI→Bool
 | _,[]=>true
 | y,s::r=>iw s && (lD y s.f0 && nD (some s.f0) r)
def pO (l:List SI):Bool:=nD none l
def mg (x:ByteArray):Bool:=decide (x.toList=([35]:List UInt8))
mutual
def okS:Nat→NI→Bool
 | d,⟨ns,ks,ss⟩=>decide (ns.length=ks.length) && (!(decide (0<ns.length) && decide (d=6)) && (pO ss && nN d ns none ks))
def nN:Nat→List ByteArray→Option ByteArray→List NI→Bool
 | d,x::r,p,k::q=>mW x && (lD p x && (!(decide (k.f0.length=0) && decide (k.f2.length=0)) && (!(mg x && !decide (k.f0.length=0)) && (okS (d+1) k && nN d r (some x) q))))
 | _,_,_,_=>true
end
theorem Ku (d:Nat) (n:NI):okS d n=(decide (n.f0.length=n.f1.length) && (!(decide (0<n.f0.length) && decide (d=6)) && (pO n.f2 && nN d n.f0 none n.f1))):=by
 cases n;rw [okS]
mutual
def Af:Nat→ByteArray→NI→Bool
 | d,a,⟨ns,ks,ss⟩=>!(decide (0<d) && (decide (0<ss.length) && !bW a)) && qN d a ns ks
def qN:Nat→ByteArray→List ByteArray→List NI→Bool
 | d,a,x::r,k::q=>Af (d+1) (if 0<d then (a++(⟨#[47]⟩:ByteArray))++x else x) k && qN d a r q
 | _,_,_,_=>true
end
theorem Zq (d:Nat) (a:ByteArray) (n:NI):Af d a n=(!(decide (0<d) && (decide (0<n.f2.length) && !bW a)) && qN d a n.f0 n.f1):=by
 cases n;rw [Af]
theorem aeu (s:ByteArray):(s.toList==([]:List UInt8))=(dl s).isEmpty:=by
 rw [Bool.eq_iff_iff,beq_iff_eq]
 exact wE s
def wY (x:ByteArray) (k:NI):Bool:=decide ((jy (dl x)).length≤1) && jD (dl x) (decide (k.f1.length=0))
mutual
def okI:List ByteArray→NI→Bool
 | p,⟨ns,ks,ss⟩=>decide (ns.length=ks.length) && (decide (p.length≤6) && (pO ss && ((decide (ss.length=0) || bW (dG p)) && lN p ns none ks)))
def lN:List ByteArray→List ByteArray→Option ByteArray→List NI→Bool
 | p,x::r,y,k::q=>lD y x && (wY x k && (!(decide (k.f1.length=0) && decide (k.f2.length=0)) && (okI (p++[x]) k && lN p r (some x) q)))
 | _,_,_,_=>true
end
theorem Zr (p:List ByteArray) (n:NI):okI p n=(decide (n.f0.length=n.f1.length) && (decide (p.length≤6) && (pO n.f2 && ((decide (n.f2.length=0) || bW (dG p)) && lN p n.f0 none n.f1)))):=by
 cases n;rw [okI]
theorem SB (d:Nat):∀(ns:List ByteArray) (pr:Option ByteArray) (ks:List NI),ns.length=ks.length→nN d ns pr ks=true→∀k∈ks,okS (d+1) k=true
 | [],pr,[],_,_,k,hk=>by cases hk
 | [],pr,_::_,e,_,k,hk=>by simp at e
 | _::_,pr,[],e,_,k,hk=>by cases hk
 | x::r,pr,y::q,e,h,k,hk=>by
   rw [nN] at h
   simp only [Bool.and_eq_true] at h
   obtain⟨_,_,_,_,h1,h2⟩:=h
   rcases List.mem_cons.1 hk with rfl | hk
   ·exact h1
   ·exact SB d r (some x) q (by simpa using e) h2 k hk
theorem vC {d:Nat} {n:NI} (h:okS d n=true):n.f0.length=n.f1.length∧(0<n.f0.length→d≠6)∧pO n.f2=true∧nN d n.f0 none n.f1=true:=by
 rw [Ku] at h
 simp only [Bool.and_eq_true,decide_eq_true_eq,Bool.not_eq_true',Bool.and_eq_false_iff,decide_eq_false_iff_not] at h
 obtain⟨h1,h2,h3,h4⟩:=h
 exact⟨h1,fun q=>by rcases h2 with h2 | h2<;>omega,h3,h4⟩
theorem jP {p:List ByteArray} {n:NI}:okI p n=true↔n.f0.length=n.f1.length∧p.length≤6∧pO n.f2=true∧(n.f2.length=0∨bW (dG p)=true)∧lN p n.f0 none n.f1=true:=by
 rw [Zr]
 simp only [Bool.and_eq_true,decide_eq_true_eq,Bool.or_eq_true]
theorem OG (a b:Nat):((!(decide (a=0) && decide (b=0)))=true)↔(a≠0∨b≠0):=by
 by_cases h:a=0<;>by_cases k:b=0<;>simp [h,k]
theorem Zt (c:Bool) (a:Nat):((!(c && !decide (a=0)))=true)↔(c=false∨a=0):=by
 cases c<;>by_cases h:a=0<;>simp [h]
theorem qX {p:List ByteArray} {x:ByteArray} {r:List ByteArray} {y:Option ByteArray} {k:NI} {q:List NI}:lN p (x::r) y (k::q)=true↔lD y x=true∧wY x k=true∧(k.f1.length≠0∨k.f2.length≠0)∧okI (p++[x]) k=true∧lN p r (some x) q=true:=by
 rw [lN,Bool.and_eq_true,Bool.and_eq_true,Bool.and_eq_true,Bool.and_eq_true,OG]
theorem Zu {d:Nat} {x:ByteArray} {r:List ByteArray} {y:Option ByteArray} {k:NI} {q:List NI}:nN d (x::r) y (k::q)=true↔mW x=true∧lD y x=true∧(k.f0.length≠0∨k.f2.length≠0)∧(mg x=false∨k.f0.length=0)∧okS (d+1) k=true∧nN d r (some x) q=true:=by
 rw [nN,Bool.and_eq_true,Bool.and_eq_true,Bool.and_eq_true,Bool.and_eq_true,Bool.and_eq_true,OG,Zt]
theorem aev {n:NI} (hn:Bd n):∀p:List ByteArray,okI p n=true→(n.f1.length≠0∨n.f2.length≠0)→∃ext,bW (dG (p++ext))=true:=by
 induction hn with
 | mk n h0 z0 h1 h2 z2 hk ih=>
   intro p h hne
   obtain⟨e1,e2,e3,e4,e5⟩:=jP.1 h
   by_cases c:n.f2.length=0
   ·have c1:n.f1.length≠0:=by omega
    cases hk0:n.f1 with
    | nil=>rw [hk0] at c1;simp at c1
    | cons k q=>
      cases hx0:n.f0 with
      | nil=>rw [hx0,hk0] at e1;simp at e1
      | cons x r=>
        rw [hx0,hk0] at e5
        obtain⟨_,_,f1,f2,_⟩:=qX.1 e5
        obtain⟨ext,he⟩:=ih k (by rw [hk0];exact List.mem_cons_self) (p++[x]) f2 f1
        exact⟨x::ext,by rw [List.append_assoc] at he;exact he⟩
   ·refine⟨[],?_⟩
    rw [List.append_nil]
    rcases e4 with e4 | e4
    ·exact absurd e4 c
    ·exact e4
theorem abg (l:List UInt8):allL [l]=jD l true:=by
 rw [allL,allL,Bool.and_true]
 rfl
theorem I7 (l:List UInt8):(jy l).length≤1↔(47:UInt8)∉l:=by
 constructor
 ·intro h
  obtain⟨a,r,e⟩:=qY l
  rw [e,List.length_cons] at h
  have:r=[]:=List.length_eq_zero_iff.1 (by omega)
  subst this
  have e2:=AQ l
  rw [e,Lib.join_one] at e2
  rw [←e2]
  exact Lj l a (by rw [e];exact List.mem_cons_self)
 ·intro h
  rw [IG l h]
  exact Nat.le_refl _
theorem Zv {l:List UInt8} {b:Bool} (h:jD l b=true):jD l true=true:=by
 unfold jD at h⊢
 cases b
 ·simp only [Bool.and_false,Bool.or_false] at h
  rw [h,Bool.true_or]
 ·exact h
theorem filter_one {x:ByteArray} (h:(47:UInt8)∉dl x):bW x=(jD (dl x) true && fO x && !(dl x).isEmpty):=by
 unfold bW
 rw [IG _ h,abg]
 simp
theorem Vs (x:ByteArray):mg x=true↔dl x=[35]:=by
 unfold mg
 rw [decide_eq_true_eq,Lib.toList_data]
theorem level_hash {b:Bool} (h:jD [35] b=true):b=true:=by
 cases b
 ·exact absurd h (by decide)
 ·rfl
theorem Xo {l:List UInt8} (h:l≠[35]) (a b:Bool):jD l a=jD l b:=by
 unfold jD
 have:(l==[35])=false:=beq_eq_false_iff_ne.2 h
 rw [this,Bool.false_and,Bool.false_and]
theorem OH {p:List ByteArray} {x:ByteArray} {k:NI} (hb:Bd k) (he:k.f0.length=k.f1.length) (ht:fO x=true):wY x k=true↔mW x=true∧(mg x=false∨k.f0.length=0):=by
 unfold wY mW
 rw [Bool.and_eq_true,decide_eq_true_eq,I7]
 constructor
 ·rintro⟨h1,h2⟩
  refine⟨?_,?_⟩
  ·rw [filter_one h1,Zv h2,ht]
   have:(dl x).contains 47=false:=by
    rw [Bool.eq_false_iff]
    intro m
    exact h1 (List.contains_iff_mem.1 m)
   rw [this]
   cases (dl x).isEmpty<;>rfl
  ·by_cases q:mg x=true
   ·right
    rw [(Vs x).1 q] at h2
    have:=level_hash h2
    rw [decide_eq_true_eq] at this
    omega
   ·exact .inl (Bool.eq_false_iff.2 q)
 ·rintro⟨h1,h2⟩
  rw [Bool.or_eq_true] at h1
  rcases h1 with h1 | h1
  ·rw [Bool.and_eq_true,Bool.not_eq_true'] at h1
   obtain⟨f1,f2⟩:=h1
   have n47:(47:UInt8)∉dl x:=fun m=>by
    rw [List.contains_iff_mem.2 m] at f2
    cases f2
   refine⟨n47,?_⟩
   rw [filter_one n47,Bool.and_eq_true,Bool.and_eq_true] at f1
   by_cases q:dl x=[35]
   ·rcases h2 with h2 | h2
    ·rw [(Vs x).2 q] at h2;cases h2
    ·rw [show decide (k.f1.length=0)=true from decide_eq_true (by omega)]
     exact f1.1.1
   ·rw [Xo q _ true]
    exact f1.1.1
  ·rw [List.isEmpty_iff] at h1
   rw [h1]
   refine⟨by simp,?_⟩
   rfl
theorem Uj {x:ByteArray} (h:mW x=true):fO x=true:=by
 unfold mW at h
 rw [Bool.or_eq_true] at h
 rcases h with h | h
 ·rw [Bool.and_eq_true] at h
  have h:=h.1
  unfold bW at h
  rw [Bool.and_eq_true,Bool.and_eq_true,Bool.and_eq_true] at h
  exact h.1.1.2
 ·rw [List.isEmpty_iff] at h
  refine(vX x).2 ⟨by rw [h];simp,by rw [h];rfl,?_⟩
  have:(dl x).length=0:=by rw [h];rfl
  rw [mV] at this
  omega
theorem Gx {s:ByteArray} (h:bW s=true):fO s=true:=by
 unfold bW at h
 rw [Bool.and_eq_true,Bool.and_eq_true,Bool.and_eq_true] at h
 exact h.1.1.2
theorem Dz (p:List ByteArray) (d:Nat) (hp:p.length=d) (x:ByteArray):(if 0<d then (dG p++(⟨#[47]⟩:ByteArray))++x else x)=dG (p++[x]):=by
 cases p with
 | nil=>
   rw [if_neg (by simp at hp;omega)]
   exact(Zp x).symm
 | cons y t=>
   rw [if_pos (by simp at hp;omega),Xn _ (by simp)]
theorem SC (p:List ByteArray) (d:Nat) (hp:p.length=d) (hd:d<6):∀(ns:List ByteArray) (ks:List NI) (y:Option ByteArray),ns.length=ks.length→(∀k∈ks,Bd k)→
  (∀k∈ks,∀x:ByteArray,(okI (p++[x]) k=true↔okS (d+1) k=true∧Af (d+1) (dG (p++[x])) k=true))→
  (lN p ns y ks=true↔nN d ns y ks=true∧qN d (dG p) ns ks=true)
 | [],[],y,_,_,_=>by
   rw [lN,nN,qN]
   ·simp
   all_goals (intro x1 x2 x3 x4 e;cases e)
 | [],_::_,y,e,_,_=>by simp at e
 | _::_,[],y,e,_,_=>by simp at e
 | x::r,k::q,y,e,hb,ih=>by
   have ih2:=SC p d hp hd r q (some x) (by simpa using e) (fun k hk=>hb k (List.mem_cons_of_mem _ hk)) (fun k hk=>ih k (List.mem_cons_of_mem _ hk))
   have hk:=hb k List.mem_cons_self
   have ihk:=ih k List.mem_cons_self x
   rw [qX,Zu,qN,Bool.and_eq_true,Dz p d hp x,ih2]
   constructor
   ·rintro⟨a1,a2,a3,a4,a5,a6⟩
    obtain⟨b1,b2⟩:=ihk.1 a4
    obtain⟨e1,_,_,_⟩:=vC b1
    obtain⟨ext,he⟩:=aev hk (p++[x]) a4 a3
    have ht:fO x=true:=SA _ (Gx he) x (by simp)
    obtain⟨c1,c2⟩:=(OH (p:=p) hk e1 ht).1 a2
    exact⟨⟨c1,a1,by omega,c2,b1,a5⟩,b2,a6⟩
   ·rintro⟨⟨c1,a1,a3,c2,b1,a5⟩,b2,a6⟩
    obtain⟨e1,_,_,_⟩:=vC b1
    exact⟨a1,(OH (p:=p) hk e1 (Uj c1)).2 ⟨c1,c2⟩,by omega,ihk.2 ⟨b1,b2⟩,a5,a6⟩
theorem Zw {n:NI} (hn:Bd n):∀(p:List ByteArray) (d:Nat),p.length=d→d≤6→(d=0→n.f2.length=0)→(okI p n=true↔okS d n=true∧Af d (dG p) n=true):=by
 induction hn with
 | mk n h0 z0 h1 h2 z2 hk ih=>
   intro p d hp hd h00
   have ihk:d<6→∀k∈n.f1,∀x:ByteArray,(okI (p++[x]) k=true↔okS (d+1) k=true∧Af (d+1) (dG (p++[x])) k=true):=fun hd2 k hk2 x=>
    ih k hk2 (p++[x]) (d+1) (by simp only [List.length_append,List.length_cons,List.length_nil];omega) (by omega) (fun z=>by omega)
   have tx:Af d (dG p) n=true↔(n.f2.length=0∨bW (dG p)=true)∧qN d (dG p) n.f0 n.f1=true:=by
    rw [Zq,Bool.and_eq_true]
    simp only [Bool.not_eq_true',Bool.and_eq_false_iff,decide_eq_false_iff_not,Bool.not_eq_false']
    constructor
    ·rintro⟨a,b⟩
     refine⟨?_,b⟩
     rcases a with a | a | a
     ·exact .inl (h00 (by omega))
     ·exact .inl (by omega)
     ·exact .inr a
    ·rintro⟨a,b⟩
     refine⟨?_,b⟩
     rcases a with a | a
     ·exact .inr (.inl (by omega))
     ·exact .inr (.inr a)
   rw [jP,tx]
   constructor
   ·rintro⟨e1,e2,e3,e4,e5⟩
    by_cases c:n.f0.length=0
    ·have c0:n.f0=[]:=List.length_eq_zero_iff.1 c
     have c1:n.f1=[]:=List.length_eq_zero_iff.1 (by omega)
     refine⟨?_,e4,?_⟩
     ·rw [Ku,e3,c0,c1]
      rw [nN]
      ·simp
      ·intro x1 x2 x3 x4 e;cases e
     ·rw [c0,c1,qN]
      intro x1 x2 x3 x4 e;cases e
    ·have hd2:d<6:=by
      cases hx0:n.f0 with
      | nil=>rw [hx0] at c;simp at c
      | cons x r=>
        cases hk0:n.f1 with
        | nil=>rw [hx0,hk0] at e1;simp at e1
        | cons k q=>
          rw [hx0,hk0] at e5
          obtain⟨_,_,_,f2,_⟩:=qX.1 e5
          obtain⟨_,g2,_⟩:=jP.1 f2
          simp only [List.length_append,List.length_cons,List.length_nil] at g2
          omega
     obtain⟨a,b⟩:=(SC p d hp hd2 n.f0 n.f1 none e1 hk (ihk hd2)).1 e5
     refine⟨?_,e4,b⟩
     rw [Ku,e3,a,decide_eq_true e1,show decide (d=6)=false from decide_eq_false (by omega),Bool.and_false]
     rfl
   ·rintro⟨h,e4,b⟩
    obtain⟨e1,e2,e3,a⟩:=vC h
    refine⟨e1,by omega,e3,e4,?_⟩
    by_cases c:n.f0.length=0
    ·have c0:n.f0=[]:=List.length_eq_zero_iff.1 c
     rw [c0,lN]
     intro x1 x2 x3 x4 e;cases e
    ·have hd2:d<6:=by have:=e2 (by omega);omega
     exact(SC p d hp hd2 n.f0 n.f1 none e1 hk (ihk hd2)).2 ⟨a,b⟩
def fH (n:NI):Bool:=decide (n.f2.length=0) && okI [] n
mutual
def iI:List ByteArray→NI→List EI
 | p,⟨ns,ks,ss⟩=>ss.map (fun s=>⟨dG p,s.f0,s.f1,s.f2⟩)++dY p ns ks
def dY:List ByteArray→List ByteArray→List NI→List EI
 | p,x::r,k::q=>iI (p++[x]) k++dY p r q
 | _,[],_=>[]
 | _,_::_,[]=>[]
end
theorem Ux (p:List ByteArray) (n:NI):iI p n=n.f2.map (fun s=>⟨dG p,s.f0,s.f1,s.f2⟩)++dY p n.f0 n.f1:=by cases n;rw [iI]
mutual
theorem Vt:∀(p:List ByteArray) (n:NI),(iI p n).length≤cnt n
 | p,⟨ns,ks,ss⟩=>by
   rw [iI,cnt,List.length_append,List.length_map]
   have:=SG p ns ks
   omega
theorem SG:∀(p:List ByteArray) (ns:List ByteArray) (ks:List NI),(dY p ns ks).length≤jW ks
 | p,x::r,k::q=>by
   rw [dY,jW,List.length_append]
   have:=Vt (p++[x]) k
   have:=SG p r q
   omega
 | _,[],_=>by rw [dY];exact Nat.zero_le _
 | _,_::_,[]=>by rw [dY];exact Nat.zero_le _
end
theorem uJ (p:List ByteArray) (hp:p.length≤7) (hz:∀x∈p,x.size≤1048576):(dG p).size≤1073741824:=by
 have h3:=abf 1048576 p hz
 have h4:p.length*(1048576+1)≤7*(1048576+1):=Nat.mul_le_mul_right _ hp
 omega
def jl (n:NI):List EI:=if fH n=true then iI [] n else []
theorem Ht (n:NI):(jl n).length≤cnt n:=by
 unfold jl
 split
 ·exact Vt [] n
 ·exact Nat.zero_le _
end Go.Proofs.YtcnfgfomholheaaGreatDoor.Q
end
section
namespace Go.Proofs.YtcnfgfomholheaaGreatDoor.Q
open Go.RowKit Go.Proofs.YtcnfgfomholheaaGreatDoor.Z
set_option linter.unusedVariables false
theorem abh {r:List (T.Tb 9)} {j:Nat} {l:List V} (h:(r.map (T.enc 9))[j]? =some l):∃s:ByteArray,r[j]? =some s∧l=[.sc (.string s)]:=by
 rw [List.getElem?_map] at h
 obtain⟨s,hs,rfl⟩:=Option.map_eq_some_iff.1 h
 exact⟨s,hs,rfl⟩
theorem ac9 {r:List (T.Tb 9)} {j:Nat} {s:ByteArray} (h:r[j]? =some s):(r.map (T.enc 9))[j]? =some [.sc (.string s)]:=by
 rw [List.getElem?_map,h];rfl
open Go.Proofs.YtcnfgfomholheaaGreatDoorW.PrintWords in
theorem aew {w:World} {base:Nat} {v:Value} {r:List (T.Tb 9)} (h:Kd.R Kd.string 9 w base (fun _=>True) v r):Ow T.sz w (fun k=>base≤k∧k<w.heap.size) (.sl 9 (r.map (T.enc 9))) v:=by
 obtain⟨_,inner,ho,hr⟩:=h
 have hone:∀(j:Nat) (s:ByteArray),r[j]? =some s→inner[j]? =some (.string s):=fun j s hj=>by
  have h2:(inner.drop (j*1)).take 1=[.string s]:=hr.2 j s hj
  have h3:((inner.drop (j*1)).take 1)[0]? =some (.string s):=by rw [h2];rfl
  rw [List.getElem?_take_of_lt (by decide),List.getElem?_drop] at h3
  simpa using h3
 have hlen:(r.map (T.enc 9)).length=r.length:=List.length_map ..
 have hget:∀{j:Nat} {l:List V},(r.map (T.enc 9))[j]? =some l→∃s:ByteArray,r[j]? =some s∧l=[.sc (.string s)]:=fun h=>abh h
 generalize r.map (T.enc 9)=xs at hlen hget
 have ho2:w.ownsRow 0 9 (T.sz 9) v xs.length inner:=by
  rw [hlen]
  exact IW ho (Nat.zero_le _)
 refine FZ ho2 (fun j _=>inner.getD j undef) (fun _ _ _=>False) (fun j l hj=>?_) (fun j l q x hj hq=>?_) (fun _ _ _ h=>h.elim) (fun _ _ _ _ _ h=>h.elim) (fun g hg=>⟨own_base ho g hg,gB ho g hg⟩)
 ·obtain⟨s,_,rfl⟩:=hget hj
  rfl
 ·obtain⟨s,hs,rfl⟩:=hget hj
  have hq0:q=0:=by have:=(List.getElem?_eq_some_iff.1 hq).1;simp at this;exact this
  subst hq0
  have hx:x= .sc (.string s):=(Option.some.inj hq).symm
  subst hx
  have h1:=hone j s hs
  have e:j*T.sz 9+0=j:=Nat.mul_one j
  rw [e]
  refine⟨by rw [List.getD_eq_getElem?_getD,h1];rfl,?_⟩
  rw [List.getD_eq_getElem?_getD,h1]
  exact .sc _ _ rfl
open Go.Proofs.YtcnfgfomholheaaGreatDoorW.PrintWords in
theorem afn {w:World} {S:Nat→Prop} {v:Value} {l:List (T.Tb 9)} (h:Rd T.sz w S (.sl 9 (l.map (T.enc 9))) v) (hl:l.length≤9223372036854775807):∃A c,v= .slice A l.length c∧l.length≤c∧Kd.C Kd.string w A l.length l:=by
 have hlen:(l.map (T.enc 9)).length=l.length:=List.length_map ..
 have hat:∀{j:Nat} {s:ByteArray},l[j]? =some s→(l.map (T.enc 9))[j]? =some [.sc (.string s)]:=fun h=>ac9 h
 generalize l.map (T.enc 9)=xs at hlen hat h
 obtain⟨A,c,e,hc⟩:=h.slice
 rw [hlen] at e hc
 subst e
 refine⟨A,c,rfl,hc,rfl,hl,fun h0=>?_⟩
 have hj0:=hat (List.getElem?_eq_getElem h0)
 obtain⟨ad,c',e,_⟩:=h.elem hj0
 have eA:A=some ad:=(Value.slice.inj e).1
 subst eA
 refine⟨ad,rfl,fun j s hj=>⟨[.string s],rfl,rfl,fun i u hi=>?_⟩⟩
 have hi0:i=0:=by have:=(List.getElem?_eq_some_iff.1 hi).1;simp at this;exact this
 subst hi0
 have hu:u= .string s:=(Option.some.inj hi).symm
 subst hu
 obtain⟨ad',c'',e',_,_,_,_,hx⟩:=h.elem (hat hj)
 have:ad'=ad:=(Option.some.inj (Value.slice.inj e').1).symm
 subst this
 obtain⟨u,h1,h2⟩:=hx 0 (.sc (.string s)) rfl
 have e3:u= .string s:=by cases h2;rfl
 rw [e3] at h1
 exact h1
theorem wP {f:FuncId} {fn:Func} {c:Code} (hf:Tryz.prog.funcs[f]? =some fn) (hname:(fn.name== "runtime.NumGoroutine")=false) (hb:fn.body=some c) {s:ByteArray} {b:Bool}
  (h:∀w,Go.Proofs.YtcnfgfomholheaaGreatDoor.X.Tabs w→Calls Tryz.prog f #[.string s] w fun e w'=>e= .returned (.bool b)∧Below w.heap.size w w'):aG T Tryz.prog f [.c (.sc (.string s))] (.c (.sc (.bool b))):=by
 refine⟨⟨fn,hf,hname,by rw [hb];rfl⟩,fun w vs S hj ha=>?_⟩
 obtain⟨v,r,rfl,⟨rfl,_⟩,rfl⟩:=ha
 refine(h w hj).mono ?_
 rintro e w' ⟨rfl,hb⟩
 exact⟨.bool b,fun _ _=>False,rfl,hb,fun _ _ h=>h.elim,fun _ _ _ h=>h.elim,[.bool b],rfl,[],rfl,rfl,rfl⟩
theorem Zx {f:FuncId} {fn:Func} {c:Code} (hf:Tryz.prog.funcs[f]? =some fn) (hname:(fn.name== "runtime.NumGoroutine")=false) (hb:fn.body=some c) {s t:Value} {b:Bool}
  (h:∀w,Go.Proofs.YtcnfgfomholheaaGreatDoor.X.Tabs w→Calls Tryz.prog f #[s,t] w fun e w'=>e= .returned (.bool b)∧Below w.heap.size w w'):aG T Tryz.prog f [.c (.sc s), .c (.sc t)] (.c (.sc (.bool b))):=by
 refine⟨⟨fn,hf,hname,by rw [hb];rfl⟩,fun w vs S hj ha=>?_⟩
 obtain⟨v,r,rfl,⟨rfl,_⟩,v2,r2,rfl,⟨rfl,_⟩,rfl⟩:=ha
 refine(h w hj).mono ?_
 rintro e w' ⟨rfl,hb⟩
 exact⟨.bool b,fun _ _=>False,rfl,hb,fun _ _ h=>h.elim,fun _ _ _ h=>h.elim,[.bool b],rfl,[],rfl,rfl,rfl⟩
theorem Zy {f:FuncId} {fn:Func} {c:Code} (hf:Tryz.prog.funcs[f]? =some fn) (hname:(fn.name== "runtime.NumGoroutine")=false) (hb:fn.body=some c) {s:ByteArray} {r:List (T.Tb 9)}
  (h:∀w,Go.Proofs.YtcnfgfomholheaaGreatDoor.X.Tabs w→Calls Tryz.prog f #[.string s] w fun e w'=>∃ET:Value,e= .returned (ET)∧Go.Proofs.YtcnfgfomholheaaGreatDoorW.PrintWords.Kd.R Go.Proofs.YtcnfgfomholheaaGreatDoorW.PrintWords.Kd.string 9 w' w.heap.size (fun _=>True) ET r∧Below w.heap.size w w'):aG T Tryz.prog f [.c (.sc (.string s))] (.c (.ow 9 r)):=by
 refine⟨⟨fn,hf,hname,by rw [hb];rfl⟩,fun w vs S hj ha=>?_⟩
 obtain⟨v,q,rfl,⟨rfl,_⟩,rfl⟩:=ha
 refine(h w hj).mono ?_
 rintro e w' ⟨v,rfl,hr,hb⟩
 exact⟨v,fun i k=>i=0∧w.heap.size≤k∧k<w'.heap.size,rfl,hb,fun i k hk=>hk.2,fun i j k h1 h2=>h1.1.trans h2.1.symm,[v],rfl,v,[],rfl,(aew hr).mono (fun k hk=>⟨rfl,hk⟩),rfl⟩
theorem Xp (s:ByteArray) (hs:s.size≤140737488351232):aG T Tryz.prog 147 [.c (.sc (.string s))] (.c (.sc (.bool (X.fO s)))):=
 wP Tryz.func147 (by kernel_rfl) rfl (fun w hT=>X.fA.calls s _ w hT (Pure.vM s hs))
theorem Xq (s:ByteArray):aG T Tryz.prog 177 [.c (.sc (.string s))] (.c (.sc (.bool (X.fO s)))):=by
 obtain⟨k,h⟩:=(Pure.vN s)
 exact wP Tryz.func177 (by kernel_rfl) rfl (fun w hT=>P.fD.calls _ s _ w (h k (Nat.le_refl _)))
theorem TG (s:ByteArray) (hs:s.size≤1073741824):aG T Tryz.prog 149 [.c (.sc (.string s))] (.c (.sc (.bool (Pure.oP s)))):=
 wP Tryz.func149 (by kernel_rfl) rfl (fun w hT=>P.pz.calls s _ w hT (Pure.MO s hs))
theorem TJ (s:ByteArray) (hs:s.size≤1073741824):aG T Tryz.prog 181 [.c (.sc (.string s))] (.c (.sc (.bool (Pure.oP s)))):=by
 obtain⟨k,h⟩:=(Pure.MP s hs)
 exact wP Tryz.func181 (by kernel_rfl) rfl (fun w hT=>P.pF.calls _ s _ w (h k (Nat.le_refl _)))
theorem xq (s:ByteArray) (hs:s.size≤1073741824):aG T Tryz.prog 77 [.c (.sc (.string s))] (.c (.sc (.bool (Pure.bW s)))):=by
 obtain⟨k,h⟩:=(Pure.Kv s hs)
 exact wP Tryz.func77 (by kernel_rfl) rfl (fun w hT=>P.dJ.calls _ s _ w hT (h k (Nat.le_refl _)))
theorem rW (s:ByteArray) (hs:s.size≤1073741824):aG T Tryz.prog 106 [.c (.sc (.string s))] (.c (.sc (.bool (Pure.bW s)))):=by
 obtain⟨k,h⟩:=(Pure.Kw s hs)
 exact wP Tryz.func106 (by kernel_rfl) rfl (fun w hT=>P.aU.calls _ s _ w (h k (Nat.le_refl _)))
abbrev ng (s:ByteArray):List ByteArray:=X.pieces s Pure.stroke
theorem AU (s:ByteArray) (hs:s.size≤1073741824):aG T Tryz.prog 101 [.c (.sc (.string s))] (.c (.ow 9 (ng s))):=
 Zy Tryz.func101 (by kernel_rfl) rfl (fun w hT=>P.gu.calls s _ w hT (Pure.vO s hs))
theorem VQ (s:ByteArray) (hs:s.size≤1073741824):aG T Tryz.prog 108 [.c (.sc (.string s))] (.c (.ow 9 (ng s))):=by
 obtain⟨k,h⟩:=(Pure.vP s hs)
 exact Zy Tryz.func108 (by kernel_rfl) rfl (fun w hT=>P.bK.calls _ s _ w (h k (Nat.le_refl _)))
theorem G6 (s:ByteArray) (b:Bool) (hs:s.size≤1073741824):aG T Tryz.prog 146 [.c (.sc (.string s)), .c (.sc (.bool b))] (.c (.sc (.bool (Pure.jD (Pure.dl s) b)))):=
 Zx Tryz.func146 (by kernel_rfl) rfl (fun w hT=>P.kE.calls s b _ w (Pure.Ky s b hs))
theorem abj (s:ByteArray) (hs:s.size≤1073741824):Go.Proofs.YtcnfgfomholheaaGreatDoorW.PrintWords.Ev (fun k=>P.aI.f k s 47) ((Pure.dl s).contains 47):=by
 unfold P.aI.f
 exact Pure.PD s 47 hs s.size 0 (by omega)
theorem Zz (s:ByteArray) (hs:s.size≤1073741824):aG T Tryz.prog 176 [.c (.sc (.string s)), .c (.sc (.int .u8 47))] (.c (.sc (.bool ((Pure.dl s).contains 47)))):=by
 obtain⟨k,h⟩:=(abj s hs)
 exact Zx Tryz.func176 (by kernel_rfl) rfl (fun w hT=>(P.aI.calls _ s _ _ w (h k (Nat.le_refl _))).mono (fun e w' h=>⟨h.1,h.2.below⟩))
theorem Uk (p:List ByteArray) (h:p.length≤1048576) (hs:(dG p).size≤1073741824):P.vF.f p=some (dG p):=by
 unfold P.vF.f X.strings_Join.f
 have e:dG p=⟨(Lib.join (p.map (fun x=>x.data.toList)) [47]).toArray⟩:=rfl
 have hs2:(Lib.join (p.map (fun x=>x.data.toList)) [47]).length≤1073741824:=by rw [e] at hs;simpa [ByteArray.size] using hs
 rw [if_pos ⟨by omega,Nat.le_trans hs2 (by decide)⟩]
 rfl
theorem P7 (p:List ByteArray) (hp:p.length≤1048576) (hs:(dG p).size≤1073741824):aG T Tryz.prog 189 [.c (.sl 9 p)] (.c (.sc (.string (dG p)))):=by
 refine⟨⟨_,Tryz.func189,(by kernel_rfl),rfl⟩,fun w vs S hj ha=>?_⟩
 obtain⟨v,r,rfl,hv,rfl⟩:=ha
 obtain⟨A,c,rfl,hc,hC⟩:=afn hv (Nat.le_trans hp (by decide))
 refine(P.vF.calls A c p _ w hC hc (Uk p hp hs)).mono ?_
 rintro e w' ⟨rfl,hb⟩
 exact⟨.string (dG p),fun _ _=>False,rfl,hb,fun _ _ h=>h.elim,fun _ _ _ h=>h.elim,[.string (dG p)],rfl,[],rfl,rfl,rfl⟩
end Go.Proofs.YtcnfgfomholheaaGreatDoor.Q
end
section
namespace Go.Proofs.YtcnfgfomholheaaGreatDoor.Q
open Go.RowKit Go.Proofs.YtcnfgfomholheaaGreatDoor.Z Go.Proofs.YtcnfgfomholheaaGreatDoor.Pure
set_option linter.unusedVariables false
set_option linter.unusedSimpArgs false
set_option maxRecDepth 100000
set_option maxHeartbeats 4000000
abbrev zS:SS:=z44
abbrev zN:SN:=z31
abbrev aex (s:ByteArray):Slot T:= .c (.sc (.string s))
theorem Ag (s:ByteArray):(s.toList==(⟨#[]⟩:ByteArray).toList)=(dl s).isEmpty:=by
 rw [show(⟨#[]⟩:ByteArray).toList=[] by simp [ByteArray.toList_eq]];exact aeu s
theorem Je (s:ByteArray) (hs:s.size≤1073741824):aG T Tryz.prog 127 [.c (.sc (.string s))] (.c (.sc (.bool (nameP s)))):=by
 refine aH hT Tryz.func127 (by kernel_rfl) rfl rfl (fun A=>?_)
 conv=>whnf
 refine ak.mk _ (Xp s (Nat.le_trans hs (by decide))) ?_
 conv=>whnf
 refine Split.mk (fun c=>?_) (fun c=>?_)
 ·conv=>whnf
  exact aC.mk ⟨rfl,rfl⟩ ⟨rfl,rfl⟩ ⟨bv (by rw [Ag];unfold nameP;rw [c];rfl),trivial⟩
 ·conv=>whnf
  exact aC.mk ⟨rfl,rfl⟩ ⟨rfl,rfl⟩ ⟨bv (by unfold nameP;rw [c];rfl),trivial⟩
theorem AY (a lo hi:Int):aG T Tryz.prog 161 [.c (.sc (.int .i64 a)), .c (.sc (.int .i64 lo)), .c (.sc (.int .i64 hi))] (.c (.sc (.bool (decide (lo≤a) && decide (a≤hi))))):=by
 refine aH hT Tryz.func161 (by kernel_rfl) rfl rfl (fun A=>?_)
 conv=>whnf
 refine Split.mk (fun c=>?_) (fun c=>?_)
 ·conv=>whnf
  exact aC.mk ⟨rfl,rfl⟩ ⟨rfl,rfl⟩ ⟨bv (by rw [show decide (lo≤a)=true from c];rfl),trivial⟩
 ·conv=>whnf
  exact aC.mk ⟨rfl,rfl⟩ ⟨rfl,rfl⟩ ⟨bv (by rw [show decide (lo≤a)=false from c];rfl),trivial⟩
theorem Jb (a lo hi:Int):aG T Tryz.prog 159 [.c (.sc (.int .i64 a)), .c (.sc (.int .i64 lo)), .c (.sc (.int .i64 hi))] (.c (.sc (.bool (decide (lo≤a) && decide (a≤hi))))):=by
 refine aH hT Tryz.func159 (by kernel_rfl) rfl rfl (fun A=>?_)
 conv=>whnf
 refine Split.mk (fun c=>?_) (fun c=>?_)
 ·conv=>whnf
  exact aC.mk ⟨rfl,rfl⟩ ⟨rfl,rfl⟩ ⟨bv (by rw [show decide (lo≤a)=true from c];rfl),trivial⟩
 ·conv=>whnf
  exact aC.mk ⟨rfl,rfl⟩ ⟨rfl,rfl⟩ ⟨bv (by rw [show decide (lo≤a)=false from c];rfl),trivial⟩
theorem DK (a:Int):aG T Tryz.prog 128 [.c (.sc (.int .i64 a))] (.c (.sc (.bool (decide (0≤a) && decide (a≤2))))):=by
 refine aH hT Tryz.func128 (by kernel_rfl) rfl rfl (fun A=>?_)
 conv=>whnf
 refine ak.mk _ (AY a 0 2) ?_
 conv=>whnf
 exact aC.mk ⟨rfl,rfl⟩ ⟨rfl,rfl⟩ ⟨rfl,trivial⟩
theorem NM (x:SS) (hs:x.f0.size≤1073741824):aG T Tryz.prog 111 [.ag (T.cells eS x)] (.c (.sc (.bool (iw x)))):=by
 refine aH hT Tryz.func111 (by kernel_rfl) rfl rfl (fun A=>?_)
 conv=>whnf
 refine ak.mk _ (Je x.f0 hs) ?_
 conv=>whnf
 refine Split.mk (fun c=>?_) (fun c=>?_)
 ·conv=>whnf
  refine ak.mk _ (DK x.f1) ?_
  conv=>whnf
  refine Split.mk (fun d=>?_) (fun d=>?_)
  ·conv=>whnf
   exact aC.mk ⟨rfl,rfl⟩ ⟨rfl,rfl⟩ ⟨bv (by unfold iw;rw [c,d];rfl),trivial⟩
  ·conv=>whnf
   exact aC.mk ⟨rfl,rfl⟩ ⟨rfl,rfl⟩ ⟨bv (by unfold iw;rw [c,d];rfl),trivial⟩
 ·conv=>whnf
  refine Split.mk (fun d=>jS d) (fun d=>?_)
  conv=>whnf
  exact aC.mk ⟨rfl,rfl⟩ ⟨rfl,rfl⟩ ⟨bv (by unfold iw;rw [c];rfl),trivial⟩
theorem DJ (x:SS):aG T Tryz.prog 109 [.ag (T.cells eS x)] (.c (.sc (.bool (iw x)))):=by
 refine aH hT Tryz.func109 (by kernel_rfl) rfl rfl (fun A=>?_)
 conv=>whnf
 refine ak.mk _ (Xq x.f0) ?_
 conv=>whnf
 refine Split.mk (fun c=>?_) (fun c=>?_)
 ·conv=>whnf
  refine Split.mk (fun d=>?_) (fun d=>?_)
  ·conv=>whnf
   refine ak.mk _ (Jb x.f1 0 2) ?_
   conv=>whnf
   refine Split.mk (fun e=>?_) (fun e=>?_)
   ·conv=>whnf
    exact aC.mk ⟨rfl,rfl⟩ ⟨rfl,rfl⟩ ⟨bv (by rw [Ag] at d;unfold iw nameP;rw [c,d,e];rfl),trivial⟩
   ·conv=>whnf
    exact aC.mk ⟨rfl,rfl⟩ ⟨rfl,rfl⟩ ⟨bv (by rw [Ag] at d;unfold iw nameP;rw [c,d,e];rfl),trivial⟩
  ·conv=>whnf
   refine Split.mk (fun e=>jS e) (fun e=>?_)
   conv=>whnf
   exact aC.mk ⟨rfl,rfl⟩ ⟨rfl,rfl⟩ ⟨bv (by rw [Ag] at d;unfold iw nameP;rw [c,d];rfl),trivial⟩
 ·conv=>whnf
  repeat (refine Split.mk (fun e=>jS e) (fun e=>?_);conv=>whnf)
  exact aC.mk ⟨rfl,rfl⟩ ⟨rfl,rfl⟩ ⟨bv (by unfold iw nameP;rw [c];rfl),trivial⟩
theorem ZA (x:ByteArray) (hs:x.size≤1073741824):aG T Tryz.prog 192 [.c (.sc (.string x))] (.c (.sc (.bool (mW x)))):=by
 refine aH hT Tryz.func192 (by kernel_rfl) rfl rfl (fun A=>?_)
 conv=>whnf
 refine ak.mk _ (rW x hs) ?_
 conv=>whnf
 refine Split.mk (fun c=>?_) (fun c=>?_)
 ·conv=>whnf
  refine ak.mk _ (Zz x hs) ?_
  conv=>whnf
  refine Split.mk (fun d=>?_) (fun d=>?_)
  ·conv=>whnf
   exact aC.mk ⟨rfl,rfl⟩ ⟨rfl,rfl⟩ ⟨bv (by unfold mW;rw [c,d];rfl),trivial⟩
  ·conv=>whnf
   exact aC.mk ⟨rfl,rfl⟩ ⟨rfl,rfl⟩ ⟨bv (by rw [Ag];unfold mW;rw [c,d];rfl),trivial⟩
 ·conv=>whnf
  refine Split.mk (fun d=>jS d) (fun d=>?_)
  conv=>whnf
  exact aC.mk ⟨rfl,rfl⟩ ⟨rfl,rfl⟩ ⟨bv (by rw [Ag];unfold mW;rw [c];rfl),trivial⟩
def jG (l:List ByteArray) (i:Nat):Option ByteArray:=if i=0 then none else l[i - 1]?
theorem zB {l:List ByteArray} {i:Nat} (h:i<l.length):jG l (i+1)=some (l.getD i ByteArray.empty):=by
 unfold jG;rw [if_neg (by omega)];simp [h]
def nm (l:List SS):List ByteArray:=l.map (fun s=>s.f0)
theorem Kz {l:List SS} {i:Nat} (h:i<l.length):nD (jG (nm l) i) (l.drop i)=(iw (l.getD i zS) && (lD (jG (nm l) i) (l.getD i zS).f0 && nD (jG (nm l) (i+1)) (l.drop (i+1)))):=by
 have e:l.getD i zS=l[i]:=by simp [h]
 rw [List.drop_eq_getElem_cons h,nD,e,zB (by simpa [nm] using h)]
 simp [nm,h]
theorem OI {l:List SS} {p:Option ByteArray}:nD p (l.drop l.length)=true:=by rw [List.drop_length];cases p<;>rfl
theorem KA {l:List ByteArray} {x:ByteArray}:lD (jG l 0) x=true:=rfl
theorem Vu {l:List SS} {i:Nat} (h0:0<i) (h:i<l.length) {x:ByteArray}:lD (jG (nm l) i) x=Op.bytesLess (l.getD (i - 1) zS).f0.toList x.toList:=by
 unfold jG
 rw [if_neg (by omega)]
 have h1:i - 1<l.length:=by omega
 simp [nm,h1,lD]
theorem Fv {i:Nat} (h0:0<i) (hi:i≤140737488351232):wrap64 ((i:Int) - 1)=((i - 1:Nat):Int):=by simp only [wrap64];omega
theorem lZ {i:Nat} (c:decide ((i:Int)>0)=true):0<i:=by simp at c;omega
theorem l7 {i:Nat} (c:decide ((i:Int)>0)=false):i=0:=by simp at c;omega
theorem Xr (l:List SS) (hl:l.length≤2097152) (hs:∀x∈l,x.f0.size≤1073741824):aG T Tryz.prog 190 [.c (.sl eS l)] (.c (.sc (.bool (pO l)))):=by
 refine aH hT Tryz.func190 (by kernel_rfl) rfl rfl (fun A=>?_)
 generalize hR:pO l=R
 conv=>whnf
 refine dF.mk {i:Nat // i≤l.length∧nD (jG (nm l) i) (l.drop i)=R} (fun p=>(0,[(7,i64 p.1),(6,i64 l.length),(5,im eS l),(0,im eS l)],[])) (fun p=>l.length - p.1) ⟨0,Nat.zero_le _,hR⟩ (aA [] rfl rfl rfl ⟨⟨rfl,rfl⟩,⟨rfl,rfl⟩,⟨rfl,rfl⟩,⟨rfl,rfl⟩,trivial⟩ trivial) ?_
 rintro⟨i,hi,hR⟩
 conv=>whnf
 refine Split.mk (fun c=>?_) (fun c=>?_)
 ·have hk2:i<l.length:=fQ c
  clear c
  rw [Kz hk2] at hR
  conv=>whnf
  refine Need.mk (idx hk2) ?_
  conv=>whnf
  refine ak.mk _ (NM _ (hs _ (getD_mem hk2))) ?_
  conv=>whnf
  refine Split.mk (fun c=>?_) (fun c=>?_)
  ·have c1:iw (l.getD i zS)=false:=bU c
   conv=>whnf
   refine aT.mk ⟨by kernel_rfl,by kernel_rfl⟩ ?_
   conv=>whnf
   refine Split.mk (fun _=>?_) (fun e=>jd e)
   conv=>whnf
   exact aC.mk ⟨rfl,rfl⟩ ⟨rfl,rfl⟩ ⟨bv (by rw [←hR,c1];rfl),trivial⟩
  ·have c1:iw (l.getD i zS)=true:=dn c
   rw [c1,Bool.true_and] at hR
   clear c
   conv=>whnf
   refine Split.mk (fun c=>?_) (fun c=>?_)
   ·have h0:0<i:=lZ c
    rw [Vu h0 hk2] at hR
    have hpr:=Fv h0 (by omega)
    have hpt:(wrap64 ((i:Int) - 1)).toNat=i - 1:=by rw [hpr];rfl
    clear c
    conv=>whnf
    refine Need.mk (by rw [hpr];exact idx (show i - 1<l.length by omega)) ?_
    conv=>whnf
    refine aT.mk ⟨by kernel_rfl,by kernel_rfl⟩ ?_
    conv=>whnf
    refine Split.mk (fun c=>?_) (fun c=>?_)
    ·have c2:Op.bytesLess (l.getD (i - 1) zS).f0.toList (l.getD i zS).f0.toList=false:=(congrArg (fun j=>Op.bytesLess (l.getD j zS).f0.toList (l.getD i zS).f0.toList) hpt.symm).trans (bU c)
     conv=>whnf
     exact aC.mk ⟨rfl,rfl⟩ ⟨rfl,rfl⟩ ⟨bv (by rw [←hR,c2];rfl),trivial⟩
    ·have c2:Op.bytesLess (l.getD (i - 1) zS).f0.toList (l.getD i zS).f0.toList=true:=(congrArg (fun j=>Op.bytesLess (l.getD j zS).f0.toList (l.getD i zS).f0.toList) hpt.symm).trans (dn c)
     rw [c2,Bool.true_and] at hR
     conv=>whnf
     exact bF.mk ⟨⟨i+1,hk2,hR⟩,Nat.sub_lt_sub_left hk2 (Nat.lt_succ_self i),aA [] rfl rfl rfl ⟨⟨rfl,congrArg i64 (dO hk2 (by omega))⟩,⟨rfl,rfl⟩,⟨rfl,rfl⟩,⟨rfl,rfl⟩,trivial⟩ trivial⟩
   ·have h0:i=0:=l7 c
    subst h0
    rw [KA,Bool.true_and] at hR
    clear c
    conv=>whnf
    refine aT.mk ⟨by kernel_rfl,by kernel_rfl⟩ ?_
    conv=>whnf
    refine Split.mk (fun e=>jS e) (fun _=>?_)
    conv=>whnf
    exact bF.mk ⟨⟨0+1,hk2,hR⟩,Nat.sub_lt_sub_left hk2 (Nat.lt_succ_self 0),aA [] rfl rfl rfl ⟨⟨rfl,congrArg i64 (dO hk2 (by omega))⟩,⟨rfl,rfl⟩,⟨rfl,rfl⟩,⟨rfl,rfl⟩,trivial⟩ trivial⟩
 ·have hk2:i=l.length:=Nat.le_antisymm hi (fZ c)
  subst hk2
  conv=>whnf
  exact aC.mk ⟨rfl,rfl⟩ ⟨rfl,rfl⟩ ⟨bv (hR.symm.trans OI),trivial⟩
end Go.Proofs.YtcnfgfomholheaaGreatDoor.Q
end
section
namespace Go.Proofs.YtcnfgfomholheaaGreatDoor.Q
open Go.RowKit Go.Proofs.YtcnfgfomholheaaGreatDoor.Z Go.Proofs.YtcnfgfomholheaaGreatDoor.Pure
set_option linter.unusedVariables false
set_option linter.unusedSimpArgs false
set_option maxRecDepth 100000
set_option maxHeartbeats 4000000
abbrev vS (n:SN):dK T:= .bx eN ((T.cells eN n).map (toCell none))
abbrev bb (b:Bool):Slot T:= .c (.sc (.bool b))
theorem zC {a:Nat} (c:((a:Int)==0)=true):a=0:=by simp at c;omega
theorem zD {a:Nat} (c:((a:Int)==0)=false):a≠0:=by simp at c;omega
section
variable {a b:Nat} {x:ByteArray} {r R q:Bool}
theorem dW (h:q=true) (hR:(q && r)=R):r=R:=by rw [h,Bool.true_and] at hR;exact hR
theorem fJ (h:q=false) (hR:(q && r)=R):R=false:=by rw [h,Bool.false_and] at hR;exact hR.symm
theorem no1 {c:Bool} (h:a≠0) (hR:(!(decide (a=0) && c) && r)=R):r=R:=dW (by simp [h]) hR
theorem no2 (h:a=0) (h2:b≠0) (hR:(!(decide (a=0) && decide (b=0)) && r)=R):r=R:=dW (by simp [h,h2]) hR
theorem no3 (h:a=0) (h2:b=0) (hR:(!(decide (a=0) && decide (b=0)) && r)=R):R=false:=fJ (by simp [h,h2]) hR
theorem ha1 (h:mg x=true) (h2:a≠0) (hR:(!(mg x && !decide (a=0)) && r)=R):R=false:=fJ (by simp [h,h2]) hR
theorem ha2 (h2:a=0) (hR:(!(mg x && !decide (a=0)) && r)=R):r=R:=dW (by simp [h2]) hR
theorem ha3 (h:mg x=false) (hR:(!(mg x && !decide (a=0)) && r)=R):r=R:=dW (by simp [h]) hR
end
theorem KC {x:ByteArray} (c:(x.toList==(⟨#[35]⟩:ByteArray).toList)=true):mg x=true:=by
 rw [show(⟨#[35]⟩:ByteArray).toList=[35] by simp [ByteArray.toList_eq]] at c
 unfold mg;simpa using c
theorem KD {x:ByteArray} (c:(x.toList==(⟨#[35]⟩:ByteArray).toList)=false):mg x=false:=by
 rw [show(⟨#[35]⟩:ByteArray).toList=[35] by simp [ByteArray.toList_eq]] at c
 unfold mg;simpa using c
theorem ZB {l:List ByteArray} {i:Nat} (h0:0<i) (h:i<l.length) {x:ByteArray}:lD (jG l i) x=Op.bytesLess (l.getD (i - 1) ByteArray.empty).toList x.toList:=by
 unfold jG
 rw [if_neg (by omega)]
 have h1:i - 1<l.length:=by omega
 simp [h1,lD]
theorem ZC {d i:Nat} {ns:List ByteArray} {ks:List SN} (h:i<ns.length) (h2:i<ks.length):nN d (ns.drop i) (jG ns i) (ks.drop i)=(mW (ns.getD i ByteArray.empty) && (lD (jG ns i) (ns.getD i ByteArray.empty) && (!(decide ((ks.getD i zN).f0.length=0) && decide ((ks.getD i zN).f2.length=0)) && (!(mg (ns.getD i ByteArray.empty) && !decide ((ks.getD i zN).f0.length=0)) && (okS (d+1) (ks.getD i zN) && nN d (ns.drop (i+1)) (jG ns (i+1)) (ks.drop (i+1))))))):=by
 have e:ns.getD i ByteArray.empty=ns[i]:=by simp [h]
 have e2:ks.getD i zN=ks[i]:=by simp [h2]
 rw [List.drop_eq_getElem_cons h,List.drop_eq_getElem_cons h2,nN,e,e2,zB h,e]
theorem abk {d:Nat} {ns:List ByteArray} {ks:List SN} {p:Option ByteArray}:nN d (ns.drop ns.length) p ks=true:=by
 rw [List.drop_length];cases ks<;>rw [nN]<;>(intro x1 x2 x3 x4 e;cases e)
theorem d1_ {d:Nat} (h:d≤1000):((d+1:Nat):Int)=wrap64 ((d:Int)+1):=by simp only [wrap64];omega
theorem ZE (n:SN) (d:Nat) (hn:Bd n) (hd:d≤6) (ih:d<6→∀k∈n.f1,aG T Tryz.prog 144 [.ag (T.cells eN k), .c (.sc (.int .i64 ((d+1:Nat):Int)))] (.c (.sc (.bool (okS (d+1) k))))):aG T Tryz.prog 144 [.ag (T.cells eN n), .c (.sc (.int .i64 (d:Int)))] (.c (.sc (.bool (okS d n)))):=by
 refine kK hT Tryz.func144 (by kernel_rfl) rfl rfl (fun A=>?_)
 have hR:=Ku d n
 generalize okS d n=R at hR⊢
 refine Vc.seq 0 hT ?_
 conv=>whnf
 refine Vc.cut (α:=Unit) 2 (fun _=>n.f0.length=n.f1.length∧(n.f0.length=0∨d<6)) (fun _=>[(2, .c (.px 0 0)),(1,i64 d)]) (fun _=>[(0,vS n)]) hT ?_ (fun _ ⟨hl,h6⟩=>?_)
 ·conv=>whnf
  refine Split.mk (fun c=>?_) (fun c=>?_)
  ·have h1:¬n.f0.length=n.f1.length:=BP c
   rw [decide_eq_false h1,Bool.false_and] at hR
   conv=>whnf
   refine Split.mk (fun _=>?_) (fun e=>jd e)
   conv=>whnf
   exact aC.mk ⟨rfl,rfl⟩ ⟨rfl,rfl⟩ ⟨bv (hR),trivial⟩
  ·have h1:n.f0.length=n.f1.length:=BO c
   clear c
   conv=>whnf
   refine Split.mk (fun c=>?_) (fun c=>?_)
   ·have h2:0<n.f0.length:=lZ c
    clear c
    conv=>whnf
    refine Split.mk (fun c=>?_) (fun c=>?_)
    ·have h3:d=6:=by have:=af2 c;omega
     rw [decide_eq_true h1,decide_eq_true h2,decide_eq_true h3] at hR
     conv=>whnf
     exact aC.mk ⟨rfl,rfl⟩ ⟨rfl,rfl⟩ ⟨bv (hR),trivial⟩
    ·have h3:¬d=6:=by have:=af4 c;omega
     conv=>whnf
     exact jX.mk ⟨(),⟨h1, .inr (by omega)⟩,aA [(0,0)] rfl rfl rfl ⟨⟨rfl,rfl⟩,⟨rfl,rfl⟩,trivial⟩ ⟨⟨rfl,rfl⟩,trivial⟩⟩
   ·have h2:n.f0.length=0:=l7 c
    clear c
    conv=>whnf
    refine Split.mk (fun e=>jS e) (fun _=>?_)
    conv=>whnf
    exact jX.mk ⟨(),⟨h1, .inl h2⟩,aA [(0,0)] rfl rfl rfl ⟨⟨rfl,rfl⟩,⟨rfl,rfl⟩,trivial⟩ ⟨⟨rfl,rfl⟩,trivial⟩⟩
 refine Vc.of 1 hT ?_
 conv=>whnf
 have hb:(!(decide (0<n.f0.length) && decide (d=6)))=true:=by
  rcases h6 with h | h
  ·rw [decide_eq_false (by omega)];rfl
  ·rw [decide_eq_false (p:=d=6) (by omega),Bool.and_false];rfl
 rw [decide_eq_true hl,Bool.true_and,hb,Bool.true_and] at hR
 replace hR:=hR.symm
 clear hb
 conv=>whnf
 refine dF.mk {i:Nat // i≤n.f2.length∧(nD (jG (nm n.f2) i) (n.f2.drop i) && nN d n.f0 none n.f1)=R} (fun p=>(1,[(5,i64 p.1),(2, .c (.px 0 0)),(1,i64 d)],[(0,vS n)])) (fun p=>n.f2.length - p.1) ⟨0,Nat.zero_le _,hR⟩ (aA [(0,0)] rfl rfl rfl ⟨⟨rfl,rfl⟩,⟨rfl,rfl⟩,⟨rfl,rfl⟩,trivial⟩ ⟨⟨rfl,rfl⟩,trivial⟩) ?_
 clear hR
 rintro⟨i,hi,hR⟩
 conv=>whnf
 refine Split.mk (fun c=>?_) (fun c=>?_)
 ·have hk2:i<n.f2.length:=fQ c
  clear c
  rw [Kz hk2,Bool.and_assoc,Bool.and_assoc] at hR
  conv=>whnf
  refine Need.mk (idx hk2) ?_
  conv=>whnf
  refine ak.mk _ (DJ _) ?_
  conv=>whnf
  refine Split.mk (fun c=>?_) (fun c=>?_)
  ·have c1:iw (n.f2.getD i zS)=false:=bU c
   clear c
   conv=>whnf
   refine aT.mk ⟨by kernel_rfl,by kernel_rfl⟩ ?_
   conv=>whnf
   refine Split.mk (fun _=>?_) (fun e=>jd e)
   conv=>whnf
   exact aC.mk ⟨rfl,rfl⟩ ⟨rfl,rfl⟩ ⟨bv (fJ c1 hR),trivial⟩
  ·have c1:iw (n.f2.getD i zS)=true:=dn c
   clear c
   replace hR:=dW c1 hR
   conv=>whnf
   refine Split.mk (fun c=>?_) (fun c=>?_)
   ·have h0:0<i:=lZ c
    clear c
    have hl2:=hn.l2
    rw [Vu h0 hk2] at hR
    have hpr:=Fv h0 (by omega)
    have hpt:(wrap64 ((i:Int) - 1)).toNat=i - 1:=by rw [hpr];rfl
    conv=>whnf
    refine Need.mk (by rw [hpr];exact idx (show i - 1<n.f2.length by omega)) ?_
    conv=>whnf
    refine Need.mk (idx hk2) ?_
    conv=>whnf
    refine aT.mk ⟨by kernel_rfl,by kernel_rfl⟩ ?_
    conv=>whnf
    refine Split.mk (fun c=>?_) (fun c=>?_)
    ·have c2:Op.bytesLess (n.f2.getD (i - 1) zS).f0.toList (n.f2.getD i zS).f0.toList=false:=(congrArg (fun j=>Op.bytesLess (n.f2.getD j zS).f0.toList (n.f2.getD i zS).f0.toList) hpt.symm).trans (bU c)
     conv=>whnf
     exact aC.mk ⟨rfl,rfl⟩ ⟨rfl,rfl⟩ ⟨bv (fJ c2 hR),trivial⟩
    ·have c2:Op.bytesLess (n.f2.getD (i - 1) zS).f0.toList (n.f2.getD i zS).f0.toList=true:=(congrArg (fun j=>Op.bytesLess (n.f2.getD j zS).f0.toList (n.f2.getD i zS).f0.toList) hpt.symm).trans (dn c)
     replace hR:=dW c2 hR
     conv=>whnf
     exact bF.mk ⟨⟨i+1,hk2,hR⟩,Nat.sub_lt_sub_left hk2 (Nat.lt_succ_self i),aA [(0,0)] rfl rfl rfl ⟨⟨rfl,congrArg i64 (dO hk2 (Nat.le_trans hn.l2 (by decide)))⟩,⟨rfl,rfl⟩,⟨rfl,rfl⟩,trivial⟩ ⟨⟨rfl,rfl⟩,trivial⟩⟩
   ·have h0:i=0:=l7 c
    clear c
    subst h0
    rw [KA,Bool.true_and] at hR
    conv=>whnf
    refine aT.mk ⟨by kernel_rfl,by kernel_rfl⟩ ?_
    conv=>whnf
    refine Split.mk (fun e=>jS e) (fun _=>?_)
    conv=>whnf
    exact bF.mk ⟨⟨0+1,hk2,hR⟩,Nat.sub_lt_sub_left hk2 (Nat.lt_succ_self 0),aA [(0,0)] rfl rfl rfl ⟨⟨rfl,congrArg i64 (dO hk2 (Nat.le_trans hn.l2 (by decide)))⟩,⟨rfl,rfl⟩,⟨rfl,rfl⟩,trivial⟩ ⟨⟨rfl,rfl⟩,trivial⟩⟩
 ·have hk2:i=n.f2.length:=Nat.le_antisymm hi (fZ c)
  subst hk2
  rw [OI,Bool.true_and] at hR
  clear c
  conv=>whnf
  refine dF.mk {i:Nat // i≤n.f0.length∧nN d (n.f0.drop i) (jG n.f0 i) (n.f1.drop i)=R} (fun p=>(1,[(6,i64 p.1),(2, .c (.px 0 0)),(1,i64 d)],[(0,vS n)])) (fun p=>n.f0.length - p.1) ⟨0,Nat.zero_le _,hR⟩ (aA [(0,0)] rfl rfl rfl ⟨⟨rfl,rfl⟩,⟨rfl,rfl⟩,⟨rfl,rfl⟩,trivial⟩ ⟨⟨rfl,rfl⟩,trivial⟩) ?_
  clear hR
  rintro⟨i,hi,hR⟩
  conv=>whnf
  refine Split.mk (fun c=>?_) (fun c=>?_)
  ·have hk2:i<n.f0.length:=fQ c
   clear c
   have hk3:i<n.f1.length:=hl▸hk2
   have hd6:d<6:=by omega
   have ihk:=ih hd6 _ (getD_mem (d:=zN) hk3)
   rw [d1_ (by omega)] at ihk
   rw [ZC hk2 hk3] at hR
   have hx:=hn.z0 _ (getD_mem (d:=ByteArray.empty) hk2)
   conv=>whnf
   refine Need.mk (idx hk3) ?_
   conv=>whnf
   refine Need.mk (idx hk2) ?_
   conv=>whnf
   refine ak.mk _ (ZA _ (Nat.le_trans hx (by decide))) ?_
   conv=>whnf
   refine Split.mk (fun c=>?_) (fun c=>?_)
   ·have c1:mW (n.f0.getD i ByteArray.empty)=false:=bU c
    clear c
    conv=>whnf
    refine Split.mk (fun _=>?_) (fun e=>jd e)
    conv=>whnf
    refine Split.mk (fun _=>?_) (fun e=>jd e)
    conv=>whnf
    refine Split.mk (fun _=>?_) (fun e=>jd e)
    conv=>whnf
    refine aT.mk ⟨by kernel_rfl,by kernel_rfl⟩ ?_
    conv=>whnf
    refine Split.mk (fun _=>?_) (fun e=>jd e)
    conv=>whnf
    exact aC.mk ⟨rfl,rfl⟩ ⟨rfl,rfl⟩ ⟨bv (fJ c1 hR),trivial⟩
   ·have c1:mW (n.f0.getD i ByteArray.empty)=true:=dn c
    clear c
    replace hR:=dW c1 hR
    conv=>whnf
    refine Split.mk (fun c=>?_) (fun c=>?_)
    ·have h0:0<i:=lZ c
     clear c
     have hl0:=hn.l0
     rw [ZB h0 hk2] at hR
     have hpr:=Fv h0 (by omega)
     have hpt:(wrap64 ((i:Int) - 1)).toNat=i - 1:=by rw [hpr];rfl
     conv=>whnf
     refine Need.mk (by rw [hpr];exact idx (show i - 1<n.f0.length by omega)) ?_
     conv=>whnf
     refine Need.mk (idx hk2) ?_
     conv=>whnf
     refine Split.mk (fun c=>?_) (fun c=>?_)
     ·have c2:Op.bytesLess (n.f0.getD (i - 1) ByteArray.empty).toList (n.f0.getD i ByteArray.empty).toList=false:=(congrArg (fun j=>Op.bytesLess (n.f0.getD j ByteArray.empty).toList (n.f0.getD i ByteArray.empty).toList) hpt.symm).trans (bU c)
      clear c
      conv=>whnf
      refine Split.mk (fun _=>?_) (fun e=>jd e)
      conv=>whnf
      refine Split.mk (fun _=>?_) (fun e=>jd e)
      conv=>whnf
      refine aT.mk ⟨by kernel_rfl,by kernel_rfl⟩ ?_
      conv=>whnf
      refine Split.mk (fun _=>?_) (fun e=>jd e)
      conv=>whnf
      exact aC.mk ⟨rfl,rfl⟩ ⟨rfl,rfl⟩ ⟨bv (fJ c2 hR),trivial⟩
     ·have c2:Op.bytesLess (n.f0.getD (i - 1) ByteArray.empty).toList (n.f0.getD i ByteArray.empty).toList=true:=(congrArg (fun j=>Op.bytesLess (n.f0.getD j ByteArray.empty).toList (n.f0.getD i ByteArray.empty).toList) hpt.symm).trans (dn c)
      clear c
      replace hR:=dW c2 hR
      conv=>whnf
      refine Split.mk (fun c=>?_) (fun c=>?_)
      ·have c3:(n.f1.getD i zN).f0.length=0:=zC c
       clear c
       conv=>whnf
       refine Split.mk (fun c=>?_) (fun c=>?_)
       ·have c5:(n.f1.getD i zN).f2.length=0:=zC c
        clear c
        conv=>whnf
        refine Split.mk (fun _=>?_) (fun e=>jd e)
        conv=>whnf
        refine aT.mk ⟨by kernel_rfl,by kernel_rfl⟩ ?_
        conv=>whnf
        refine Split.mk (fun _=>?_) (fun e=>jd e)
        conv=>whnf
        exact aC.mk ⟨rfl,rfl⟩ ⟨rfl,rfl⟩ ⟨bv (no3 c3 c5 hR),trivial⟩
       ·have c5:(n.f1.getD i zN).f2.length≠0:=zD c
        clear c
        replace hR:=no2 c3 c5 hR
        conv=>whnf
        refine Need.mk (idx hk2) ?_
        conv=>whnf
        refine Split.mk (fun c=>?_) (fun c=>?_)
        ·have c3:=KC c
         clear c
         conv=>whnf
         refine Split.mk (fun c=>?_) (fun c=>?_)
         ·have c5:(n.f1.getD i zN).f0.length≠0:=Nat.ne_of_gt (lZ c)
          clear c
          conv=>whnf
          refine aT.mk ⟨by kernel_rfl,by kernel_rfl⟩ ?_
          conv=>whnf
          refine Split.mk (fun _=>?_) (fun e=>jd e)
          conv=>whnf
          exact aC.mk ⟨rfl,rfl⟩ ⟨rfl,rfl⟩ ⟨bv (ha1 c3 c5 hR),trivial⟩
         ·have c5:(n.f1.getD i zN).f0.length=0:=l7 c
          clear c
          replace hR:=ha2 c5 hR
          conv=>whnf
          refine ak.mk _ ihk ?_
          conv=>whnf
          refine aT.mk ⟨by kernel_rfl,by kernel_rfl⟩ ?_
          conv=>whnf
          refine Split.mk (fun c=>?_) (fun c=>?_)
          ·have c4:okS (d+1) (n.f1.getD i zN)=false:=bU c
           conv=>whnf
           exact aC.mk ⟨rfl,rfl⟩ ⟨rfl,rfl⟩ ⟨bv (fJ c4 hR),trivial⟩
          ·have c4:okS (d+1) (n.f1.getD i zN)=true:=dn c
           replace hR:=dW c4 hR
           conv=>whnf
           exact bF.mk ⟨⟨i+1,hk2,hR⟩,Nat.sub_lt_sub_left hk2 (Nat.lt_succ_self i),aA [(0,0)] rfl rfl rfl ⟨⟨rfl,congrArg i64 (dO hk2 (Nat.le_trans hn.l0 (by decide)))⟩,⟨rfl,rfl⟩,⟨rfl,rfl⟩,trivial⟩ ⟨⟨rfl,rfl⟩,trivial⟩⟩
        ·have c3:=KD c
         clear c
         replace hR:=ha3 c3 hR
         conv=>whnf
         refine Split.mk (fun e=>jS e) (fun _=>?_)
         conv=>whnf
         refine ak.mk _ ihk ?_
         conv=>whnf
         refine aT.mk ⟨by kernel_rfl,by kernel_rfl⟩ ?_
         conv=>whnf
         refine Split.mk (fun c=>?_) (fun c=>?_)
         ·have c4:okS (d+1) (n.f1.getD i zN)=false:=bU c
          conv=>whnf
          exact aC.mk ⟨rfl,rfl⟩ ⟨rfl,rfl⟩ ⟨bv (fJ c4 hR),trivial⟩
         ·have c4:okS (d+1) (n.f1.getD i zN)=true:=dn c
          replace hR:=dW c4 hR
          conv=>whnf
          exact bF.mk ⟨⟨i+1,hk2,hR⟩,Nat.sub_lt_sub_left hk2 (Nat.lt_succ_self i),aA [(0,0)] rfl rfl rfl ⟨⟨rfl,congrArg i64 (dO hk2 (Nat.le_trans hn.l0 (by decide)))⟩,⟨rfl,rfl⟩,⟨rfl,rfl⟩,trivial⟩ ⟨⟨rfl,rfl⟩,trivial⟩⟩
      ·have c3:(n.f1.getD i zN).f0.length≠0:=zD c
       clear c
       replace hR:=no1 c3 hR
       conv=>whnf
       refine Split.mk (fun e=>jS e) (fun _=>?_)
       conv=>whnf
       refine Need.mk (idx hk2) ?_
       conv=>whnf
       refine Split.mk (fun c=>?_) (fun c=>?_)
       ·have c3:=KC c
        clear c
        conv=>whnf
        refine Split.mk (fun c=>?_) (fun c=>?_)
        ·have c5:(n.f1.getD i zN).f0.length≠0:=Nat.ne_of_gt (lZ c)
         clear c
         conv=>whnf
         refine aT.mk ⟨by kernel_rfl,by kernel_rfl⟩ ?_
         conv=>whnf
         refine Split.mk (fun _=>?_) (fun e=>jd e)
         conv=>whnf
         exact aC.mk ⟨rfl,rfl⟩ ⟨rfl,rfl⟩ ⟨bv (ha1 c3 c5 hR),trivial⟩
        ·have c5:(n.f1.getD i zN).f0.length=0:=l7 c
         clear c
         replace hR:=ha2 c5 hR
         conv=>whnf
         refine ak.mk _ ihk ?_
         conv=>whnf
         refine aT.mk ⟨by kernel_rfl,by kernel_rfl⟩ ?_
         conv=>whnf
         refine Split.mk (fun c=>?_) (fun c=>?_)
         ·have c4:okS (d+1) (n.f1.getD i zN)=false:=bU c
          conv=>whnf
          exact aC.mk ⟨rfl,rfl⟩ ⟨rfl,rfl⟩ ⟨bv (fJ c4 hR),trivial⟩
         ·have c4:okS (d+1) (n.f1.getD i zN)=true:=dn c
          replace hR:=dW c4 hR
          conv=>whnf
          exact bF.mk ⟨⟨i+1,hk2,hR⟩,Nat.sub_lt_sub_left hk2 (Nat.lt_succ_self i),aA [(0,0)] rfl rfl rfl ⟨⟨rfl,congrArg i64 (dO hk2 (Nat.le_trans hn.l0 (by decide)))⟩,⟨rfl,rfl⟩,⟨rfl,rfl⟩,trivial⟩ ⟨⟨rfl,rfl⟩,trivial⟩⟩
       ·have c3:=KD c
        clear c
        replace hR:=ha3 c3 hR
        conv=>whnf
        refine Split.mk (fun e=>jS e) (fun _=>?_)
        conv=>whnf
        refine ak.mk _ ihk ?_
        conv=>whnf
        refine aT.mk ⟨by kernel_rfl,by kernel_rfl⟩ ?_
        conv=>whnf
        refine Split.mk (fun c=>?_) (fun c=>?_)
        ·have c4:okS (d+1) (n.f1.getD i zN)=false:=bU c
         conv=>whnf
         exact aC.mk ⟨rfl,rfl⟩ ⟨rfl,rfl⟩ ⟨bv (fJ c4 hR),trivial⟩
        ·have c4:okS (d+1) (n.f1.getD i zN)=true:=dn c
         replace hR:=dW c4 hR
         conv=>whnf
         exact bF.mk ⟨⟨i+1,hk2,hR⟩,Nat.sub_lt_sub_left hk2 (Nat.lt_succ_self i),aA [(0,0)] rfl rfl rfl ⟨⟨rfl,congrArg i64 (dO hk2 (Nat.le_trans hn.l0 (by decide)))⟩,⟨rfl,rfl⟩,⟨rfl,rfl⟩,trivial⟩ ⟨⟨rfl,rfl⟩,trivial⟩⟩
    ·have h0:i=0:=l7 c
     clear c
     subst h0
     rw [KA,Bool.true_and] at hR
     conv=>whnf
     refine Split.mk (fun e=>jS e) (fun _=>?_)
     conv=>whnf
     refine Split.mk (fun c=>?_) (fun c=>?_)
     ·have c3:(n.f1.getD 0 zN).f0.length=0:=zC c
      clear c
      conv=>whnf
      refine Split.mk (fun c=>?_) (fun c=>?_)
      ·have c5:(n.f1.getD 0 zN).f2.length=0:=zC c
       clear c
       conv=>whnf
       refine Split.mk (fun _=>?_) (fun e=>jd e)
       conv=>whnf
       refine aT.mk ⟨by kernel_rfl,by kernel_rfl⟩ ?_
       conv=>whnf
       refine Split.mk (fun _=>?_) (fun e=>jd e)
       conv=>whnf
       exact aC.mk ⟨rfl,rfl⟩ ⟨rfl,rfl⟩ ⟨bv (no3 c3 c5 hR),trivial⟩
      ·have c5:(n.f1.getD 0 zN).f2.length≠0:=zD c
       clear c
       replace hR:=no2 c3 c5 hR
       conv=>whnf
       refine Need.mk (idx hk2) ?_
       conv=>whnf
       refine Split.mk (fun c=>?_) (fun c=>?_)
       ·have c3:=KC c
        clear c
        conv=>whnf
        refine Split.mk (fun c=>?_) (fun c=>?_)
        ·have c5:(n.f1.getD 0 zN).f0.length≠0:=Nat.ne_of_gt (lZ c)
         clear c
         conv=>whnf
         refine aT.mk ⟨by kernel_rfl,by kernel_rfl⟩ ?_
         conv=>whnf
         refine Split.mk (fun _=>?_) (fun e=>jd e)
         conv=>whnf
         exact aC.mk ⟨rfl,rfl⟩ ⟨rfl,rfl⟩ ⟨bv (ha1 c3 c5 hR),trivial⟩
        ·have c5:(n.f1.getD 0 zN).f0.length=0:=l7 c
         clear c
         replace hR:=ha2 c5 hR
         conv=>whnf
         refine ak.mk _ ihk ?_
         conv=>whnf
         refine aT.mk ⟨by kernel_rfl,by kernel_rfl⟩ ?_
         conv=>whnf
         refine Split.mk (fun c=>?_) (fun c=>?_)
         ·have c4:okS (d+1) (n.f1.getD 0 zN)=false:=bU c
          conv=>whnf
          exact aC.mk ⟨rfl,rfl⟩ ⟨rfl,rfl⟩ ⟨bv (fJ c4 hR),trivial⟩
         ·have c4:okS (d+1) (n.f1.getD 0 zN)=true:=dn c
          replace hR:=dW c4 hR
          conv=>whnf
          exact bF.mk ⟨⟨0+1,hk2,hR⟩,Nat.sub_lt_sub_left hk2 (Nat.lt_succ_self 0),aA [(0,0)] rfl rfl rfl ⟨⟨rfl,congrArg i64 (dO hk2 (Nat.le_trans hn.l0 (by decide)))⟩,⟨rfl,rfl⟩,⟨rfl,rfl⟩,trivial⟩ ⟨⟨rfl,rfl⟩,trivial⟩⟩
       ·have c3:=KD c
        clear c
        replace hR:=ha3 c3 hR
        conv=>whnf
        refine Split.mk (fun e=>jS e) (fun _=>?_)
        conv=>whnf
        refine ak.mk _ ihk ?_
        conv=>whnf
        refine aT.mk ⟨by kernel_rfl,by kernel_rfl⟩ ?_
        conv=>whnf
        refine Split.mk (fun c=>?_) (fun c=>?_)
        ·have c4:okS (d+1) (n.f1.getD 0 zN)=false:=bU c
         conv=>whnf
         exact aC.mk ⟨rfl,rfl⟩ ⟨rfl,rfl⟩ ⟨bv (fJ c4 hR),trivial⟩
        ·have c4:okS (d+1) (n.f1.getD 0 zN)=true:=dn c
         replace hR:=dW c4 hR
         conv=>whnf
         exact bF.mk ⟨⟨0+1,hk2,hR⟩,Nat.sub_lt_sub_left hk2 (Nat.lt_succ_self 0),aA [(0,0)] rfl rfl rfl ⟨⟨rfl,congrArg i64 (dO hk2 (Nat.le_trans hn.l0 (by decide)))⟩,⟨rfl,rfl⟩,⟨rfl,rfl⟩,trivial⟩ ⟨⟨rfl,rfl⟩,trivial⟩⟩
     ·have c3:(n.f1.getD 0 zN).f0.length≠0:=zD c
      clear c
      replace hR:=no1 c3 hR
      conv=>whnf
      refine Split.mk (fun e=>jS e) (fun _=>?_)
      conv=>whnf
      refine Need.mk (idx hk2) ?_
      conv=>whnf
      refine Split.mk (fun c=>?_) (fun c=>?_)
      ·have c3:=KC c
       clear c
       conv=>whnf
       refine Split.mk (fun c=>?_) (fun c=>?_)
       ·have c5:(n.f1.getD 0 zN).f0.length≠0:=Nat.ne_of_gt (lZ c)
        clear c
        conv=>whnf
        refine aT.mk ⟨by kernel_rfl,by kernel_rfl⟩ ?_
        conv=>whnf
        refine Split.mk (fun _=>?_) (fun e=>jd e)
        conv=>whnf
        exact aC.mk ⟨rfl,rfl⟩ ⟨rfl,rfl⟩ ⟨bv (ha1 c3 c5 hR),trivial⟩
       ·have c5:(n.f1.getD 0 zN).f0.length=0:=l7 c
        clear c
        replace hR:=ha2 c5 hR
        conv=>whnf
        refine ak.mk _ ihk ?_
        conv=>whnf
        refine aT.mk ⟨by kernel_rfl,by kernel_rfl⟩ ?_
        conv=>whnf
        refine Split.mk (fun c=>?_) (fun c=>?_)
        ·have c4:okS (d+1) (n.f1.getD 0 zN)=false:=bU c
         conv=>whnf
         exact aC.mk ⟨rfl,rfl⟩ ⟨rfl,rfl⟩ ⟨bv (fJ c4 hR),trivial⟩
        ·have c4:okS (d+1) (n.f1.getD 0 zN)=true:=dn c
         replace hR:=dW c4 hR
         conv=>whnf
         exact bF.mk ⟨⟨0+1,hk2,hR⟩,Nat.sub_lt_sub_left hk2 (Nat.lt_succ_self 0),aA [(0,0)] rfl rfl rfl ⟨⟨rfl,congrArg i64 (dO hk2 (Nat.le_trans hn.l0 (by decide)))⟩,⟨rfl,rfl⟩,⟨rfl,rfl⟩,trivial⟩ ⟨⟨rfl,rfl⟩,trivial⟩⟩
      ·have c3:=KD c
       clear c
       replace hR:=ha3 c3 hR
       conv=>whnf
       refine Split.mk (fun e=>jS e) (fun _=>?_)
       conv=>whnf
       refine ak.mk _ ihk ?_
       conv=>whnf
       refine aT.mk ⟨by kernel_rfl,by kernel_rfl⟩ ?_
       conv=>whnf
       refine Split.mk (fun c=>?_) (fun c=>?_)
       ·have c4:okS (d+1) (n.f1.getD 0 zN)=false:=bU c
        conv=>whnf
        exact aC.mk ⟨rfl,rfl⟩ ⟨rfl,rfl⟩ ⟨bv (fJ c4 hR),trivial⟩
       ·have c4:okS (d+1) (n.f1.getD 0 zN)=true:=dn c
        replace hR:=dW c4 hR
        conv=>whnf
        exact bF.mk ⟨⟨0+1,hk2,hR⟩,Nat.sub_lt_sub_left hk2 (Nat.lt_succ_self 0),aA [(0,0)] rfl rfl rfl ⟨⟨rfl,congrArg i64 (dO hk2 (Nat.le_trans hn.l0 (by decide)))⟩,⟨rfl,rfl⟩,⟨rfl,rfl⟩,trivial⟩ ⟨⟨rfl,rfl⟩,trivial⟩⟩
  ·have hk2:i=n.f0.length:=Nat.le_antisymm hi (fZ c)
   subst hk2
   conv=>whnf
   exact aC.mk ⟨rfl,rfl⟩ ⟨rfl,rfl⟩ ⟨bv (hR.symm.trans abk),trivial⟩
theorem ZF:∀(n:SN),Bd n→∀d:Nat,d≤6→aG T Tryz.prog 144 [.ag (T.cells eN n), .c (.sc (.int .i64 (d:Int)))] (.c (.sc (.bool (okS d n)))):=fun n hn d hd=>
 ZE n d hn hd (fun h k hk=>ZF k (hn.kid k hk) (d+1) h)
termination_by n=>SizeOf.sizeOf n
decreasing_by exact kG hk
end Go.Proofs.YtcnfgfomholheaaGreatDoor.Q
end
section
namespace Go.Proofs.YtcnfgfomholheaaGreatDoor.Q
open Go.RowKit Go.Proofs.YtcnfgfomholheaaGreatDoor.Z Go.Proofs.YtcnfgfomholheaaGreatDoor.Pure
set_option linter.unusedVariables false
set_option linter.unusedSimpArgs false
set_option maxRecDepth 100000
set_option maxHeartbeats 4000000
theorem ZG {d i:Nat} {a:ByteArray} {ns:List ByteArray} {ks:List SN} (h:i<ns.length) (h2:i<ks.length):qN d a (ns.drop i) (ks.drop i)=(Af (d+1) (if 0<d then (a++(⟨#[47]⟩:ByteArray))++ns.getD i ByteArray.empty else ns.getD i ByteArray.empty) (ks.getD i zN) && qN d a (ns.drop (i+1)) (ks.drop (i+1))):=by
 have e:ns.getD i ByteArray.empty=ns[i]:=by simp [h]
 have e2:ks.getD i zN=ks[i]:=by simp [h2]
 rw [List.drop_eq_getElem_cons h,List.drop_eq_getElem_cons h2,qN,e,e2]
theorem abl {d:Nat} {a:ByteArray} {ns:List ByteArray} {ks:List SN}:qN d a (ns.drop ns.length) ks=true:=by
 rw [List.drop_length];cases ks<;>rw [qN]<;>(intro x1 x2 x3 x4 e;cases e)
theorem aey {d i:Nat} {n:SN} (h:okS d n=true) (hi:i<n.f1.length):okS (d+1) (n.f1.getD i zN)=true:=by
 obtain⟨e1,e2,e3,e4⟩:=vC h
 exact SB d n.f0 none n.f1 e1 e4 _ (getD_mem hi)
theorem SH (n:SN) (d:Nat) (a:ByteArray) (hn:Bd n) (hd:d≤6) (ha:a.size≤d*1048577) (hok:okS d n=true) (ih:∀k∈n.f1,okS (d+1) k=true→d<6→∀b:ByteArray,b.size≤(d+1)*1048577→aG T Tryz.prog 145 [.ag (T.cells eN k), .c (.sc (.string b)), .c (.sc (.int .i64 ((d+1:Nat):Int)))] (.c (.sc (.bool (Af (d+1) b k))))):aG T Tryz.prog 145 [.ag (T.cells eN n), .c (.sc (.string a)), .c (.sc (.int .i64 (d:Int)))] (.c (.sc (.bool (Af d a n)))):=by
 refine kK hT Tryz.func145 (by kernel_rfl) rfl rfl (fun A=>?_)
 have hR:=Zq d a n
 generalize Af d a n=R at hR⊢
 replace hR:=hR.symm
 obtain⟨hl,h6,_,_⟩:=vC hok
 refine Vc.seq 0 hT ?_
 conv=>whnf
 refine Vc.cut (α:=Unit) 2 (fun _=>qN d a n.f0 n.f1=R) (fun _=>[(3, .c (.px 0 0)),(1,aex a),(2,i64 d)]) (fun _=>[(0,vS n)]) hT ?_ (fun _ hR=>?_)
 ·conv=>whnf
  refine Split.mk (fun c=>?_) (fun c=>?_)
  ·have h1:0<d:=lZ c
   clear c
   rw [decide_eq_true h1,Bool.true_and] at hR
   conv=>whnf
   refine Split.mk (fun c=>?_) (fun c=>?_)
   ·have h2:0<n.f2.length:=lZ c
    clear c
    rw [decide_eq_true h2,Bool.true_and,Bool.not_not] at hR
    conv=>whnf
    refine ak.mk _ (rW a (by omega)) ?_
    conv=>whnf
    refine Split.mk (fun c=>?_) (fun c=>?_)
    ·have c1:bW a=false:=bU c
     clear c
     conv=>whnf
     exact aC.mk ⟨rfl,rfl⟩ ⟨rfl,rfl⟩ ⟨bv (fJ c1 hR),trivial⟩
    ·have c1:bW a=true:=dn c
     clear c
     conv=>whnf
     exact jX.mk ⟨(),dW c1 hR,aA [(0,0)] rfl rfl rfl ⟨⟨rfl,rfl⟩,⟨rfl,rfl⟩,⟨rfl,rfl⟩,trivial⟩ ⟨⟨rfl,rfl⟩,trivial⟩⟩
   ·have h2:n.f2.length=0:=l7 c
    clear c
    have hR:=dW (by rw [decide_eq_false (by omega)];rfl) hR
    conv=>whnf
    refine Split.mk (fun e=>jS e) (fun _=>?_)
    conv=>whnf
    exact jX.mk ⟨(),hR,aA [(0,0)] rfl rfl rfl ⟨⟨rfl,rfl⟩,⟨rfl,rfl⟩,⟨rfl,rfl⟩,trivial⟩ ⟨⟨rfl,rfl⟩,trivial⟩⟩
  ·have h1:d=0:=l7 c
   clear c
   have hR:=dW (by rw [decide_eq_false (by omega)];rfl) hR
   conv=>whnf
   refine Split.mk (fun e=>jS e) (fun _=>?_)
   conv=>whnf
   refine Split.mk (fun e=>jS e) (fun _=>?_)
   conv=>whnf
   exact jX.mk ⟨(),hR,aA [(0,0)] rfl rfl rfl ⟨⟨rfl,rfl⟩,⟨rfl,rfl⟩,⟨rfl,rfl⟩,trivial⟩ ⟨⟨rfl,rfl⟩,trivial⟩⟩
 refine Vc.of 1 hT ?_
 conv=>whnf
 refine dF.mk {i:Nat // i≤n.f0.length∧qN d a (n.f0.drop i) (n.f1.drop i)=R} (fun p=>(1,[(7,i64 p.1),(3, .c (.px 0 0)),(1,aex a),(2,i64 d)],[(0,vS n)])) (fun p=>n.f0.length - p.1) ⟨0,Nat.zero_le _,hR⟩ (aA [(0,0)] rfl rfl rfl ⟨⟨rfl,rfl⟩,⟨rfl,rfl⟩,⟨rfl,rfl⟩,⟨rfl,rfl⟩,trivial⟩ ⟨⟨rfl,rfl⟩,trivial⟩) ?_
 rename_i hR0
 clear hR hR0
 rintro⟨i,hi,hR⟩
 conv=>whnf
 refine Split.mk (fun c=>?_) (fun c=>?_)
 ·have hk2:i<n.f0.length:=fQ c
  clear c
  have hk3:i<n.f1.length:=hl▸hk2
  have hd6:d<6:=by have:=h6 (by omega);omega
  have hx:=hn.z0 _ (getD_mem (d:=ByteArray.empty) hk2)
  have ihk:=ih _ (getD_mem (d:=zN) hk3) (aey hok hk3) hd6
  rw [d1_ (by omega)] at ihk
  rw [ZG hk2 hk3] at hR
  conv=>whnf
  refine Need.mk (idx hk2) ?_
  conv=>whnf
  refine Split.mk (fun c=>?_) (fun c=>?_)
  ·have h1:0<d:=lZ c
   clear c
   rw [if_pos h1] at hR
   have hs1:(a++(⟨#[47]⟩:ByteArray)).size=a.size+1:=uM _ _
   have hs2:((a++(⟨#[47]⟩:ByteArray))++n.f0.getD i ByteArray.empty).size=a.size+1+(n.f0.getD i ByteArray.empty).size:=by rw [uM,hs1]
   conv=>whnf
   refine Need.mk (show a.size+1≤9223372036854775807 by omega) ?_
   conv=>whnf
   refine Need.mk (show(a++(⟨#[47]⟩:ByteArray)).size+(n.f0.getD i ByteArray.empty).size≤9223372036854775807 by omega) ?_
   conv=>whnf
   refine Need.mk (idx hk3) ?_
   conv=>whnf
   refine ak.mk _ (ihk _ (by show((a++(⟨#[47]⟩:ByteArray))++n.f0.getD i ByteArray.empty).size≤_;omega)) ?_
   conv=>whnf
   refine Split.mk (fun c=>?_) (fun c=>?_)
   ·have c4:=bU c
    conv=>whnf
    exact aC.mk ⟨rfl,rfl⟩ ⟨rfl,rfl⟩ ⟨bv (fJ c4 hR),trivial⟩
   ·have c4:=dn c
    replace hR:=dW c4 hR
    conv=>whnf
    exact bF.mk ⟨⟨i+1,hk2,hR⟩,Nat.sub_lt_sub_left hk2 (Nat.lt_succ_self i),aA [(0,0)] rfl rfl rfl ⟨⟨rfl,congrArg i64 (dO hk2 (Nat.le_trans hn.l0 (by decide)))⟩,⟨rfl,rfl⟩,⟨rfl,rfl⟩,⟨rfl,rfl⟩,trivial⟩ ⟨⟨rfl,rfl⟩,trivial⟩⟩
  ·have h1:d=0:=l7 c
   clear c
   rw [if_neg (by omega)] at hR
   conv=>whnf
   refine Need.mk (idx hk3) ?_
   conv=>whnf
   refine ak.mk _ (ihk _ (by show(n.f0.getD i ByteArray.empty).size≤_;omega)) ?_
   conv=>whnf
   refine Split.mk (fun c=>?_) (fun c=>?_)
   ·have c4:=bU c
    conv=>whnf
    exact aC.mk ⟨rfl,rfl⟩ ⟨rfl,rfl⟩ ⟨bv (fJ c4 hR),trivial⟩
   ·have c4:=dn c
    replace hR:=dW c4 hR
    conv=>whnf
    exact bF.mk ⟨⟨i+1,hk2,hR⟩,Nat.sub_lt_sub_left hk2 (Nat.lt_succ_self i),aA [(0,0)] rfl rfl rfl ⟨⟨rfl,congrArg i64 (dO hk2 (Nat.le_trans hn.l0 (by decide)))⟩,⟨rfl,rfl⟩,⟨rfl,rfl⟩,⟨rfl,rfl⟩,trivial⟩ ⟨⟨rfl,rfl⟩,trivial⟩⟩
 ·have hk2:i=n.f0.length:=Nat.le_antisymm hi (fZ c)
  subst hk2
  conv=>whnf
  exact aC.mk ⟨rfl,rfl⟩ ⟨rfl,rfl⟩ ⟨bv (hR.symm.trans abl),trivial⟩
theorem OJ:∀(n:SN),Bd n→∀(d:Nat) (a:ByteArray),d≤6→a.size≤d*1048577→okS d n=true→aG T Tryz.prog 145 [.ag (T.cells eN n), .c (.sc (.string a)), .c (.sc (.int .i64 (d:Int)))] (.c (.sc (.bool (Af d a n)))):=fun n hn d a hd ha hok=>
 SH n d a hn hd ha hok (fun k hk hok2 h b hb=>OJ k (hn.kid k hk) (d+1) b h hb hok2)
termination_by n=>SizeOf.sizeOf n
decreasing_by exact kG hk
theorem Ul {n:SN} (hn:Bd n) (h0:n.f2.length=0):fH n=(okS 0 n && Af 0 (⟨#[]⟩:ByteArray) n):=by
 have hB:=Zw hn [] 0 rfl (by omega) (fun _=>h0)
 have e:dG []=(⟨#[]⟩:ByteArray):=rfl
 rw [e] at hB
 unfold fH
 rw [decide_eq_true h0,Bool.true_and,Bool.eq_iff_iff,hB,Bool.and_eq_true]
theorem Az (n:SN) (hn:Bd n):aG T Tryz.prog 76 [.ag (T.cells eN n)] (.c (.sc (.bool (fH n)))):=by
 refine aH hT Tryz.func76 (by kernel_rfl) rfl rfl (fun A=>?_)
 conv=>whnf
 refine Split.mk (fun c=>?_) (fun c=>?_)
 ·have h0:n.f2.length=0:=zC c
  clear c
  rw [Ul hn h0]
  conv=>whnf
  refine ak.mk _ (ZF n hn 0 (by decide)) ?_
  conv=>whnf
  refine Split.mk (fun c=>?_) (fun c=>?_)
  ·conv=>whnf
   refine ak.mk _ (OJ n hn 0 _ (by decide) (by show(0:Nat)≤_;omega) c) ?_
   conv=>whnf
   exact aC.mk ⟨rfl,rfl⟩ ⟨rfl,rfl⟩ ⟨bv (by rw [c];rfl),trivial⟩
  ·conv=>whnf
   exact aC.mk ⟨rfl,rfl⟩ ⟨rfl,rfl⟩ ⟨bv (by rw [c];rfl),trivial⟩
 ·have h0:n.f2.length≠0:=zD c
  clear c
  conv=>whnf
  refine Split.mk (fun e=>jS e) (fun _=>?_)
  conv=>whnf
  exact aC.mk ⟨rfl,rfl⟩ ⟨rfl,rfl⟩ ⟨bv (by unfold fH;rw [decide_eq_false h0];rfl),trivial⟩
end Go.Proofs.YtcnfgfomholheaaGreatDoor.Q
end
section
namespace Go.Proofs.YtcnfgfomholheaaGreatDoor.Q
open Go.RowKit Go.Proofs.YtcnfgfomholheaaGreatDoor.Z Go.Proofs.YtcnfgfomholheaaGreatDoor.Pure
set_option linter.unusedVariables false
set_option linter.unusedSimpArgs false
set_option maxRecDepth 100000
set_option maxHeartbeats 4000000
theorem ZH {i:Nat} {p:List ByteArray} {ns:List ByteArray} {ks:List SN} (h:i<ns.length) (h2:i<ks.length):lN p (ns.drop i) (jG ns i) (ks.drop i)=(lD (jG ns i) (ns.getD i ByteArray.empty) && (decide ((ng (ns.getD i ByteArray.empty)).length≤1) && (jD (dl (ns.getD i ByteArray.empty)) (((ks.getD i zN).f1.length:Int)==0) && (!(decide ((ks.getD i zN).f1.length=0) && decide ((ks.getD i zN).f2.length=0)) && (okI (p++[ns.getD i ByteArray.empty]) (ks.getD i zN) && lN p (ns.drop (i+1)) (jG ns (i+1)) (ks.drop (i+1))))))):=by
 have e:ns.getD i ByteArray.empty=ns[i]:=by simp [h]
 have e2:ks.getD i zN=ks[i]:=by simp [h2]
 have e3:((ks[i].f1.length:Int)==0)=decide (ks[i].f1.length=0):=by rw [Bool.eq_iff_iff];simp
 rw [List.drop_eq_getElem_cons h,List.drop_eq_getElem_cons h2,lN,e,e2,zB h,e,wY,pieces_len,e3,Bool.and_assoc]
theorem abm {p:List ByteArray} {ns:List ByteArray} {ks:List SN} {y:Option ByteArray}:lN p (ns.drop ns.length) y ks=true:=by
 rw [List.drop_length];cases ks<;>rw [lN]<;>(intro x1 x2 x3 x4 e;cases e)
theorem Xt {a b:Nat} (c:decide ((a:Int)>(b:Int))=true):b<a:=by simp at c;omega
theorem Xu {a b:Nat} (c:decide ((a:Int)>(b:Int))=false):a≤b:=by simp at c;omega
theorem rQ:tJ T 9:=fun _=>rfl
theorem O8:tJ T eS:=fun _=>rfl
theorem bJ {a b:Nat} {bt:Nat} (h:a+b≤8388608) (hb:bt≤1024):a+b≤maxLen∧(a+b)*bt≤140737488355328:=by
 have:(a+b)*bt≤8388608*1024:=Nat.mul_le_mul h hb
 unfold maxLen;omega
theorem NC {f:FuncId} {x:Arg T.Tb} {e:Nat} {r:RS T.Tb} (h:aG T Tryz.prog f [x, .c (.sl e [])] r):aG T Tryz.prog f [x, .c (.sc (.slice none 0 0))] r:=by
 refine⟨h.1,fun w vs S hj ha=>h.2 w vs S hj ?_⟩
 obtain⟨v,q,rfl,h1,v2,q2,rfl,⟨rfl,_⟩,rfl⟩:=ha
 exact⟨v,_,rfl,h1,_,_,rfl, .nil e none 0,rfl⟩
theorem ZI (n:SN) (p:List ByteArray) (hn:Bd n) (hp:p.length≤7) (hz:∀x∈p,x.size≤1048576) (ih:p.length≤6→∀k∈n.f1,∀x:ByteArray,x.size≤1048576→aG T Tryz.prog 137 [.ag (T.cells eN k), .c (.sl 9 (p++[x]))] (.c (.sc (.bool (okI (p++[x]) k))))):aG T Tryz.prog 137 [.ag (T.cells eN n), .c (.sl 9 (p))] (.c (.sc (.bool (okI (p) n)))):=by
 refine kK hT Tryz.func137 (by kernel_rfl) rfl rfl (fun A=>?_)
 have hR:=Zr p n
 generalize okI p n=R at hR⊢
 replace hR:=hR.symm
 refine Vc.seq 0 hT ?_
 conv=>whnf
 refine Vc.seq 1 hT ?_
 conv=>whnf
 refine Split.mk (fun c=>?_) (fun c=>?_)
 ·have h1:¬n.f0.length=n.f1.length:=BP c
  clear c
  conv=>whnf
  refine Split.mk (fun _=>?_) (fun e=>jd e)
  conv=>whnf
  refine Split.mk (fun _=>?_) (fun e=>jd e)
  conv=>whnf
  exact aC.mk ⟨rfl,rfl⟩ ⟨rfl,rfl⟩ ⟨bv (fJ (decide_eq_false h1) hR),trivial⟩
 have hl:n.f0.length=n.f1.length:=BO c
 clear c
 replace hR:=dW (decide_eq_true hl) hR
 conv=>whnf
 refine Split.mk (fun c=>?_) (fun c=>?_)
 ·have h1:¬p.length≤6:=Nat.not_le.2 (Xt (b:=6) c)
  clear c
  conv=>whnf
  refine Split.mk (fun _=>?_) (fun e=>jd e)
  conv=>whnf
  exact aC.mk ⟨rfl,rfl⟩ ⟨rfl,rfl⟩ ⟨bv (fJ (decide_eq_false h1) hR),trivial⟩
 have h6:p.length≤6:=Xu (b:=6) c
 clear c
 replace hR:=dW (decide_eq_true h6) hR
 conv=>whnf
 refine ak.mk _ (Xr n.f2 hn.l2 (fun x hx=>Nat.le_trans (hn.z2 x hx) (by decide))) ?_
 conv=>whnf
 refine Split.mk (fun c=>?_) (fun c=>?_)
 ·have c1:pO n.f2=false:=bU c
  clear c
  conv=>whnf
  exact aC.mk ⟨rfl,rfl⟩ ⟨rfl,rfl⟩ ⟨bv (fJ c1 hR),trivial⟩
 have c1:pO n.f2=true:=dn c
 clear c
 replace hR:=dW c1 hR
 conv=>whnf
 refine Vc.cut (α:=Unit) 2 (fun _=>lN p n.f0 none n.f1=R) (fun _=>[(2, .c (.px 0 0)),(1,im 9 p)]) (fun _=>[(0,vS n)]) hT ?_ (fun _ hR=>?_)
 ·conv=>whnf
  refine Split.mk (fun c=>?_) (fun c=>?_)
  ·have h1:0<n.f2.length:=lZ c
   clear c
   rw [decide_eq_false (p:=n.f2.length=0) (by omega),Bool.false_or] at hR
   conv=>whnf
   refine ak.mk _ (P7 p (by omega) (uJ p hp hz)) ?_
   conv=>whnf
   refine ak.mk _ (xq _ (uJ p hp hz)) ?_
   conv=>whnf
   refine Split.mk (fun c=>?_) (fun c=>?_)
   ·have c1:bW (dG p)=false:=bU c
    clear c
    conv=>whnf
    exact aC.mk ⟨rfl,rfl⟩ ⟨rfl,rfl⟩ ⟨bv (fJ c1 hR),trivial⟩
   ·have c1:bW (dG p)=true:=dn c
    clear c
    conv=>whnf
    exact jX.mk ⟨(),dW c1 hR,aA [(0,0)] rfl rfl rfl ⟨⟨rfl,rfl⟩,⟨rfl,rfl⟩,trivial⟩ ⟨⟨rfl,rfl⟩,trivial⟩⟩
  ·have h1:n.f2.length=0:=l7 c
   clear c
   replace hR:=dW (by rw [decide_eq_true h1];rfl) hR
   conv=>whnf
   refine Split.mk (fun e=>jS e) (fun _=>?_)
   conv=>whnf
   exact jX.mk ⟨(),hR,aA [(0,0)] rfl rfl rfl ⟨⟨rfl,rfl⟩,⟨rfl,rfl⟩,trivial⟩ ⟨⟨rfl,rfl⟩,trivial⟩⟩
 refine Vc.of 1 hT ?_
 conv=>whnf
 refine dF.mk {i:Nat // i≤n.f0.length∧lN p (n.f0.drop i) (jG n.f0 i) (n.f1.drop i)=R} (fun p_=>(1,[(39,i64 p_.1),(38,i64 n.f0.length),(37,im 9 n.f0),(2, .c (.px 0 0)),(1,im 9 p)],[(0,vS n)])) (fun p=>n.f0.length - p.1) ⟨0,Nat.zero_le _,hR⟩ (aA [(0,0)] rfl rfl rfl ⟨⟨rfl,rfl⟩,⟨rfl,rfl⟩,⟨rfl,rfl⟩,⟨rfl,rfl⟩,⟨rfl,rfl⟩,trivial⟩ ⟨⟨rfl,rfl⟩,trivial⟩) ?_
 rename_i hR0
 clear hR hR0
 rintro⟨i,hi,hR⟩
 conv=>whnf
 refine Split.mk (fun c=>?_) (fun c=>?_)
 ·have hk2:i<n.f0.length:=fQ c
  clear c
  have hk3:i<n.f1.length:=hl▸hk2
  have hx:=hn.z0 _ (getD_mem (d:=ByteArray.empty) hk2)
  have ihk:=ih h6 _ (getD_mem (d:=zN) hk3) _ hx
  rw [ZH hk2 hk3] at hR
  conv=>whnf
  refine Need.mk (idx hk2) ?_
  conv=>whnf
  refine Need.mk (idx hk3) ?_
  conv=>whnf
  refine Split.mk (fun c=>?_) (fun c=>?_)
  ·have h0:0<i:=lZ c
   clear c
   have hl0:=hn.l0
   rw [ZB h0 hk2] at hR
   have hpr:=Fv h0 (by omega)
   have hpt:(wrap64 ((i:Int) - 1)).toNat=i - 1:=by rw [hpr];rfl
   conv=>whnf
   refine Need.mk (by rw [hpr];exact idx (show i - 1<n.f0.length by omega)) ?_
   conv=>whnf
   refine Split.mk (fun c=>?_) (fun c=>?_)
   ·have c2:Op.bytesLess (n.f0.getD (i - 1) ByteArray.empty).toList (n.f0.getD i ByteArray.empty).toList=false:=(congrArg (fun j=>Op.bytesLess (n.f0.getD j ByteArray.empty).toList (n.f0.getD i ByteArray.empty).toList) hpt.symm).trans (bU c)
    clear c
    conv=>whnf
    refine Split.mk (fun _=>?_) (fun e=>jd e)
    conv=>whnf
    refine Split.mk (fun _=>?_) (fun e=>jd e)
    conv=>whnf
    exact aC.mk ⟨rfl,rfl⟩ ⟨rfl,rfl⟩ ⟨bv (fJ c2 hR),trivial⟩
   ·have c2:Op.bytesLess (n.f0.getD (i - 1) ByteArray.empty).toList (n.f0.getD i ByteArray.empty).toList=true:=(congrArg (fun j=>Op.bytesLess (n.f0.getD j ByteArray.empty).toList (n.f0.getD i ByteArray.empty).toList) hpt.symm).trans (dn c)
    clear c
    replace hR:=dW c2 hR
    conv=>whnf
    refine ak.mk _ (AU _ (Nat.le_trans hx (by decide))) ?_
    conv=>whnf
    refine Split.mk (fun c=>?_) (fun c=>?_)
    ·have c3:¬(ng (n.f0.getD i ByteArray.empty)).length≤1:=Nat.not_le.2 (Xt (b:=1) c)
     clear c
     conv=>whnf
     refine Split.mk (fun _=>?_) (fun e=>jd e)
     conv=>whnf
     exact aC.mk ⟨rfl,rfl⟩ ⟨rfl,rfl⟩ ⟨bv (fJ (decide_eq_false c3) hR),trivial⟩
    ·have c3:(ng (n.f0.getD i ByteArray.empty)).length≤1:=Xu (b:=1) c
     clear c
     replace hR:=dW (decide_eq_true c3) hR
     conv=>whnf
     refine ak.mk _ (G6 _ _ (Nat.le_trans hx (by decide))) ?_
     conv=>whnf
     refine Split.mk (fun c=>?_) (fun c=>?_)
     ·have c4:=bU c
      conv=>whnf
      exact aC.mk ⟨rfl,rfl⟩ ⟨rfl,rfl⟩ ⟨bv (fJ c4 hR),trivial⟩
     ·have c4:=dn c
      clear c
      replace hR:=dW c4 hR
      conv=>whnf
      refine Split.mk (fun c=>?_) (fun c=>?_)
      ·have c5:(n.f1.getD i zN).f1.length=0:=zC c
       clear c
       conv=>whnf
       refine Split.mk (fun c=>?_) (fun c=>?_)
       ·have c6:(n.f1.getD i zN).f2.length=0:=zC c
        clear c
        conv=>whnf
        refine aT.mk ⟨by kernel_rfl,by kernel_rfl⟩ ?_
        conv=>whnf
        refine Split.mk (fun _=>?_) (fun e=>jd e)
        conv=>whnf
        exact aC.mk ⟨rfl,rfl⟩ ⟨rfl,rfl⟩ ⟨bv (no3 c5 c6 hR),trivial⟩
       ·have c6:(n.f1.getD i zN).f2.length≠0:=zD c
        clear c
        replace hR:=no2 c5 c6 hR
        conv=>whnf
        refine Need.mk ⟨rQ,bJ (a:=0) (b:=p.length) (by omega) (by decide)⟩ ?_
        conv=>whnf
        refine Need.mk (bJ (a:=p.length) (b:=1) (by omega) (by decide)) ?_
        conv=>whnf
        refine ak.mk _ ihk ?_
        conv=>whnf
        refine aT.mk ⟨by kernel_rfl,by kernel_rfl⟩ ?_
        conv=>whnf
        refine Split.mk (fun c=>?_) (fun c=>?_)
        ·have c9:=bU c
         conv=>whnf
         exact aC.mk ⟨rfl,rfl⟩ ⟨rfl,rfl⟩ ⟨bv (fJ c9 hR),trivial⟩
        ·have c9:=dn c
         replace hR:=dW c9 hR
         conv=>whnf
         exact bF.mk ⟨⟨i+1,hk2,hR⟩,Nat.sub_lt_sub_left hk2 (Nat.lt_succ_self i),aA [(0,0)] rfl rfl rfl ⟨⟨rfl,congrArg i64 (dO hk2 (Nat.le_trans hn.l0 (by decide)))⟩,⟨rfl,rfl⟩,⟨rfl,rfl⟩,⟨rfl,rfl⟩,⟨rfl,rfl⟩,trivial⟩ ⟨⟨rfl,rfl⟩,trivial⟩⟩
      ·have c5:(n.f1.getD i zN).f1.length≠0:=zD c
       clear c
       replace hR:=no1 c5 hR
       conv=>whnf
       refine Split.mk (fun e=>jS e) (fun _=>?_)
       conv=>whnf
       refine Need.mk ⟨rQ,bJ (a:=0) (b:=p.length) (by omega) (by decide)⟩ ?_
       conv=>whnf
       refine Need.mk (bJ (a:=p.length) (b:=1) (by omega) (by decide)) ?_
       conv=>whnf
       refine ak.mk _ ihk ?_
       conv=>whnf
       refine aT.mk ⟨by kernel_rfl,by kernel_rfl⟩ ?_
       conv=>whnf
       refine Split.mk (fun c=>?_) (fun c=>?_)
       ·have c9:=bU c
        conv=>whnf
        exact aC.mk ⟨rfl,rfl⟩ ⟨rfl,rfl⟩ ⟨bv (fJ c9 hR),trivial⟩
       ·have c9:=dn c
        replace hR:=dW c9 hR
        conv=>whnf
        exact bF.mk ⟨⟨i+1,hk2,hR⟩,Nat.sub_lt_sub_left hk2 (Nat.lt_succ_self i),aA [(0,0)] rfl rfl rfl ⟨⟨rfl,congrArg i64 (dO hk2 (Nat.le_trans hn.l0 (by decide)))⟩,⟨rfl,rfl⟩,⟨rfl,rfl⟩,⟨rfl,rfl⟩,⟨rfl,rfl⟩,trivial⟩ ⟨⟨rfl,rfl⟩,trivial⟩⟩
  ·have h0:i=0:=l7 c
   clear c
   subst h0
   rw [KA,Bool.true_and] at hR
   conv=>whnf
   refine Split.mk (fun e=>jS e) (fun _=>?_)
   conv=>whnf
   refine ak.mk _ (AU _ (Nat.le_trans hx (by decide))) ?_
   conv=>whnf
   refine Split.mk (fun c=>?_) (fun c=>?_)
   ·have c3:¬(ng (n.f0.getD 0 ByteArray.empty)).length≤1:=Nat.not_le.2 (Xt (b:=1) c)
    clear c
    conv=>whnf
    refine Split.mk (fun _=>?_) (fun e=>jd e)
    conv=>whnf
    exact aC.mk ⟨rfl,rfl⟩ ⟨rfl,rfl⟩ ⟨bv (fJ (decide_eq_false c3) hR),trivial⟩
   ·have c3:(ng (n.f0.getD 0 ByteArray.empty)).length≤1:=Xu (b:=1) c
    clear c
    replace hR:=dW (decide_eq_true c3) hR
    conv=>whnf
    refine ak.mk _ (G6 _ _ (Nat.le_trans hx (by decide))) ?_
    conv=>whnf
    refine Split.mk (fun c=>?_) (fun c=>?_)
    ·have c4:=bU c
     conv=>whnf
     exact aC.mk ⟨rfl,rfl⟩ ⟨rfl,rfl⟩ ⟨bv (fJ c4 hR),trivial⟩
    ·have c4:=dn c
     clear c
     replace hR:=dW c4 hR
     conv=>whnf
     refine Split.mk (fun c=>?_) (fun c=>?_)
     ·have c5:(n.f1.getD 0 zN).f1.length=0:=zC c
      clear c
      conv=>whnf
      refine Split.mk (fun c=>?_) (fun c=>?_)
      ·have c6:(n.f1.getD 0 zN).f2.length=0:=zC c
       clear c
       conv=>whnf
       refine aT.mk ⟨by kernel_rfl,by kernel_rfl⟩ ?_
       conv=>whnf
       refine Split.mk (fun _=>?_) (fun e=>jd e)
       conv=>whnf
       exact aC.mk ⟨rfl,rfl⟩ ⟨rfl,rfl⟩ ⟨bv (no3 c5 c6 hR),trivial⟩
      ·have c6:(n.f1.getD 0 zN).f2.length≠0:=zD c
       clear c
       replace hR:=no2 c5 c6 hR
       conv=>whnf
       refine Need.mk ⟨rQ,bJ (a:=0) (b:=p.length) (by omega) (by decide)⟩ ?_
       conv=>whnf
       refine Need.mk (bJ (a:=p.length) (b:=1) (by omega) (by decide)) ?_
       conv=>whnf
       refine ak.mk _ ihk ?_
       conv=>whnf
       refine aT.mk ⟨by kernel_rfl,by kernel_rfl⟩ ?_
       conv=>whnf
       refine Split.mk (fun c=>?_) (fun c=>?_)
       ·have c9:=bU c
        conv=>whnf
        exact aC.mk ⟨rfl,rfl⟩ ⟨rfl,rfl⟩ ⟨bv (fJ c9 hR),trivial⟩
       ·have c9:=dn c
        replace hR:=dW c9 hR
        conv=>whnf
        exact bF.mk ⟨⟨0+1,hk2,hR⟩,Nat.sub_lt_sub_left hk2 (Nat.lt_succ_self 0),aA [(0,0)] rfl rfl rfl ⟨⟨rfl,congrArg i64 (dO hk2 (Nat.le_trans hn.l0 (by decide)))⟩,⟨rfl,rfl⟩,⟨rfl,rfl⟩,⟨rfl,rfl⟩,⟨rfl,rfl⟩,trivial⟩ ⟨⟨rfl,rfl⟩,trivial⟩⟩
     ·have c5:(n.f1.getD 0 zN).f1.length≠0:=zD c
      clear c
      replace hR:=no1 c5 hR
      conv=>whnf
      refine Split.mk (fun e=>jS e) (fun _=>?_)
      conv=>whnf
      refine Need.mk ⟨rQ,bJ (a:=0) (b:=p.length) (by omega) (by decide)⟩ ?_
      conv=>whnf
      refine Need.mk (bJ (a:=p.length) (b:=1) (by omega) (by decide)) ?_
      conv=>whnf
      refine ak.mk _ ihk ?_
      conv=>whnf
      refine aT.mk ⟨by kernel_rfl,by kernel_rfl⟩ ?_
      conv=>whnf
      refine Split.mk (fun c=>?_) (fun c=>?_)
      ·have c9:=bU c
       conv=>whnf
       exact aC.mk ⟨rfl,rfl⟩ ⟨rfl,rfl⟩ ⟨bv (fJ c9 hR),trivial⟩
      ·have c9:=dn c
       replace hR:=dW c9 hR
       conv=>whnf
       exact bF.mk ⟨⟨0+1,hk2,hR⟩,Nat.sub_lt_sub_left hk2 (Nat.lt_succ_self 0),aA [(0,0)] rfl rfl rfl ⟨⟨rfl,congrArg i64 (dO hk2 (Nat.le_trans hn.l0 (by decide)))⟩,⟨rfl,rfl⟩,⟨rfl,rfl⟩,⟨rfl,rfl⟩,⟨rfl,rfl⟩,trivial⟩ ⟨⟨rfl,rfl⟩,trivial⟩⟩
 ·have hk2:i=n.f0.length:=Nat.le_antisymm hi (fZ c)
  subst hk2
  conv=>whnf
  exact aC.mk ⟨rfl,rfl⟩ ⟨rfl,rfl⟩ ⟨bv (hR.symm.trans abm),trivial⟩
theorem ZJ:∀(n:SN),Bd n→∀p:List ByteArray,p.length≤7→(∀x∈p,x.size≤1048576)→aG T Tryz.prog 137 [.ag (T.cells eN n), .c (.sl 9 (p))] (.c (.sc (.bool (okI (p) n)))):=fun n hn p hp hz=>
 ZI n p hn hp hz (fun h k hk x hx=>ZJ k (hn.kid k hk) (p++[x]) (by rw [List.length_append];show p.length+1≤7;omega) (fun y hy=>(List.mem_append.1 hy).elim (hz y) (fun h=>by rw [List.mem_singleton.1 h];exact hx)))
termination_by n=>SizeOf.sizeOf n
decreasing_by exact kG hk
theorem Ap (n:SN) (hn:Bd n):aG T Tryz.prog 73 [.ag (T.cells eN n)] (.c (.sc (.bool (fH n)))):=by
 refine aH hT Tryz.func73 (by kernel_rfl) rfl rfl (fun A=>?_)
 conv=>whnf
 refine Split.mk (fun c=>?_) (fun c=>?_)
 ·have h0:n.f2.length=0:=zC c
  clear c
  conv=>whnf
  refine ak.mk _ (NC (ZJ n hn [] (by decide) (fun x hx=>by cases hx))) ?_
  conv=>whnf
  exact aC.mk ⟨rfl,rfl⟩ ⟨rfl,rfl⟩ ⟨bv (by unfold fH;rw [decide_eq_true h0];rfl),trivial⟩
 ·have h0:n.f2.length≠0:=zD c
  clear c
  conv=>whnf
  exact aC.mk ⟨rfl,rfl⟩ ⟨rfl,rfl⟩ ⟨bv (by unfold fH;rw [decide_eq_false h0];rfl),trivial⟩
end Go.Proofs.YtcnfgfomholheaaGreatDoor.Q
end
section
namespace Go.Proofs.YtcnfgfomholheaaGreatDoor.Q
open Go.RowKit Go.Proofs.YtcnfgfomholheaaGreatDoor.Z Go.Proofs.YtcnfgfomholheaaGreatDoor.Pure
set_option linter.unusedVariables false
set_option linter.unusedSimpArgs false
set_option maxRecDepth 100000
set_option maxHeartbeats 4000000
theorem P5 (l:List SS) (hl:l.length≤8388608):aG T Tryz.prog 170 [.c (.sl eS l)] (.c (.ow eS l)):=by
 refine aH hT Tryz.func170 (by kernel_rfl) rfl rfl (fun A=>?_)
 conv=>whnf
 refine Need.mk ⟨O8,bJ (a:=0) (b:=l.length) (by omega) (by decide)⟩ ?_
 conv=>whnf
 exact aC.mk ⟨rfl,rfl⟩ ⟨rfl,rfl⟩ ⟨rfl,trivial⟩
abbrev Uy:dK T:= .bx eN [.sc (.slice none 0 0), .sc (.slice none 0 0), .sc (.slice none 0 0)]
theorem getD_in {α:Type} (l:List α) (k:Nat) (d:α) (h:k<l.length):l.getD k d=l[k]:=by simp [h]
theorem take_snoc {l:List SN} {k:Nat} (h:k<l.length):l.take k++[(⟨(bP T eN l k).f0,(bP T eN l k).f1,(bP T eN l k).f2⟩:SN)]=l.take (k+1):=by
 rw [show(⟨(bP T eN l k).f0,(bP T eN l k).f1,(bP T eN l k).f2⟩:SN)=l[k] from(Ll _).trans (getD_in (α:=SN) l k (T.df eN) h),List.take_succ_eq_append_getElem h]
theorem Um (n:SN) (hn:Bd n) (ih:∀k∈n.f1,aG T Tryz.prog 99 [.ag (T.cells eN k)] (.ag [.ow 9 k.f0, .ow eN k.f1, .ow eS k.f2])):aG T Tryz.prog 99 [.ag (T.cells eN n)] (.ag [.ow 9 n.f0, .ow eN n.f1, .ow eS n.f2]):=by
 refine kK hT Tryz.func99 (by kernel_rfl) rfl rfl (fun A=>?_)
 refine Vc.seq 0 hT ?_
 conv=>whnf
 refine Vc.seq 2 hT ?_
 conv=>whnf
 refine Need.mk ⟨rQ,bJ (a:=0) (b:=n.f0.length) (by have:=hn.l0;omega) (by decide)⟩ ?_
 conv=>whnf
 refine ak.mk _ (P5 n.f2 (Nat.le_trans hn.l2 (by decide))) ?_
 conv=>whnf
 refine aT.mk ⟨by kernel_rfl,by kernel_rfl⟩ ?_
 conv=>whnf
 refine Vc.of 10 hT ?_
 conv=>whnf
 refine dF.mk {k:Nat // k≤n.f1.length} (fun p=>(7,[(17,i64 p.1),(16,i64 n.f1.length),(15,im eN n.f1),(3, .c (.px 5 0)),(2, .c (.px 1 0))],[(5, .bx eN [.hd 3, .hd 6, .hd 4]),(3, .row 3 9 n.f0),(6, .row 6 eN (n.f1.take p.1)),(4, .row 4 eS n.f2),(1,Uy)])) (fun p=>n.f1.length - p.1) ⟨0,Nat.zero_le _⟩ ((P9 5 1 20 eN (t:=eN) (cs:=[.hd 3, .sc (.slice none 0 0), .hd 4]) rfl rfl rfl).trans (aA [(5,5),(3,3),(6,20),(4,4),(1,1)] rfl rfl rfl ⟨⟨rfl,rfl⟩,⟨rfl,rfl⟩,⟨rfl,rfl⟩,⟨rfl,rfl⟩,⟨rfl,rfl⟩,trivial⟩ ⟨⟨rfl,rfl⟩,(show bT (T:=T) 9 n.f0 9 n.f0 from eu rfl),(show bT (T:=T) eN (n.f1.take 0) eN (n.f1.take 0) from eu rfl),(show bT (T:=T) eS n.f2 eS n.f2 from eu rfl),⟨rfl,rfl⟩,trivial⟩)) ?_
 rintro⟨k,hk⟩
 conv=>whnf
 refine Split.mk (fun c=>?_) (fun c=>?_)
 ·have hk2:k<n.f1.length:=fQ c
  clear c
  have hl1:=hn.l1
  conv=>whnf
  refine Need.mk (idx hk2) ?_
  conv=>whnf
  refine ak.mk _ (ih _ (getD_mem (d:=zN) hk2)) ?_
  conv=>whnf
  refine Need.mk (bJ (a:=(n.f1.take k).length) (b:=1) (by rw [List.length_take];omega) (by decide)) ?_
  conv=>whnf
  refine aT.mk ⟨by kernel_rfl,by kernel_rfl⟩ ?_
  conv=>whnf
  exact bF.mk ⟨⟨k+1,hk2⟩,Nat.sub_lt_sub_left hk2 (Nat.lt_succ_self k),aA [(5,5),(3,3),(6,12),(4,4),(1,1)] rfl rfl rfl ⟨⟨rfl,congrArg i64 (dO hk2 (by omega))⟩,⟨rfl,rfl⟩,⟨rfl,rfl⟩,⟨rfl,rfl⟩,⟨rfl,rfl⟩,trivial⟩ ⟨⟨rfl,rfl⟩,(show bT (T:=T) 9 n.f0 9 n.f0 from eu rfl),(show bT (T:=T) eN (n.f1.take k++[(⟨(bP T eN n.f1 k).f0,(bP T eN n.f1 k).f1,(bP T eN n.f1 k).f2⟩:SN)]) eN (n.f1.take (k+1)) from eu (take_snoc hk2)),(show bT (T:=T) eS n.f2 eS n.f2 from eu rfl),⟨rfl,rfl⟩,trivial⟩⟩
 ·have hk2:k=n.f1.length:=Nat.le_antisymm hk (fZ c)
  subst hk2
  conv=>whnf
  exact aC.mk ⟨rfl,rfl⟩ ⟨rfl,rfl⟩ ⟨rfl,eu (List.take_length),rfl,trivial⟩
theorem qF:∀(n:SN),Bd n→aG T Tryz.prog 99 [.ag (T.cells eN n)] (.ag [.ow 9 n.f0, .ow eN n.f1, .ow eS n.f2]):=fun n hn=>
 Um n hn (fun k hk=>qF k (by cases hn with | mk _ _ _ _ _ _ h=>exact h k hk))
termination_by n=>SizeOf.sizeOf n
decreasing_by exact kG hk
end Go.Proofs.YtcnfgfomholheaaGreatDoor.Q
end
section
namespace Go.Proofs.YtcnfgfomholheaaGreatDoor.Q
open Go.RowKit Go.Proofs.YtcnfgfomholheaaGreatDoor.Z
set_option linter.unusedVariables false
set_option linter.unusedSimpArgs false
set_option maxRecDepth 100000
set_option maxHeartbeats 4000000
def iF {α:Type} (F:α→Int→Int):List α→Int→Int
 | [],x=>x
 | a::l,x=>thenS (F a x) (iF F l)
theorem lU {α:Type} {F:α→Int→Int} {d:α} {l:List α} {k:Nat} {x:Int} (h:k<l.length):iF F (l.drop k) x=thenS (F (l.getD k d) x) (iF F (l.drop (k+1))):=by
 rw [List.drop_eq_getElem_cons h]
 have:l.getD k d=l[k]:=by simp [h]
 rw [this];rfl
theorem Ah {α:Type} {F:α→Int→Int} {l:List α} {x:Int}:iF F (l.drop l.length) x=x:=by rw [List.drop_length];rfl
theorem rU {α:Type} {F:α→Int→Int}:∀{l:List α} {x:Int},(∀a∈l,∀x,0≤x→F a x≤x)→0≤x→iF F l x≤x
 | [],x,_,_=>Int.le_refl _
 | a::l,x,hF,h=>by
   show thenS _ _≤x
   unfold thenS
   split
   ·omega
   ·have h2:=hF a List.mem_cons_self x h
    have:=rU (F:=F) (l:=l) (x:=F a x) (fun b hb=>hF b (List.mem_cons_of_mem _ hb)) (by omega)
    omega
theorem vW {r x:Int} {K:Int→Int} (h0:0≤x) (h1:r≤x) (h2:0≤r→K r≤r):thenS r K≤x:=by
 unfold thenS;split
 ·omega
 ·have:=h2 (by omega);omega
theorem MQ {n:Nat} {x:Int} (h0:0≤x) (h1:x≤1048576) (hn:n≤140737488351232) (c:decide (wrap64 (x - (n:Int))<0)=true):dM n x= -1:=YP h0 (by omega) hn c
theorem MR {n:Nat} {x:Int} (h0:0≤x) (h1:x≤1048576) (hn:n≤140737488351232) (c:decide (wrap64 (x - (n:Int))<0)=false):dM n x=wrap64 (x - (n:Int)):=(YQ h0 (by omega) hn c).1
theorem ada (l:List Int) (x:Int) (h0:0≤x) (h1:x≤1048576) (hl:l.length≤140737488351232):aG T Tryz.prog 215 [.c (.sl 5 l), .c (.sc (.int .i64 x))] (.c (.sc (.int .i64 (dM l.length x)))):=by
 refine aH hT Tryz.func215 (by kernel_rfl) rfl rfl (fun A=>?_)
 conv=>whnf
 refine Split.mk (fun c=>?_) (fun c=>?_)
 ·conv=>whnf
  exact aC.mk ⟨rfl,rfl⟩ ⟨rfl,rfl⟩ ⟨iv (MQ h0 h1 hl c),trivial⟩
 ·conv=>whnf
  exact aC.mk ⟨rfl,rfl⟩ ⟨rfl,rfl⟩ ⟨iv (MR h0 h1 hl c),trivial⟩
theorem afo (a:LS) (x:Int) (h0:0≤x) (h1:x≤1048576) (hl:a.f0.size≤140737488351232):aG T Tryz.prog 27 [.ag (T.cells Dw a), .c (.sc (.int .i64 x))] (.c (.sc (.int .i64 (dM a.f0.size x)))):=by
 refine aH hT Tryz.func27 (by kernel_rfl) rfl rfl (fun A=>?_)
 conv=>whnf
 refine Split.mk (fun c=>?_) (fun c=>?_)
 ·conv=>whnf
  exact aC.mk ⟨rfl,rfl⟩ ⟨rfl,rfl⟩ ⟨iv (MQ h0 h1 hl c),trivial⟩
 ·conv=>whnf
  exact aC.mk ⟨rfl,rfl⟩ ⟨rfl,rfl⟩ ⟨iv (MR h0 h1 hl c),trivial⟩
theorem aez (a:LW) (x:Int) (h0:0≤x) (h1:x≤1048576) (hl:a.f0.size≤140737488351232):aG T Tryz.prog 125 [.ag (T.cells pY a), .c (.sc (.int .i64 x))] (.c (.sc (.int .i64 (dM a.f0.size x)))):=by
 refine aH hT Tryz.func125 (by kernel_rfl) rfl rfl (fun A=>?_)
 conv=>whnf
 refine Split.mk (fun c=>?_) (fun c=>?_)
 ·conv=>whnf
  exact aC.mk ⟨rfl,rfl⟩ ⟨rfl,rfl⟩ ⟨iv (MQ h0 h1 hl c),trivial⟩
 ·conv=>whnf
  exact aC.mk ⟨rfl,rfl⟩ ⟨rfl,rfl⟩ ⟨iv (MR h0 h1 hl c),trivial⟩
theorem agj {n:Nat} {x:Int} (c:decide (dM n x<0)=true):dM n x= -1:=by
 have:=La c
 unfold dM at*
 split<;>simp_all
def qE (a:LK) (x:Int):Int:=thenS (dM a.f0.size x) (dM a.f1.length)
theorem aeA (a:LK) (x:Int) (h0:0≤x) (h1:x≤1048576) (hl:a.f0.size≤140737488351232) (hb:a.f1.length≤140737488351232):aG T Tryz.prog 186 [.ag (T.cells Dx a), .c (.sc (.int .i64 x))] (.c (.sc (.int .i64 (qE a x)))):=by
 refine aH hT Tryz.func186 (by kernel_rfl) rfl rfl (fun A=>?_)
 conv=>whnf
 refine Split.mk (fun c=>?_) (fun c=>?_)
 ·conv=>whnf
  exact aC.mk ⟨rfl,rfl⟩ ⟨rfl,rfl⟩ ⟨iv (BQ h0 (by omega) hl c),trivial⟩
 ·obtain⟨e1,e2,e3⟩:=BR (K:=dM a.f1.length) h0 (by omega) hl c
  conv=>whnf
  refine ak.mk _ (ada a.f1 _ e2 (Int.le_trans e3 h1) hb) ?_
  conv=>whnf
  refine Split.mk (fun c=>?_) (fun c=>?_)
  ·conv=>whnf
   exact aC.mk ⟨rfl,rfl⟩ ⟨rfl,rfl⟩ ⟨iv (e1.trans (agj c)),trivial⟩
  ·conv=>whnf
   exact aC.mk ⟨rfl,rfl⟩ ⟨rfl,rfl⟩ ⟨iv e1,trivial⟩
theorem ZK (l:List ByteArray) (x:Int) (h0:0≤x) (h1:x≤1048576) (hl:l.length≤140737488351232) (hs:∀y∈l,(y:ByteArray).size≤140737488351232):aG T Tryz.prog 43 [.c (.sl 9 l), .c (.sc (.int .i64 x))] (.c (.sc (.int .i64 (thenS (dM l.length x) (iF (fun y:ByteArray=>dM y.size) l))))):=by
 have h2:x≤4611686018427387904:=by omega
 refine aH hT Tryz.func43 (by kernel_rfl) rfl rfl (fun A=>?_)
 conv=>whnf
 refine Split.mk (fun c=>?_) (fun c=>?_)
 ·conv=>whnf
  exact aC.mk ⟨rfl,rfl⟩ ⟨rfl,rfl⟩ ⟨iv (BQ h0 h2 hl c),trivial⟩
 ·obtain⟨e1,e2,e3⟩:=BR (K:=iF (fun y:ByteArray=>dM y.size) l) h0 h2 hl c
  rw [e1]
  generalize hR:iF (fun y:ByteArray=>dM y.size) l (wrap64 (x - (l.length:Int)))=R
  conv=>whnf
  refine dF.mk {p:Nat × Int // p.1≤l.length∧0≤p.2∧p.2≤x∧iF (fun y:ByteArray=>dM y.size) (l.drop p.1) p.2=R} (fun p=>(0,[(5,i64 p.1.1),(1,i64 p.1.2),(0,im 9 l)],[])) (fun p=>l.length - p.1.1) ⟨(0,_),Nat.zero_le _,e2,e3,hR⟩ (aA [] rfl rfl rfl ⟨⟨rfl,rfl⟩,⟨rfl,rfl⟩,⟨rfl,rfl⟩,trivial⟩ trivial) ?_
  rintro⟨⟨k,y⟩,hk,p0,p1,hR⟩
  have p2:y≤4611686018427387904:=Int.le_trans p1 h2
  have p3:y≤1048576:=Int.le_trans p1 h1
  conv=>whnf
  refine Split.mk (fun c=>?_) (fun c=>?_)
  ·have hk2:k<l.length:=fQ c
   conv=>whnf
   refine Need.mk (idx hk2) ?_
   conv=>whnf
   refine Split.mk (fun c=>?_) (fun c=>?_)
   ·conv=>whnf
    exact aC.mk ⟨rfl,rfl⟩ ⟨rfl,rfl⟩ ⟨iv ((hR.symm.trans (lU (F:=fun y:ByteArray=>dM y.size) (d:=(T.df 9)) hk2)).trans (BQ p0 p2 (hs _ (getD_mem hk2)) c)),trivial⟩
   ·obtain⟨g1,g2,g3⟩:=BR (K:=iF (fun y:ByteArray=>dM y.size) (l.drop (k+1))) p0 p2 (hs _ (getD_mem hk2)) c
    conv=>whnf
    exact bF.mk ⟨⟨(k+1,_),hk2,g2,Int.le_trans g3 p1,(g1.symm.trans (lU (F:=fun y:ByteArray=>dM y.size) (d:=(T.df 9)) hk2).symm).trans hR⟩,Nat.sub_lt_sub_left hk2 (Nat.lt_succ_self k),aA [] rfl rfl rfl ⟨⟨rfl,congrArg i64 (dO hk2 hl)⟩,⟨rfl,rfl⟩,⟨rfl,rfl⟩,trivial⟩ trivial⟩
  ·have hk2:k=l.length:=Nat.le_antisymm hk (fZ c)
   conv=>whnf
   subst hk2
   exact aC.mk ⟨rfl,rfl⟩ ⟨rfl,rfl⟩ ⟨iv (hR.symm.trans Ah),trivial⟩
theorem aeB (l:List LS) (x:Int) (h0:0≤x) (h1:x≤1048576) (hl:l.length≤140737488351232) (hs:∀y∈l,(y:LS).f0.size≤140737488351232):aG T Tryz.prog 94 [.c (.sl Dw l), .c (.sc (.int .i64 x))] (.c (.sc (.int .i64 (thenS (dM l.length x) (iF (fun y:LS=>dM y.f0.size) l))))):=by
 have h2:x≤4611686018427387904:=by omega
 refine aH hT Tryz.func94 (by kernel_rfl) rfl rfl (fun A=>?_)
 conv=>whnf
 refine Split.mk (fun c=>?_) (fun c=>?_)
 ·conv=>whnf
  exact aC.mk ⟨rfl,rfl⟩ ⟨rfl,rfl⟩ ⟨iv (BQ h0 h2 hl c),trivial⟩
 ·obtain⟨e1,e2,e3⟩:=BR (K:=iF (fun y:LS=>dM y.f0.size) l) h0 h2 hl c
  rw [e1]
  generalize hR:iF (fun y:LS=>dM y.f0.size) l (wrap64 (x - (l.length:Int)))=R
  conv=>whnf
  refine dF.mk {p:Nat × Int // p.1≤l.length∧0≤p.2∧p.2≤x∧iF (fun y:LS=>dM y.f0.size) (l.drop p.1) p.2=R} (fun p=>(0,[(5,i64 p.1.1),(1,i64 p.1.2),(0,im Dw l)],[])) (fun p=>l.length - p.1.1) ⟨(0,_),Nat.zero_le _,e2,e3,hR⟩ (aA [] rfl rfl rfl ⟨⟨rfl,rfl⟩,⟨rfl,rfl⟩,⟨rfl,rfl⟩,trivial⟩ trivial) ?_
  rintro⟨⟨k,y⟩,hk,p0,p1,hR⟩
  have p2:y≤4611686018427387904:=Int.le_trans p1 h2
  have p3:y≤1048576:=Int.le_trans p1 h1
  conv=>whnf
  refine Split.mk (fun c=>?_) (fun c=>?_)
  ·have hk2:k<l.length:=fQ c
   conv=>whnf
   refine Need.mk (idx hk2) ?_
   conv=>whnf
   refine ak.mk _ (afo (l.getD k (T.df Dw)) y p0 p3 (hs _ (getD_mem hk2))) ?_
   conv=>whnf
   refine Split.mk (fun c=>?_) (fun c=>?_)
   ·conv=>whnf
    exact aC.mk ⟨rfl,rfl⟩ ⟨rfl,rfl⟩ ⟨iv ((hR.symm.trans (lU (F:=fun y:LS=>dM y.f0.size) (d:=(T.df Dw)) hk2)).trans (Au c)),trivial⟩
   ·obtain⟨g1,g2⟩:=Aw (K:=iF (fun y:LS=>dM y.f0.size) (l.drop (k+1))) c
    conv=>whnf
    exact bF.mk ⟨⟨(k+1,(fun y:LS=>dM y.f0.size) (l.getD k (T.df Dw)) y),hk2,g2,Int.le_trans (jo p0) p1,(g1.symm.trans (lU (F:=fun y:LS=>dM y.f0.size) (d:=(T.df Dw)) hk2).symm).trans hR⟩,Nat.sub_lt_sub_left hk2 (Nat.lt_succ_self k),aA [] rfl rfl rfl ⟨⟨rfl,congrArg i64 (dO hk2 hl)⟩,⟨rfl,rfl⟩,⟨rfl,rfl⟩,trivial⟩ trivial⟩
  ·have hk2:k=l.length:=Nat.le_antisymm hk (fZ c)
   conv=>whnf
   subst hk2
   exact aC.mk ⟨rfl,rfl⟩ ⟨rfl,rfl⟩ ⟨iv (hR.symm.trans Ah),trivial⟩
theorem acF (l:List LW) (x:Int) (h0:0≤x) (h1:x≤1048576) (hl:l.length≤140737488351232) (hs:∀y∈l,(y:LW).f0.size≤140737488351232):aG T Tryz.prog 54 [.c (.sl pY l), .c (.sc (.int .i64 x))] (.c (.sc (.int .i64 (thenS (dM l.length x) (iF (fun y:LW=>dM y.f0.size) l))))):=by
 have h2:x≤4611686018427387904:=by omega
 refine aH hT Tryz.func54 (by kernel_rfl) rfl rfl (fun A=>?_)
 conv=>whnf
 refine Split.mk (fun c=>?_) (fun c=>?_)
 ·conv=>whnf
  exact aC.mk ⟨rfl,rfl⟩ ⟨rfl,rfl⟩ ⟨iv (BQ h0 h2 hl c),trivial⟩
 ·obtain⟨e1,e2,e3⟩:=BR (K:=iF (fun y:LW=>dM y.f0.size) l) h0 h2 hl c
  rw [e1]
  generalize hR:iF (fun y:LW=>dM y.f0.size) l (wrap64 (x - (l.length:Int)))=R
  conv=>whnf
  refine dF.mk {p:Nat × Int // p.1≤l.length∧0≤p.2∧p.2≤x∧iF (fun y:LW=>dM y.f0.size) (l.drop p.1) p.2=R} (fun p=>(0,[(5,i64 p.1.1),(1,i64 p.1.2),(0,im pY l)],[])) (fun p=>l.length - p.1.1) ⟨(0,_),Nat.zero_le _,e2,e3,hR⟩ (aA [] rfl rfl rfl ⟨⟨rfl,rfl⟩,⟨rfl,rfl⟩,⟨rfl,rfl⟩,trivial⟩ trivial) ?_
  rintro⟨⟨k,y⟩,hk,p0,p1,hR⟩
  have p2:y≤4611686018427387904:=Int.le_trans p1 h2
  have p3:y≤1048576:=Int.le_trans p1 h1
  conv=>whnf
  refine Split.mk (fun c=>?_) (fun c=>?_)
  ·have hk2:k<l.length:=fQ c
   conv=>whnf
   refine Need.mk (idx hk2) ?_
   conv=>whnf
   refine ak.mk _ (aez (l.getD k (T.df pY)) y p0 p3 (hs _ (getD_mem hk2))) ?_
   conv=>whnf
   refine Split.mk (fun c=>?_) (fun c=>?_)
   ·conv=>whnf
    exact aC.mk ⟨rfl,rfl⟩ ⟨rfl,rfl⟩ ⟨iv ((hR.symm.trans (lU (F:=fun y:LW=>dM y.f0.size) (d:=(T.df pY)) hk2)).trans (Au c)),trivial⟩
   ·obtain⟨g1,g2⟩:=Aw (K:=iF (fun y:LW=>dM y.f0.size) (l.drop (k+1))) c
    conv=>whnf
    exact bF.mk ⟨⟨(k+1,(fun y:LW=>dM y.f0.size) (l.getD k (T.df pY)) y),hk2,g2,Int.le_trans (jo p0) p1,(g1.symm.trans (lU (F:=fun y:LW=>dM y.f0.size) (d:=(T.df pY)) hk2).symm).trans hR⟩,Nat.sub_lt_sub_left hk2 (Nat.lt_succ_self k),aA [] rfl rfl rfl ⟨⟨rfl,congrArg i64 (dO hk2 hl)⟩,⟨rfl,rfl⟩,⟨rfl,rfl⟩,trivial⟩ trivial⟩
  ·have hk2:k=l.length:=Nat.le_antisymm hk (fZ c)
   conv=>whnf
   subst hk2
   exact aC.mk ⟨rfl,rfl⟩ ⟨rfl,rfl⟩ ⟨iv (hR.symm.trans Ah),trivial⟩
theorem Lc {a:LK} {x:Int} (h:0≤x):qE a x≤x:=vW h (jo h) (fun h=>jo h)
theorem acj (l:List LK) (x:Int) (h0:0≤x) (h1:x≤1048576) (hl:l.length≤140737488351232) (hs:∀y∈l,(y:LK).f0.size≤140737488351232∧(y:LK).f1.length≤140737488351232):aG T Tryz.prog 119 [.c (.sl Dx l), .c (.sc (.int .i64 x))] (.c (.sc (.int .i64 (thenS (dM l.length x) (iF (qE) l))))):=by
 have h2:x≤4611686018427387904:=by omega
 refine aH hT Tryz.func119 (by kernel_rfl) rfl rfl (fun A=>?_)
 conv=>whnf
 refine Split.mk (fun c=>?_) (fun c=>?_)
 ·conv=>whnf
  exact aC.mk ⟨rfl,rfl⟩ ⟨rfl,rfl⟩ ⟨iv (BQ h0 h2 hl c),trivial⟩
 ·obtain⟨e1,e2,e3⟩:=BR (K:=iF (qE) l) h0 h2 hl c
  rw [e1]
  generalize hR:iF (qE) l (wrap64 (x - (l.length:Int)))=R
  conv=>whnf
  refine dF.mk {p:Nat × Int // p.1≤l.length∧0≤p.2∧p.2≤x∧iF (qE) (l.drop p.1) p.2=R} (fun p=>(0,[(5,i64 p.1.1),(1,i64 p.1.2),(0,im Dx l)],[])) (fun p=>l.length - p.1.1) ⟨(0,_),Nat.zero_le _,e2,e3,hR⟩ (aA [] rfl rfl rfl ⟨⟨rfl,rfl⟩,⟨rfl,rfl⟩,⟨rfl,rfl⟩,trivial⟩ trivial) ?_
  rintro⟨⟨k,y⟩,hk,p0,p1,hR⟩
  have p2:y≤4611686018427387904:=Int.le_trans p1 h2
  have p3:y≤1048576:=Int.le_trans p1 h1
  conv=>whnf
  refine Split.mk (fun c=>?_) (fun c=>?_)
  ·have hk2:k<l.length:=fQ c
   conv=>whnf
   refine Need.mk (idx hk2) ?_
   conv=>whnf
   refine ak.mk _ (aeA (l.getD k (T.df Dx)) y p0 p3 (hs _ (getD_mem hk2)).1 (hs _ (getD_mem hk2)).2) ?_
   conv=>whnf
   refine Split.mk (fun c=>?_) (fun c=>?_)
   ·conv=>whnf
    exact aC.mk ⟨rfl,rfl⟩ ⟨rfl,rfl⟩ ⟨iv ((hR.symm.trans (lU (F:=qE) (d:=(T.df Dx)) hk2)).trans (Au c)),trivial⟩
   ·obtain⟨g1,g2⟩:=Aw (K:=iF (qE) (l.drop (k+1))) c
    conv=>whnf
    exact bF.mk ⟨⟨(k+1,(qE) (l.getD k (T.df Dx)) y),hk2,g2,Int.le_trans (Lc p0) p1,(g1.symm.trans (lU (F:=qE) (d:=(T.df Dx)) hk2).symm).trans hR⟩,Nat.sub_lt_sub_left hk2 (Nat.lt_succ_self k),aA [] rfl rfl rfl ⟨⟨rfl,congrArg i64 (dO hk2 hl)⟩,⟨rfl,rfl⟩,⟨rfl,rfl⟩,trivial⟩ trivial⟩
  ·have hk2:k=l.length:=Nat.le_antisymm hk (fZ c)
   conv=>whnf
   subst hk2
   exact aC.mk ⟨rfl,rfl⟩ ⟨rfl,rfl⟩ ⟨iv (hR.symm.trans Ah),trivial⟩
theorem Xv (l:List LN) (x:Int) (h0:0≤x) (h1:x≤1048576) (hl:l.length≤140737488351232) (F:LN→Int→Int) (ih:∀a∈l,∀x,0≤x→x≤1048576→aG T Tryz.prog 18 [.ag (T.cells sU a), .c (.sc (.int .i64 x))] (.c (.sc (.int .i64 (F a x))))∧F a x≤x):aG T Tryz.prog 93 [.c (.sl sU l), .c (.sc (.int .i64 x))] (.c (.sc (.int .i64 (thenS (dM l.length x) (iF (F) l))))):=by
 have h2:x≤4611686018427387904:=by omega
 refine aH hT Tryz.func93 (by kernel_rfl) rfl rfl (fun A=>?_)
 conv=>whnf
 refine Split.mk (fun c=>?_) (fun c=>?_)
 ·conv=>whnf
  exact aC.mk ⟨rfl,rfl⟩ ⟨rfl,rfl⟩ ⟨iv (BQ h0 h2 hl c),trivial⟩
 ·obtain⟨e1,e2,e3⟩:=BR (K:=iF (F) l) h0 h2 hl c
  rw [e1]
  generalize hR:iF (F) l (wrap64 (x - (l.length:Int)))=R
  conv=>whnf
  refine dF.mk {p:Nat × Int // p.1≤l.length∧0≤p.2∧p.2≤x∧iF (F) (l.drop p.1) p.2=R} (fun p=>(0,[(5,i64 p.1.1),(1,i64 p.1.2),(0,im sU l)],[])) (fun p=>l.length - p.1.1) ⟨(0,_),Nat.zero_le _,e2,e3,hR⟩ (aA [] rfl rfl rfl ⟨⟨rfl,rfl⟩,⟨rfl,rfl⟩,⟨rfl,rfl⟩,trivial⟩ trivial) ?_
  rintro⟨⟨k,y⟩,hk,p0,p1,hR⟩
  have p2:y≤4611686018427387904:=Int.le_trans p1 h2
  have p3:y≤1048576:=Int.le_trans p1 h1
  conv=>whnf
  refine Split.mk (fun c=>?_) (fun c=>?_)
  ·have hk2:k<l.length:=fQ c
   conv=>whnf
   refine Need.mk (idx hk2) ?_
   conv=>whnf
   refine ak.mk _ ((ih (l.getD k (T.df sU)) (getD_mem hk2) y p0 p3).1) ?_
   conv=>whnf
   refine Split.mk (fun c=>?_) (fun c=>?_)
   ·conv=>whnf
    exact aC.mk ⟨rfl,rfl⟩ ⟨rfl,rfl⟩ ⟨iv ((hR.symm.trans (lU (F:=F) (d:=(T.df sU)) hk2)).trans (Au c)),trivial⟩
   ·obtain⟨g1,g2⟩:=Aw (K:=iF (F) (l.drop (k+1))) c
    conv=>whnf
    exact bF.mk ⟨⟨(k+1,(F) (l.getD k (T.df sU)) y),hk2,g2,Int.le_trans ((ih (l.getD k (T.df sU)) (getD_mem hk2) y p0 p3).2) p1,(g1.symm.trans (lU (F:=F) (d:=(T.df sU)) hk2).symm).trans hR⟩,Nat.sub_lt_sub_left hk2 (Nat.lt_succ_self k),aA [] rfl rfl rfl ⟨⟨rfl,congrArg i64 (dO hk2 hl)⟩,⟨rfl,rfl⟩,⟨rfl,rfl⟩,trivial⟩ trivial⟩
  ·have hk2:k=l.length:=Nat.le_antisymm hk (fZ c)
   conv=>whnf
   subst hk2
   exact aC.mk ⟨rfl,rfl⟩ ⟨rfl,rfl⟩ ⟨iv (hR.symm.trans Ah),trivial⟩
theorem KZ {α:Type} {F:α→Int→Int} (hF:∀a x,0≤x→F a x<0→F a x= -1):∀{l:List α} {x:Int},0≤x→iF F l x<0→iF F l x= -1
 | [],x,h,h2=>by have:x<0:=h2;omega
 | a::l,x,h,h2=>by
   show thenS _ _= -1
   replace h2:thenS (F a x) (iF F l)<0:=h2
   by_cases hr:F a x<0
   ·unfold thenS;rw [if_pos hr]
   ·unfold thenS at*;rw [if_neg hr] at*;exact KZ hF (by omega) h2
theorem UK {n:Nat} {x:Int} (h:dM n x<0):dM n x= -1:=by unfold dM at*;split<;>simp_all
theorem agk {l:List LS} {x:Int} (c:decide (thenS (dM l.length x) (iF (fun y:LS=>dM y.f0.size) l)<0)=true):thenS (dM l.length x) (iF (fun y:LS=>dM y.f0.size) l)= -1:=by
 have h:=La c
 by_cases hr:dM l.length x<0
 ·unfold thenS;rw [if_pos hr]
 ·unfold thenS at*;rw [if_neg hr] at*;exact KZ (fun a x _ h=>UK h) (by omega) h
abbrev Gw (l:List ByteArray) (x:Int):Int:=thenS (dM l.length x) (iF (fun y:ByteArray=>dM y.size) l)
abbrev C9 (l:List LS) (x:Int):Int:=thenS (dM l.length x) (iF (fun y:LS=>dM y.f0.size) l)
theorem Qe {l:List ByteArray} {x:Int} (h:0≤x):Gw l x≤x:=vW h (jo h) (fun h=>rU (fun a _ x hx=>jo hx) h)
theorem aeC {l:List LS} {x:Int} (h:0≤x):C9 l x≤x:=vW h (jo h) (fun h=>rU (fun a _ x hx=>jo hx) h)
mutual
def nS:LN→Int→Int
 | ⟨a,b,c⟩,x=>thenS (Gw a x) fun x=>thenS (thenS (dM b.length x) (SL b)) fun x=>C9 c x
def SL:List LN→Int→Int
 | [],x=>x
 | a::l,x=>thenS (nS a x) (SL l)
end
theorem Vw:∀l:List LN,SL l=iF nS l
 | []=>by funext x;rw [SL];rfl
 | a::l=>by funext x;rw [SL,Vw l];rfl
theorem Qd (n:LN) (x:Int):nS n x=thenS (Gw n.f0 x) fun x=>thenS (thenS (dM n.f1.length x) (iF nS n.f1)) fun x=>C9 n.f2 x:=by cases n;rw [nS,Vw]
inductive y8:LN→Prop
 | mk (n:LN) (h0:n.f0.length≤140737488351232) (z0:∀y∈n.f0,(y:ByteArray).size≤140737488351232) (h1:n.f1.length≤140737488351232) (h2:n.f2.length≤140737488351232) (z2:∀y∈n.f2,(y:LS).f0.size≤140737488351232) (hk:∀k∈n.f1,y8 k):y8 n
theorem y8.kid {n:LN} (h:y8 n):∀k∈n.f1,y8 k:=by cases h;assumption
theorem wZ:∀(n:LN) {x:Int},0≤x→nS n x≤x:=fun n x h=>by
 rw [Qd]
 exact vW h (Qe h) (fun h=>vW h (vW h (jo h) (fun h=>rU (fun a ha x hx=>wZ a hx) h)) (fun h=>aeC h))
termination_by n=>SizeOf.sizeOf n
decreasing_by exact zH ha
theorem ZL (a:LN) (ha:y8 a) (x:Int) (h0:0≤x) (h1:x≤1048576) (ih:∀x,0≤x→x≤1048576→aG T Tryz.prog 93 [.c (.sl sU a.f1), .c (.sc (.int .i64 x))] (.c (.sc (.int .i64 (thenS (dM a.f1.length x) (iF nS a.f1)))))):aG T Tryz.prog 18 [.ag (T.cells sU a), .c (.sc (.int .i64 x))] (.c (.sc (.int .i64 (nS a x)))):=by
 obtain⟨_,l0,z0,l1,l2,z2,_⟩:=ha
 rw [Qd]
 refine aH hT Tryz.func18 (by kernel_rfl) rfl rfl (fun A=>?_)
 conv=>whnf
 refine ak.mk _ (ZK a.f0 x h0 h1 l0 z0) ?_
 conv=>whnf
 refine Split.mk (fun c=>?_) (fun c=>?_)
 ·conv=>whnf
  exact aC.mk ⟨rfl,rfl⟩ ⟨rfl,rfl⟩ ⟨iv (Au c),trivial⟩
 obtain⟨g1,g2⟩:=Aw (K:=fun x=>thenS (thenS (dM a.f1.length x) (iF nS a.f1)) fun x=>C9 a.f2 x) c
 have g3:Gw a.f0 x≤1048576:=Int.le_trans (Qe h0) h1
 rw [g1]
 clear c g1
 conv=>whnf
 refine ak.mk _ (ih _ g2 g3) ?_
 conv=>whnf
 refine Split.mk (fun c=>?_) (fun c=>?_)
 ·conv=>whnf
  exact aC.mk ⟨rfl,rfl⟩ ⟨rfl,rfl⟩ ⟨iv (Au c),trivial⟩
 obtain⟨g4,g5⟩:=Aw (K:=fun x=>C9 a.f2 x) c
 have g6:thenS (dM a.f1.length (Gw a.f0 x)) (iF nS a.f1)≤1048576:=Int.le_trans (vW g2 (jo g2) (fun h=>rU (fun a _ x hx=>wZ a hx) h)) g3
 rw [g4]
 clear c g4
 conv=>whnf
 refine ak.mk _ (aeB a.f2 _ g5 g6 l2 z2) ?_
 conv=>whnf
 refine Split.mk (fun c=>?_) (fun c=>?_)
 ·conv=>whnf
  exact aC.mk ⟨rfl,rfl⟩ ⟨rfl,rfl⟩ ⟨iv (agk c),trivial⟩
 ·conv=>whnf
  exact aC.mk ⟨rfl,rfl⟩ ⟨rfl,rfl⟩ ⟨rfl,trivial⟩
theorem X7:∀(a:LN),y8 a→∀(x:Int) (h0:0≤x) (h1:x≤1048576),aG T Tryz.prog 18 [.ag (T.cells sU a), .c (.sc (.int .i64 x))] (.c (.sc (.int .i64 (nS a x)))):=fun a ha x h0 h1=>
 ZL a ha x h0 h1 (fun y g0 g1=>Xv a.f1 y g0 g1 (by cases ha;assumption) nS (fun k hk z z0 z1=>⟨X7 k (ha.kid k hk) z z0 z1,wZ k z0⟩))
termination_by a=>SizeOf.sizeOf a
decreasing_by exact zH hk
end Go.Proofs.YtcnfgfomholheaaGreatDoor.Q
end
