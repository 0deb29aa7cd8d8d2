/- Several texts of this claim in one (a claim holds at most 60 files). -/
import Derived.Test.YtcnfgfomholheaaGreatDoorZT
import Derived.Test.YtcnfgfomholheaaGreatDoorZc
import Derived.Test.YtcnfgfomholheaaGreatDoorT5
import Derived.Test.YtcnfgfomholheaaGreatDoorT7
import Derived.Test.YtcnfgfomholheaaGreatDoorPx8
section
namespace Go.Proofs.YtcnfgfomholheaaGreatDoor.Q
open Go.RowKit Go.Proofs.YtcnfgfomholheaaGreatDoor.Z
set_option linter.unusedVariables false
set_option linter.unusedSimpArgs false
set_option maxRecDepth 100000
set_option maxHeartbeats 4000000
abbrev i64 (n:Int):Slot T:= .c (.sc (.int .i64 n))
abbrev im (e:Nat) (l:List (T.Tb e)):Slot T:= .c (.im none e l)
abbrev eN:Nat:=31
abbrev eS:Nat:=44
abbrev eK:Nat:=121
abbrev eE:Nat:=96
abbrev qN:Nat:=26
abbrev BG:Nat:=41
abbrev BH:Nat:=186
abbrev SN:=Bc
abbrev SS:=Fv
abbrev SK:=Au
abbrev SE:=I9
abbrev LN:=vJ
abbrev LS:=yK
abbrev LK:=tV
theorem Lu (a b:List ByteArray) (ha:a.length≤140737488351232):aC T Tryz.prog 47 [.c (.sl 9 a), .c (.sl 9 b)] (.c (.sc (.bool (same a b)))):=by
 refine aH hT Tryz.func47 (by kernel_rfl) rfl rfl (fun A=>?_)
 conv=>whnf
 refine Split.mk (fun c=>?_) (fun c=>?_)
 ·conv=>whnf
  exact aG.mk ⟨rfl,rfl⟩ ⟨rfl,rfl⟩ ⟨bv (iQ (fun e=>Gm c (congrArg List.length e))),trivial⟩
 ·have hl:a.length=b.length:=Gl c
  conv=>whnf
  refine dJ.mk {k:Nat // k≤a.length∧a.take k=b.take k} (fun p=>(0,[(5,i64 p.1),(0,im 9 a),(1,im 9 b)],[])) (fun p=>a.length - p.1) ⟨0,Nat.zero_le _,rfl⟩ (ay [] rfl rfl rfl ⟨⟨rfl,rfl⟩,⟨rfl,rfl⟩,⟨rfl,rfl⟩,trivial⟩ trivial) ?_
  rintro⟨k,hk,ht⟩
  conv=>whnf
  refine Split.mk (fun c=>?_) (fun c=>?_)
  ·have hk2:k<a.length:=gB c
   conv=>whnf
   refine Need.mk (idx hk2) ?_
   conv=>whnf
   refine Need.mk (idx (hl▸hk2)) ?_
   conv=>whnf
   refine aZ.mk ⟨by kernel_rfl,by kernel_rfl⟩ ?_
   conv=>whnf
   refine Split.mk (fun c=>?_) (fun c=>?_)
   ·conv=>whnf
    exact aG.mk ⟨rfl,rfl⟩ ⟨rfl,rfl⟩ ⟨bv (iQ (fun e=>J3 c (congrArg (fun l=>l.getD k (T.df 9)) e))),trivial⟩
   ·conv=>whnf
    exact bn.mk ⟨⟨k+1,hk2,sV (d:=(T.df 9)) hk2 (hl▸hk2) ht (Y0 c)⟩,Nat.sub_lt_sub_left hk2 (Nat.lt_succ_self k),ay [] rfl rfl rfl ⟨⟨rfl,congrArg i64 (dK hk2 ha)⟩,⟨rfl,rfl⟩,⟨rfl,rfl⟩,trivial⟩ trivial⟩
  ·have hk2:k=a.length:=Nat.le_antisymm hk (gG c)
   conv=>whnf
   subst hk2
   exact aG.mk ⟨rfl,rfl⟩ ⟨rfl,rfl⟩ ⟨bv (qx (wE hl ht)),trivial⟩
theorem abf (a b:List Int) (ha:a.length≤140737488351232):aC T Tryz.prog 52 [.c (.sl 5 a), .c (.sl 5 b)] (.c (.sc (.bool (same a b)))):=by
 refine aH hT Tryz.func52 (by kernel_rfl) rfl rfl (fun A=>?_)
 conv=>whnf
 refine Split.mk (fun c=>?_) (fun c=>?_)
 ·conv=>whnf
  exact aG.mk ⟨rfl,rfl⟩ ⟨rfl,rfl⟩ ⟨bv (iQ (fun e=>Gm c (congrArg List.length e))),trivial⟩
 ·have hl:a.length=b.length:=Gl c
  conv=>whnf
  refine dJ.mk {k:Nat // k≤a.length∧a.take k=b.take k} (fun p=>(0,[(5,i64 p.1),(0,im 5 a),(1,im 5 b)],[])) (fun p=>a.length - p.1) ⟨0,Nat.zero_le _,rfl⟩ (ay [] rfl rfl rfl ⟨⟨rfl,rfl⟩,⟨rfl,rfl⟩,⟨rfl,rfl⟩,trivial⟩ trivial) ?_
  rintro⟨k,hk,ht⟩
  conv=>whnf
  refine Split.mk (fun c=>?_) (fun c=>?_)
  ·have hk2:k<a.length:=gB c
   conv=>whnf
   refine Need.mk (idx hk2) ?_
   conv=>whnf
   refine Need.mk (idx (hl▸hk2)) ?_
   conv=>whnf
   refine aZ.mk ⟨by kernel_rfl,by kernel_rfl⟩ ?_
   conv=>whnf
   refine Split.mk (fun c=>?_) (fun c=>?_)
   ·conv=>whnf
    exact aG.mk ⟨rfl,rfl⟩ ⟨rfl,rfl⟩ ⟨bv (iQ (fun e=>vS c (congrArg (fun l=>l.getD k (T.df 5)) e))),trivial⟩
   ·conv=>whnf
    exact bn.mk ⟨⟨k+1,hk2,sV (d:=(T.df 5)) hk2 (hl▸hk2) ht (Ou c)⟩,Nat.sub_lt_sub_left hk2 (Nat.lt_succ_self k),ay [] rfl rfl rfl ⟨⟨rfl,congrArg i64 (dK hk2 ha)⟩,⟨rfl,rfl⟩,⟨rfl,rfl⟩,trivial⟩ trivial⟩
  ·have hk2:k=a.length:=Nat.le_antisymm hk (gG c)
   conv=>whnf
   subst hk2
   exact aG.mk ⟨rfl,rfl⟩ ⟨rfl,rfl⟩ ⟨bv (qx (wE hl ht)),trivial⟩
theorem Zl {a b:SS} (h0:a.f0=b.f0) (h1:a.f1=b.f1) (h2:a.f2=b.f2):a=b:=by cases a;cases b;simp_all
theorem adC (a b:SS):aC T Tryz.prog 117 [.ag (T.cells eS a), .ag (T.cells eS b)] (.c (.sc (.bool (same a b)))):=by
 refine aH hT Tryz.func117 (by kernel_rfl) rfl rfl (fun A=>?_)
 conv=>whnf
 refine Split.mk (fun c=>?_) (fun c=>?_)
 ·conv=>whnf
  exact aG.mk ⟨rfl,rfl⟩ ⟨rfl,rfl⟩ ⟨bv (iQ (fun e=>J3 c (congrArg (fun z:SS=>z.f0) e))),trivial⟩
 have c0:a.f0=b.f0:=Y0 c
 clear c
 conv=>whnf
 refine Split.mk (fun c=>?_) (fun c=>?_)
 ·conv=>whnf
  exact aG.mk ⟨rfl,rfl⟩ ⟨rfl,rfl⟩ ⟨bv (iQ (fun e=>vS c (congrArg (fun z:SS=>z.f1) e))),trivial⟩
 have c1:a.f1=b.f1:=Ou c
 clear c
 conv=>whnf
 refine Split.mk (fun c=>?_) (fun c=>?_)
 ·conv=>whnf
  exact aG.mk ⟨rfl,rfl⟩ ⟨rfl,rfl⟩ ⟨bv (iQ (fun e=>vS c (congrArg (fun z:SS=>z.f2) e))),trivial⟩
 have c2:a.f2=b.f2:=Ou c
 clear c
 conv=>whnf
 exact aG.mk ⟨rfl,rfl⟩ ⟨rfl,rfl⟩ ⟨bv (qx (Zl c0 c1 c2)),trivial⟩
theorem acF (a b:List SS) (ha:a.length≤140737488351232):aC T Tryz.prog 33 [.c (.sl eS a), .c (.sl eS b)] (.c (.sc (.bool (same a b)))):=by
 refine aH hT Tryz.func33 (by kernel_rfl) rfl rfl (fun A=>?_)
 conv=>whnf
 refine Split.mk (fun c=>?_) (fun c=>?_)
 ·conv=>whnf
  exact aG.mk ⟨rfl,rfl⟩ ⟨rfl,rfl⟩ ⟨bv (iQ (fun e=>Gm c (congrArg List.length e))),trivial⟩
 ·have hl:a.length=b.length:=Gl c
  conv=>whnf
  refine dJ.mk {k:Nat // k≤a.length∧a.take k=b.take k} (fun p=>(0,[(5,i64 p.1),(0,im eS a),(1,im eS b)],[])) (fun p=>a.length - p.1) ⟨0,Nat.zero_le _,rfl⟩ (ay [] rfl rfl rfl ⟨⟨rfl,rfl⟩,⟨rfl,rfl⟩,⟨rfl,rfl⟩,trivial⟩ trivial) ?_
  rintro⟨k,hk,ht⟩
  conv=>whnf
  refine Split.mk (fun c=>?_) (fun c=>?_)
  ·have hk2:k<a.length:=gB c
   conv=>whnf
   refine Need.mk (idx hk2) ?_
   conv=>whnf
   refine Need.mk (idx (hl▸hk2)) ?_
   conv=>whnf
   refine aA.mk _ (adC _ _) ?_
   conv=>whnf
   refine aZ.mk ⟨by kernel_rfl,by kernel_rfl⟩ ?_
   conv=>whnf
   refine Split.mk (fun c=>?_) (fun c=>?_)
   ·conv=>whnf
    exact aG.mk ⟨rfl,rfl⟩ ⟨rfl,rfl⟩ ⟨bv (iQ (fun e=>iR (dh c) (congrArg (fun l=>l.getD k (T.df eS)) e))),trivial⟩
   ·conv=>whnf
    exact bn.mk ⟨⟨k+1,hk2,sV (d:=(T.df eS)) hk2 (hl▸hk2) ht (of_same (dA c))⟩,Nat.sub_lt_sub_left hk2 (Nat.lt_succ_self k),ay [] rfl rfl rfl ⟨⟨rfl,congrArg i64 (dK hk2 ha)⟩,⟨rfl,rfl⟩,⟨rfl,rfl⟩,trivial⟩ trivial⟩
  ·have hk2:k=a.length:=Nat.le_antisymm hk (gG c)
   conv=>whnf
   subst hk2
   exact aG.mk ⟨rfl,rfl⟩ ⟨rfl,rfl⟩ ⟨bv (qx (wE hl ht)),trivial⟩
theorem Xz {a b:SK} (h0:a.f0=b.f0) (h1:a.f1=b.f1) (h2:a.f2=b.f2):a=b:=by cases a;cases b;simp_all
theorem acG (a b:SK) (ha:a.f1.length≤140737488351232):aC T Tryz.prog 132 [.ag (T.cells eK a), .ag (T.cells eK b)] (.c (.sc (.bool (same a b)))):=by
 refine aH hT Tryz.func132 (by kernel_rfl) rfl rfl (fun A=>?_)
 conv=>whnf
 refine Split.mk (fun c=>?_) (fun c=>?_)
 ·conv=>whnf
  exact aG.mk ⟨rfl,rfl⟩ ⟨rfl,rfl⟩ ⟨bv (iQ (fun e=>J3 c (congrArg (fun z:SK=>z.f0) e))),trivial⟩
 have c0:a.f0=b.f0:=Y0 c
 clear c
 conv=>whnf
 refine aA.mk _ (abf a.f1 b.f1 ha) ?_
 conv=>whnf
 refine Split.mk (fun c=>?_) (fun c=>?_)
 ·conv=>whnf
  exact aG.mk ⟨rfl,rfl⟩ ⟨rfl,rfl⟩ ⟨bv (iQ (fun e=>iR (dh c) (congrArg (fun z:SK=>z.f1) e))),trivial⟩
 have c1:a.f1=b.f1:=of_same (dA c)
 clear c
 conv=>whnf
 refine Split.mk (fun c=>?_) (fun c=>?_)
 ·conv=>whnf
  exact aG.mk ⟨rfl,rfl⟩ ⟨rfl,rfl⟩ ⟨bv (iQ (fun e=>vS c (congrArg (fun z:SK=>z.f2) e))),trivial⟩
 have c2:a.f2=b.f2:=Ou c
 clear c
 conv=>whnf
 exact aG.mk ⟨rfl,rfl⟩ ⟨rfl,rfl⟩ ⟨bv (qx (Xz c0 c1 c2)),trivial⟩
theorem aaC (a b:List SK) (ha:a.length≤140737488351232) (hb:∀y∈a,y.f1.length≤140737488351232):aC T Tryz.prog 66 [.c (.sl eK a), .c (.sl eK b)] (.c (.sc (.bool (same a b)))):=by
 refine aH hT Tryz.func66 (by kernel_rfl) rfl rfl (fun A=>?_)
 conv=>whnf
 refine Split.mk (fun c=>?_) (fun c=>?_)
 ·conv=>whnf
  exact aG.mk ⟨rfl,rfl⟩ ⟨rfl,rfl⟩ ⟨bv (iQ (fun e=>Gm c (congrArg List.length e))),trivial⟩
 ·have hl:a.length=b.length:=Gl c
  conv=>whnf
  refine dJ.mk {k:Nat // k≤a.length∧a.take k=b.take k} (fun p=>(0,[(5,i64 p.1),(0,im eK a),(1,im eK b)],[])) (fun p=>a.length - p.1) ⟨0,Nat.zero_le _,rfl⟩ (ay [] rfl rfl rfl ⟨⟨rfl,rfl⟩,⟨rfl,rfl⟩,⟨rfl,rfl⟩,trivial⟩ trivial) ?_
  rintro⟨k,hk,ht⟩
  conv=>whnf
  refine Split.mk (fun c=>?_) (fun c=>?_)
  ·have hk2:k<a.length:=gB c
   conv=>whnf
   refine Need.mk (idx hk2) ?_
   conv=>whnf
   refine Need.mk (idx (hl▸hk2)) ?_
   conv=>whnf
   refine aA.mk _ (acG _ _ (hb _ (getD_mem hk2))) ?_
   conv=>whnf
   refine aZ.mk ⟨by kernel_rfl,by kernel_rfl⟩ ?_
   conv=>whnf
   refine Split.mk (fun c=>?_) (fun c=>?_)
   ·conv=>whnf
    exact aG.mk ⟨rfl,rfl⟩ ⟨rfl,rfl⟩ ⟨bv (iQ (fun e=>iR (dh c) (congrArg (fun l=>l.getD k (T.df eK)) e))),trivial⟩
   ·conv=>whnf
    exact bn.mk ⟨⟨k+1,hk2,sV (d:=(T.df eK)) hk2 (hl▸hk2) ht (of_same (dA c))⟩,Nat.sub_lt_sub_left hk2 (Nat.lt_succ_self k),ay [] rfl rfl rfl ⟨⟨rfl,congrArg i64 (dK hk2 ha)⟩,⟨rfl,rfl⟩,⟨rfl,rfl⟩,trivial⟩ trivial⟩
  ·have hk2:k=a.length:=Nat.le_antisymm hk (gG c)
   conv=>whnf
   subst hk2
   exact aG.mk ⟨rfl,rfl⟩ ⟨rfl,rfl⟩ ⟨bv (qx (wE hl ht)),trivial⟩
inductive Bd:SN→Prop
 | mk (n:SN) (h0:n.f0.length≤2097152) (z0:∀x∈n.f0,x.size≤1048576) (h1:n.f1.length≤2097152) (h2:n.f2.length≤2097152) (z2:∀x∈n.f2,x.f0.size≤1048576) (hk:∀k∈n.f1,Bd k):Bd n
theorem Bd.l0 {n:SN} (h:Bd n):n.f0.length≤2097152:=by cases h;assumption
theorem Bd.z0 {n:SN} (h:Bd n):∀x∈n.f0,x.size≤1048576:=by cases h;assumption
theorem Bd.l1 {n:SN} (h:Bd n):n.f1.length≤2097152:=by cases h;assumption
theorem Bd.l2 {n:SN} (h:Bd n):n.f2.length≤2097152:=by cases h;assumption
theorem Bd.z2 {n:SN} (h:Bd n):∀x∈n.f2,x.f0.size≤1048576:=by cases h;assumption
theorem Bd.kid {n:SN} (h:Bd n):∀k∈n.f1,Bd k:=by cases h;assumption
theorem mF {n k:SN} (h:k∈n.f1):SizeOf.sizeOf k<SizeOf.sizeOf n:=by
 cases n with
 | mk a b c=>
   have h2:=List.sizeOf_lt_of_mem h
   simp only [Bc.mk.sizeOf_spec] at h2⊢
   omega
theorem yN {n k:LN} (h:k∈n.f1):SizeOf.sizeOf k<SizeOf.sizeOf n:=by
 cases n with
 | mk a b c=>
   have h2:=List.sizeOf_lt_of_mem h
   simp only [vJ.mk.sizeOf_spec] at h2⊢
   omega
theorem Vr (a b:List SN) (ha:a.length≤140737488351232) (ih:∀k∈a,∀b:SN,aC T Tryz.prog 22 [.ag (T.cells eN k), .ag (T.cells eN b)] (.c (.sc (.bool (same k b))))):aC T Tryz.prog 102 [.c (.sl eN a), .c (.sl eN b)] (.c (.sc (.bool (same a b)))):=by
 refine aH hT Tryz.func102 (by kernel_rfl) rfl rfl (fun A=>?_)
 conv=>whnf
 refine Split.mk (fun c=>?_) (fun c=>?_)
 ·conv=>whnf
  exact aG.mk ⟨rfl,rfl⟩ ⟨rfl,rfl⟩ ⟨bv (iQ (fun e=>Gm c (congrArg List.length e))),trivial⟩
 ·have hl:a.length=b.length:=Gl c
  conv=>whnf
  refine dJ.mk {k:Nat // k≤a.length∧a.take k=b.take k} (fun p=>(0,[(5,i64 p.1),(0,im eN a),(1,im eN b)],[])) (fun p=>a.length - p.1) ⟨0,Nat.zero_le _,rfl⟩ (ay [] rfl rfl rfl ⟨⟨rfl,rfl⟩,⟨rfl,rfl⟩,⟨rfl,rfl⟩,trivial⟩ trivial) ?_
  rintro⟨k,hk,ht⟩
  conv=>whnf
  refine Split.mk (fun c=>?_) (fun c=>?_)
  ·have hk2:k<a.length:=gB c
   conv=>whnf
   refine Need.mk (idx hk2) ?_
   conv=>whnf
   refine Need.mk (idx (hl▸hk2)) ?_
   conv=>whnf
   refine aA.mk _ (ih _ (getD_mem hk2) _) ?_
   conv=>whnf
   refine aZ.mk ⟨by kernel_rfl,by kernel_rfl⟩ ?_
   conv=>whnf
   refine Split.mk (fun c=>?_) (fun c=>?_)
   ·conv=>whnf
    exact aG.mk ⟨rfl,rfl⟩ ⟨rfl,rfl⟩ ⟨bv (iQ (fun e=>iR (dh c) (congrArg (fun l=>l.getD k (T.df eN)) e))),trivial⟩
   ·conv=>whnf
    exact bn.mk ⟨⟨k+1,hk2,sV (d:=(T.df eN)) hk2 (hl▸hk2) ht (of_same (dA c))⟩,Nat.sub_lt_sub_left hk2 (Nat.lt_succ_self k),ay [] rfl rfl rfl ⟨⟨rfl,congrArg i64 (dK hk2 ha)⟩,⟨rfl,rfl⟩,⟨rfl,rfl⟩,trivial⟩ trivial⟩
  ·have hk2:k=a.length:=Nat.le_antisymm hk (gG c)
   conv=>whnf
   subst hk2
   exact aG.mk ⟨rfl,rfl⟩ ⟨rfl,rfl⟩ ⟨bv (qx (wE hl ht)),trivial⟩
theorem Qc {a b:SN} (h0:a.f0=b.f0) (h1:a.f1=b.f1) (h2:a.f2=b.f2):a=b:=by cases a;cases b;simp_all
theorem XA (a b:SN) (ha:Bd a) (ih:∀b:List SN,aC T Tryz.prog 102 [.c (.sl eN a.f1), .c (.sl eN b)] (.c (.sc (.bool (same a.f1 b))))):aC T Tryz.prog 22 [.ag (T.cells eN a), .ag (T.cells eN b)] (.c (.sc (.bool (same a b)))):=by
 refine aH hT Tryz.func22 (by kernel_rfl) rfl rfl (fun A=>?_)
 conv=>whnf
 refine aA.mk _ (Lu a.f0 b.f0 (Nat.le_trans ha.l0 (by decide))) ?_
 conv=>whnf
 refine Split.mk (fun c=>?_) (fun c=>?_)
 ·conv=>whnf
  exact aG.mk ⟨rfl,rfl⟩ ⟨rfl,rfl⟩ ⟨bv (iQ (fun e=>iR (dh c) (congrArg (fun z:SN=>z.f0) e))),trivial⟩
 have c0:a.f0=b.f0:=of_same (dA c)
 clear c
 conv=>whnf
 refine aA.mk _ (ih b.f1) ?_
 conv=>whnf
 refine Split.mk (fun c=>?_) (fun c=>?_)
 ·conv=>whnf
  exact aG.mk ⟨rfl,rfl⟩ ⟨rfl,rfl⟩ ⟨bv (iQ (fun e=>iR (dh c) (congrArg (fun z:SN=>z.f1) e))),trivial⟩
 have c1:a.f1=b.f1:=of_same (dA c)
 clear c
 conv=>whnf
 refine aA.mk _ (acF a.f2 b.f2 (Nat.le_trans ha.l2 (by decide))) ?_
 conv=>whnf
 refine Split.mk (fun c=>?_) (fun c=>?_)
 ·conv=>whnf
  exact aG.mk ⟨rfl,rfl⟩ ⟨rfl,rfl⟩ ⟨bv (iQ (fun e=>iR (dh c) (congrArg (fun z:SN=>z.f2) e))),trivial⟩
 have c2:a.f2=b.f2:=of_same (dA c)
 clear c
 conv=>whnf
 exact aG.mk ⟨rfl,rfl⟩ ⟨rfl,rfl⟩ ⟨bv (qx (Qc c0 c1 c2)),trivial⟩
theorem Wu:∀(a:SN),Bd a→∀b:SN,aC T Tryz.prog 22 [.ag (T.cells eN a), .ag (T.cells eN b)] (.c (.sc (.bool (same a b)))):=fun a ha b=>
 XA a b ha (fun c=>Vr a.f1 c (Nat.le_trans ha.l1 (by decide)) (fun k hk=>Wu k (ha.kid k hk)))
termination_by a=>SizeOf.sizeOf a
decreasing_by exact mF hk
theorem abg (a:List Int) (ha:a.length≤1048576):aC T Tryz.prog 50 [.c (.sl 5 a)] (.c (.ow 5 a)):=by
 refine aH hT Tryz.func50 (by kernel_rfl) rfl rfl (fun A=>?_)
 conv=>whnf
 refine Need.mk (WZ (by decide) ha) ?_
 conv=>whnf
 refine dJ.mk {k:Nat // k≤a.length} (fun p=>(2,[(4,i64 p.1),(3, .c (.hd 0)),(0,im 5 a)],[(0, .row 1 5 (fill (fun x=>x) (0:Int) a p.1))])) (fun p=>a.length - p.1) ⟨0,Nat.zero_le _⟩ (ay [(0,0)] rfl rfl rfl ⟨⟨rfl,rfl⟩,⟨rfl,rfl⟩,⟨rfl,rfl⟩,trivial⟩ ⟨gu sW.symm,trivial⟩) ?_
 rintro⟨k,hk⟩
 conv=>whnf
 refine Split.mk (fun c=>?_) (fun c=>?_)
 ·have hk2:k<a.length:=gB c
  conv=>whnf
  refine Need.mk (idx hk2) ?_
  conv=>whnf
  refine Need.mk (idx (Nat.lt_of_lt_of_eq hk2 (wG hk).symm)) ?_
  conv=>whnf
  exact bn.mk ⟨⟨k+1,hk2⟩,Nat.sub_lt_sub_left hk2 (Nat.lt_succ_self k),ay [(0,0)] rfl rfl rfl ⟨⟨rfl,congrArg i64 (dK hk2 (Nat.le_trans ha (by decide)))⟩,⟨rfl,rfl⟩,⟨rfl,rfl⟩,trivial⟩ ⟨gu (wH hk2),trivial⟩⟩
 ·have hk2:k=a.length:=Nat.le_antisymm hk (gG c)
  conv=>whnf
  subst hk2
  exact aG.mk ⟨rfl,rfl⟩ ⟨rfl,rfl⟩ ⟨gu (wF.trans Z4),trivial⟩
theorem Ls (a:List ByteArray) (ha:a.length≤1048576):aC T Tryz.prog 45 [.c (.sl 9 a)] (.c (.ow 9 a)):=by
 refine aH hT Tryz.func45 (by kernel_rfl) rfl rfl (fun A=>?_)
 conv=>whnf
 refine Need.mk (WZ (by decide) ha) ?_
 conv=>whnf
 refine dJ.mk {k:Nat // k≤a.length} (fun p=>(2,[(4,i64 p.1),(3, .c (.hd 0)),(0,im 9 a)],[(0, .row 1 9 (fill (fun x=>x) (⟨#[]⟩:ByteArray) a p.1))])) (fun p=>a.length - p.1) ⟨0,Nat.zero_le _⟩ (ay [(0,0)] rfl rfl rfl ⟨⟨rfl,rfl⟩,⟨rfl,rfl⟩,⟨rfl,rfl⟩,trivial⟩ ⟨gu sW.symm,trivial⟩) ?_
 rintro⟨k,hk⟩
 conv=>whnf
 refine Split.mk (fun c=>?_) (fun c=>?_)
 ·have hk2:k<a.length:=gB c
  conv=>whnf
  refine Need.mk (idx hk2) ?_
  conv=>whnf
  refine Need.mk (idx (Nat.lt_of_lt_of_eq hk2 (wG hk).symm)) ?_
  conv=>whnf
  exact bn.mk ⟨⟨k+1,hk2⟩,Nat.sub_lt_sub_left hk2 (Nat.lt_succ_self k),ay [(0,0)] rfl rfl rfl ⟨⟨rfl,congrArg i64 (dK hk2 (Nat.le_trans ha (by decide)))⟩,⟨rfl,rfl⟩,⟨rfl,rfl⟩,trivial⟩ ⟨gu (wH hk2),trivial⟩⟩
 ·have hk2:k=a.length:=Nat.le_antisymm hk (gG c)
  conv=>whnf
  subst hk2
  exact aG.mk ⟨rfl,rfl⟩ ⟨rfl,rfl⟩ ⟨gu (wF.trans Z4),trivial⟩
def tS (x:LS):SS:=⟨x.f0,x.f1,x.f2⟩
def tK (x:LK):SK:=⟨x.f0,x.f1,x.f2⟩
theorem toSub (a:LS):aC T Tryz.prog 29 [.ag (T.cells BG a)] (.ag [.sc (.string a.f0), .sc (.int .i64 a.f1), .sc (.int .i64 a.f2)]):=by
 refine aH hT Tryz.func29 (by kernel_rfl) rfl rfl (fun A=>?_)
 conv=>whnf
 exact aG.mk ⟨rfl,rfl⟩ ⟨rfl,rfl⟩ ⟨rfl,rfl,rfl,trivial⟩
theorem acH (a:List LS) (ha:a.length≤1048576):aC T Tryz.prog 98 [.c (.sl BG a)] (.c (.ow eS (a.map tS))):=by
 refine aH hT Tryz.func98 (by kernel_rfl) rfl rfl (fun A=>?_)
 conv=>whnf
 refine Need.mk (WZ (by decide) ha) ?_
 conv=>whnf
 refine dJ.mk {k:Nat // k≤a.length} (fun p=>(2,[(4,i64 p.1),(3, .c (.hd 0)),(0,im BG a)],[(0, .row 1 eS (fill (tS) z44 a p.1))])) (fun p=>a.length - p.1) ⟨0,Nat.zero_le _⟩ (ay [(0,0)] rfl rfl rfl ⟨⟨rfl,rfl⟩,⟨rfl,rfl⟩,⟨rfl,rfl⟩,trivial⟩ ⟨gu sW.symm,trivial⟩) ?_
 rintro⟨k,hk⟩
 conv=>whnf
 refine Split.mk (fun c=>?_) (fun c=>?_)
 ·have hk2:k<a.length:=gB c
  conv=>whnf
  refine Need.mk (idx hk2) ?_
  conv=>whnf
  refine aA.mk _ (toSub _) ?_
  conv=>whnf
  refine Need.mk (idx (Nat.lt_of_lt_of_eq hk2 (wG hk).symm)) ?_
  conv=>whnf
  exact bn.mk ⟨⟨k+1,hk2⟩,Nat.sub_lt_sub_left hk2 (Nat.lt_succ_self k),ay [(0,0)] rfl rfl rfl ⟨⟨rfl,congrArg i64 (dK hk2 (Nat.le_trans ha (by decide)))⟩,⟨rfl,rfl⟩,⟨rfl,rfl⟩,trivial⟩ ⟨gu (wH hk2),trivial⟩⟩
 ·have hk2:k=a.length:=Nat.le_antisymm hk (gG c)
  conv=>whnf
  subst hk2
  exact aG.mk ⟨rfl,rfl⟩ ⟨rfl,rfl⟩ ⟨gu (wF),trivial⟩
theorem acI (a:LK) (ha:a.f1.length≤1048576):aC T Tryz.prog 188 [.ag (T.cells BH a)] (.ag [.sc (.string a.f0), .ow 5 a.f1, .sc (.int .i64 a.f2)]):=by
 refine aH hT Tryz.func188 (by kernel_rfl) rfl rfl (fun A=>?_)
 conv=>whnf
 refine aA.mk _ (abg a.f1 ha) ?_
 conv=>whnf
 exact aG.mk ⟨rfl,rfl⟩ ⟨rfl,rfl⟩ ⟨rfl,rfl,rfl,trivial⟩
theorem aaB (a:List LK) (ha:a.length≤1048576) (hb:∀y∈a,y.f1.length≤1048576):aC T Tryz.prog 121 [.c (.sl BH a)] (.c (.ow eK (a.map tK))):=by
 refine aH hT Tryz.func121 (by kernel_rfl) rfl rfl (fun A=>?_)
 conv=>whnf
 refine Need.mk (WZ (by decide) ha) ?_
 conv=>whnf
 refine dJ.mk {k:Nat // k≤a.length} (fun p=>(2,[(4,i64 p.1),(3, .c (.hd 0)),(0,im BH a)],[(0, .row 1 eK (fill (tK) Zm a p.1))])) (fun p=>a.length - p.1) ⟨0,Nat.zero_le _⟩ (ay [(0,0)] rfl rfl rfl ⟨⟨rfl,rfl⟩,⟨rfl,rfl⟩,⟨rfl,rfl⟩,trivial⟩ ⟨gu sW.symm,trivial⟩) ?_
 rintro⟨k,hk⟩
 conv=>whnf
 refine Split.mk (fun c=>?_) (fun c=>?_)
 ·have hk2:k<a.length:=gB c
  conv=>whnf
  refine Need.mk (idx hk2) ?_
  conv=>whnf
  refine aA.mk _ (acI _ (hb _ (getD_mem hk2))) ?_
  conv=>whnf
  refine Need.mk (idx (Nat.lt_of_lt_of_eq hk2 (wG hk).symm)) ?_
  conv=>whnf
  exact bn.mk ⟨⟨k+1,hk2⟩,Nat.sub_lt_sub_left hk2 (Nat.lt_succ_self k),ay [(0,0)] rfl rfl rfl ⟨⟨rfl,congrArg i64 (dK hk2 (Nat.le_trans ha (by decide)))⟩,⟨rfl,rfl⟩,⟨rfl,rfl⟩,trivial⟩ ⟨gu (wH hk2),trivial⟩⟩
 ·have hk2:k=a.length:=Nat.le_antisymm hk (gG c)
  conv=>whnf
  subst hk2
  exact aG.mk ⟨rfl,rfl⟩ ⟨rfl,rfl⟩ ⟨gu (wF),trivial⟩
mutual
def tN:LN→SN
 | ⟨a,b,c⟩=>⟨a,tNL b,c.map tS⟩
def tNL:List LN→List SN
 | []=>[]
 | x::r=>tN x::tNL r
end
theorem Tq:∀l:List LN,tNL l=l.map tN
 | []=>rfl
 | x::r=>by rw [tNL,Tq r,List.map_cons]
theorem Bz (n:SN):(⟨n.f0,n.f1,n.f2⟩:SN)=n:=by cases n;rfl
theorem Uf (n:LN):tN n=⟨n.f0,n.f1.map tN,n.f2.map tS⟩:=by cases n;rw [tN,Tq]
theorem Vs (a:List LN) (ha:a.length≤1048576) (ih:∀k∈a,aC T Tryz.prog 20 [.ag (T.cells qN k)] (.ag [.ow 9 (tN k).f0, .ow eN (tN k).f1, .ow eS (tN k).f2])):aC T Tryz.prog 97 [.c (.sl qN a)] (.c (.ow eN (a.map tN))):=by
 refine aH hT Tryz.func97 (by kernel_rfl) rfl rfl (fun A=>?_)
 conv=>whnf
 refine Need.mk (WZ (by decide) ha) ?_
 conv=>whnf
 refine dJ.mk {k:Nat // k≤a.length} (fun p=>(2,[(4,i64 p.1),(3, .c (.hd 0)),(0,im qN a)],[(0, .row 1 eN (fill (tN) z31 a p.1))])) (fun p=>a.length - p.1) ⟨0,Nat.zero_le _⟩ (ay [(0,0)] rfl rfl rfl ⟨⟨rfl,rfl⟩,⟨rfl,rfl⟩,⟨rfl,rfl⟩,trivial⟩ ⟨gu sW.symm,trivial⟩) ?_
 rintro⟨k,hk⟩
 conv=>whnf
 refine Split.mk (fun c=>?_) (fun c=>?_)
 ·have hk2:k<a.length:=gB c
  conv=>whnf
  refine Need.mk (idx hk2) ?_
  conv=>whnf
  refine aA.mk _ (ih _ (getD_mem hk2)) ?_
  conv=>whnf
  refine Need.mk (idx (Nat.lt_of_lt_of_eq hk2 (wG hk).symm)) ?_
  conv=>whnf
  exact bn.mk ⟨⟨k+1,hk2⟩,Nat.sub_lt_sub_left hk2 (Nat.lt_succ_self k),ay [(0,0)] rfl rfl rfl ⟨⟨rfl,congrArg i64 (dK hk2 (Nat.le_trans ha (by decide)))⟩,⟨rfl,rfl⟩,⟨rfl,rfl⟩,trivial⟩ ⟨gu ((congrArg (List.set _ _) (Bz _)).trans (wH hk2)),trivial⟩⟩
 ·have hk2:k=a.length:=Nat.le_antisymm hk (gG c)
  conv=>whnf
  subst hk2
  exact aG.mk ⟨rfl,rfl⟩ ⟨rfl,rfl⟩ ⟨gu (wF),trivial⟩
theorem XB (a:LN) (h0:a.f0.length≤1048576) (h2:a.f2.length≤1048576) (ih:aC T Tryz.prog 97 [.c (.sl qN a.f1)] (.c (.ow eN (a.f1.map tN)))):aC T Tryz.prog 20 [.ag (T.cells qN a)] (.ag [.ow 9 a.f0, .ow eN (a.f1.map tN), .ow eS (a.f2.map tS)]):=by
 refine aH hT Tryz.func20 (by kernel_rfl) rfl rfl (fun A=>?_)
 conv=>whnf
 refine aA.mk _ (Ls a.f0 h0) ?_
 conv=>whnf
 refine aA.mk _ (ih) ?_
 conv=>whnf
 refine aA.mk _ (acH a.f2 h2) ?_
 conv=>whnf
 exact aG.mk ⟨rfl,rfl⟩ ⟨rfl,rfl⟩ ⟨rfl,rfl,rfl,trivial⟩
inductive Ot:LN→Prop
 | mk (n:LN) (h0:n.f0.length≤1048576) (h1:n.f1.length≤1048576) (h2:n.f2.length≤1048576) (hk:∀k∈n.f1,Ot k):Ot n
theorem Wq:∀(a:LN),Ot a→aC T Tryz.prog 20 [.ag (T.cells qN a)] (.ag [.ow 9 (tN a).f0, .ow eN (tN a).f1, .ow eS (tN a).f2]):=fun a ha=>by
 rw [Uf]
 exact XB a (by cases ha;assumption) (by cases ha;assumption) (Vs a.f1 (by cases ha;assumption) (fun k hk=>Wq k (by cases ha with | mk _ _ _ _ h=>exact h k hk)))
termination_by a=>SizeOf.sizeOf a
decreasing_by exact yN hk
end Go.Proofs.YtcnfgfomholheaaGreatDoor.Q
end
section
namespace Go.Proofs.YtcnfgfomholheaaGreatDoor.Q
open Go.RowKit Go.Proofs.YtcnfgfomholheaaGreatDoor.Z
set_option linter.unusedVariables false
set_option linter.unusedSimpArgs false
set_option maxRecDepth 100000
set_option maxHeartbeats 4000000
def MG (k:Nat) (out:ByteArray):ByteArray:=if h:k=0 then out else MG (k / 10) (strOfNums [IntKind.u8.wrap (wrap64 (48+((k % 10:Nat):Int)))]++out)
termination_by k
decreasing_by omega
def markT (k:Nat):ByteArray:=(⟨#[109]⟩:ByteArray)++MG k (⟨#[]⟩:ByteArray)
theorem XC (n:Int):(strOfNums [n]).size=1:=rfl
theorem rW (a b:ByteArray):(a++b).size=a.size+b.size:=ByteArray.size_append
theorem adD (k:Nat):((k:Int).tmod 10)=((k % 10:Nat):Int):=by rw [Int.tmod_eq_emod_of_nonneg (by omega)];omega
theorem adE {k:Nat} (h:k≤4611686018427387904):IntKind.i64.wrap ((k:Int).tdiv 10)=((k / 10:Nat):Int):=by
 rw [Int.tdiv_eq_ediv_of_nonneg (by omega),wrap_i64]
 simp only [wrap64];omega
theorem aew (x:Int):strOfNums (List.map (numOf T 5) [x])=strOfNums [x]:=rfl
theorem acJ (n:Nat):strOfNums (List.map (numOf T 5) [IntKind.u8.wrap (wrap64 (48+(n:Int).tmod 10))])=strOfNums [IntKind.u8.wrap (wrap64 (48+((n % 10:Nat):Int)))]:=by rw [adD,aew]
theorem aex (out:ByteArray):MG 0 out=out:=by unfold MG;rfl
theorem tx {x y:ByteArray} (h:y=x):Value.string x=Value.string y:=by rw [h]
abbrev tx_ (s:ByteArray):Slot T:= .c (.sc (.string s))
theorem rJ (k:Nat) (h0:0<k) (h1:k≤4611686018427387904):aC T Tryz.prog 118 [.c (.sc (.int .i64 (k:Int)))] (.c (.sc (.string (markT k)))):=by
 refine aH hT Tryz.func118 (by kernel_rfl) rfl rfl (fun A=>?_)
 conv=>whnf
 refine Split.mk (fun c=>?_) (fun c=>?_)
 ·exact absurd c (by simp;omega)
 clear c
 conv=>whnf
 refine dJ.mk {p:Nat × ByteArray // p.1≤k∧p.2.size+p.1≤k∧MG p.1 p.2=MG k (⟨#[]⟩:ByteArray)} (fun p=>(0,[(0,i64 p.1.1),(3,tx_ p.1.2)],[])) (fun p=>p.1.1) ⟨(k,⟨#[]⟩),Nat.le_refl _,by show(0:Nat)+k≤k;omega,rfl⟩ (ay [] rfl rfl rfl ⟨⟨rfl,rfl⟩,⟨rfl,rfl⟩,trivial⟩ trivial) ?_
 rintro⟨⟨n,out⟩,g1,g2,g3⟩
 dsimp only at g1 g2 g3
 conv=>whnf
 refine Split.mk (fun c=>?_) (fun c=>?_)
 ·have hn:n≠0:=by simp at c;omega
  clear c
  conv=>whnf
  refine Need.mk (fun _=>rfl) ?_
  conv=>whnf
  refine Need.mk (show 1+ByteArray.size out≤9223372036854775807 by omega) ?_
  conv=>whnf
  refine bn.mk ⟨⟨(n / 10,strOfNums [IntKind.u8.wrap (wrap64 (48+((n % 10:Nat):Int)))]++out),by omega,by rw [rW,XC];omega,?_⟩,Nat.div_lt_self (by omega) (by decide),ay [] rfl rfl rfl ⟨⟨rfl,congrArg i64 (adE (by omega)).symm⟩,⟨rfl,?_⟩,trivial⟩ trivial⟩
  ·rw [←g3]
   conv=>rhs;unfold MG
   rw [dif_neg hn]
  ·exact congrArg (fun x:ByteArray=>tx_ (x++out)) (acJ n).symm
 ·have hn:n=0:=by simp at c;omega
  subst hn
  clear c
  have g4:out=MG k (⟨#[]⟩:ByteArray):=(aex out).symm.trans g3
  conv=>whnf
  refine Need.mk (show 1+ByteArray.size out≤9223372036854775807 by omega) ?_
  conv=>whnf
  exact aG.mk ⟨rfl,rfl⟩ ⟨rfl,rfl⟩ ⟨tx (congrArg (fun x:ByteArray=>(⟨#[109]⟩:ByteArray)++x) g4.symm),trivial⟩
def jL {β:Type} (s:Nat) (f:Nat→β) (k n:Nat):List β:=(List.range n).map (fun j=>f (k+s*j))
def uo {β:Type} (s:Nat) (f:Nat→β) (k:Nat) (a:List β) (i:Nat):List β:=jL s f k i++a.drop i
section
variable {β:Type} {s:Nat} {f:Nat→β} {k i n:Nat} {a:List β}
theorem oD:(jL s f k n).length=n:=by simp [jL]
theorem zf (h:i≤a.length):(uo s f k a i).length=a.length:=by simp [uo,oD];omega
theorem XD (hi:i≤a.length) (h:i<a.length):i<(uo s f k a i).length:=by rw [zf hi];exact h
theorem Qd:a=uo s f k a 0:=by simp [uo,jL]
theorem Tt:uo s f k a a.length=jL s f k a.length:=by simp [uo]
theorem Tv (h:i<a.length):(uo s f k a i).set i (f (k+s*i))=uo s f k a (i+1):=by
 unfold uo
 rw [List.set_append_right _ _ (by simp [oD]),oD,Nat.sub_self,List.drop_eq_getElem_cons h,List.set_cons_zero]
 simp [jL,List.range_succ]
theorem Tz {d:β} (h:i<n):(jL s f k n).getD i d=f (k+s*i):=by simp [jL,h]
end
theorem Bf {k n:Nat} (h:k+n≤4611686018427387904) (hn:0<n):((k+1:Nat):Int)=wrap64 ((k:Int)+1):=by simp only [wrap64];omega
theorem Fz {m n:Nat} (h:decide ((m:Int)<(n:Int))=true) {l:Nat} (hl:n=l):m<l:=hl▸gB h
theorem yG {m n:Nat} (h:decide ((m:Int)<(n:Int))=false) {l:Nat} (hl:n=l):l≤m:=hl▸gG h
def fB (n:Nat):Int:=IntKind.u8.wrap (n:Int)
def fS (n:Nat):ByteArray:=markT n
abbrev hd0:Slot T:= .c (.hd 1000)
theorem gs_ {e:Nat} {l:List (T.Tb e)} {i:Nat} {x:T.Tb e} (h:i<l.length):bH T e (l.set i x) i=x:=by simp [bH,h]
theorem XE (a:List Int) (k:Nat) (hl:a.length≤140737488351232) (h0:0<k) (hk:k+1*a.length≤4611686018427387904):CallWOb T Tryz.prog 53 [.c (.ow 5 a 5 (jL 1 fB k a.length)), .c (.c (.sc (.int .i64 (k:Int))))] (.c (.sc (.int .i64 ((k+1*a.length:Nat):Int)))):=by
 refine rV hT Tryz.func53 (by kernel_rfl) rfl rfl (fun A=>?_)
 conv=>whnf
 refine dJ.mk {i:Nat // i≤a.length} (fun p=>(1,[(5,i64 p.1),(1,i64 (k+1*p.1:Nat)),(0,hd0)],[(1000, .row 0 5 (uo 1 fB k a p.1))])) (fun p=>a.length - p.1) ⟨0,Nat.zero_le _⟩ (ay [] rfl rfl rfl ⟨⟨rfl,rfl⟩,⟨rfl,rfl⟩,⟨rfl,rfl⟩,trivial⟩ ⟨show bY (T:=T) 5 a 5 (uo 1 fB k a 0) from gu Qd,trivial⟩) ?_
 rintro⟨i,hi⟩
 conv=>whnf
 refine Split.mk (fun c=>?_) (fun c=>?_)
 ·have hk2:i<a.length:=Fz c (zf hi)
  clear c
  have hb:k+1*i+1≤4611686018427387904:=by omega
  conv=>whnf
  refine Need.mk (idx (XD hi hk2)) ?_
  conv=>whnf
  exact bn.mk ⟨⟨i+1,hk2⟩,Nat.sub_lt_sub_left hk2 (Nat.lt_succ_self i),ay [] rfl rfl rfl ⟨⟨rfl,congrArg i64 (dK hk2 hl)⟩,⟨rfl,congrArg i64 (Bf (k:=k+1*i) (n:=1) (by omega) (by decide))⟩,⟨rfl,rfl⟩,trivial⟩ ⟨gu (Tv (s:=1) (f:=fB) hk2),trivial⟩⟩
 ·have hk2:i=a.length:=Nat.le_antisymm hi (yG c (zf hi))
  clear c
  conv=>whnf
  subst hk2
  exact xA.mk ⟨rfl,rfl⟩ ⟨⟨rfl,rfl⟩,rfl⟩ ⟨rfl,trivial⟩ ⟨show bY (T:=T) 5 (uo 1 fB k a a.length) 5 (jL 1 fB k a.length) from gu Tt,trivial⟩
theorem yc (a:List ByteArray) (k:Nat) (hl:a.length≤140737488351232) (h0:0<k) (hk:k+1*a.length≤4611686018427387904):CallWOb T Tryz.prog 48 [.c (.ow 9 a 9 (jL 1 fS k a.length)), .c (.c (.sc (.int .i64 (k:Int))))] (.c (.sc (.int .i64 ((k+1*a.length:Nat):Int)))):=by
 refine rV hT Tryz.func48 (by kernel_rfl) rfl rfl (fun A=>?_)
 conv=>whnf
 refine dJ.mk {i:Nat // i≤a.length} (fun p=>(1,[(5,i64 p.1),(1,i64 (k+1*p.1:Nat)),(0,hd0)],[(1000, .row 0 9 (uo 1 fS k a p.1))])) (fun p=>a.length - p.1) ⟨0,Nat.zero_le _⟩ (ay [] rfl rfl rfl ⟨⟨rfl,rfl⟩,⟨rfl,rfl⟩,⟨rfl,rfl⟩,trivial⟩ ⟨show bY (T:=T) 9 a 9 (uo 1 fS k a 0) from gu Qd,trivial⟩) ?_
 rintro⟨i,hi⟩
 conv=>whnf
 refine Split.mk (fun c=>?_) (fun c=>?_)
 ·have hk2:i<a.length:=Fz c (zf hi)
  clear c
  have hb:k+1*i+1≤4611686018427387904:=by omega
  conv=>whnf
  refine aA.mk _ (rJ (k+1*i) (by omega) (by omega)) ?_
  conv=>whnf
  refine Need.mk (idx (XD hi hk2)) ?_
  conv=>whnf
  exact bn.mk ⟨⟨i+1,hk2⟩,Nat.sub_lt_sub_left hk2 (Nat.lt_succ_self i),ay [] rfl rfl rfl ⟨⟨rfl,congrArg i64 (dK hk2 hl)⟩,⟨rfl,congrArg i64 (Bf (k:=k+1*i) (n:=1) (by omega) (by decide))⟩,⟨rfl,rfl⟩,trivial⟩ ⟨gu (Tv (s:=1) (f:=fS) hk2),trivial⟩⟩
 ·have hk2:i=a.length:=Nat.le_antisymm hi (yG c (zf hi))
  clear c
  conv=>whnf
  subst hk2
  exact xA.mk ⟨rfl,rfl⟩ ⟨⟨rfl,rfl⟩,rfl⟩ ⟨rfl,trivial⟩ ⟨show bY (T:=T) 9 (uo 1 fS k a a.length) 9 (jL 1 fS k a.length) from gu Tt,trivial⟩
end Go.Proofs.YtcnfgfomholheaaGreatDoor.Q
end
section
namespace Go.Proofs.YtcnfgfomholheaaGreatDoor.Q
open Go.RowKit Go.Proofs.YtcnfgfomholheaaGreatDoor.Z
set_option linter.unusedVariables false
set_option linter.unusedSimpArgs false
set_option maxRecDepth 100000
set_option maxHeartbeats 4000000
def aY {β:Type} (f:β→Nat→β × Nat):List β→Nat→List β × Nat
 | [],k=>([],k)
 | p::l,k=>((f p k).1::(aY f l (f p k).2).1,(aY f l (f p k).2).2)
def jW {β:Type} (f:β→Nat→β × Nat) (a:List β) (k i:Nat):List β:=(aY f (a.take i) k).1++a.drop i
section
variable {β:Type} {f:β→Nat→β × Nat} {a:List β} {k i:Nat} {d:β}
theorem EO:∀(l m:List β) (k:Nat),aY f (l++m) k=((aY f l k).1++(aY f m (aY f l k).2).1,(aY f m (aY f l k).2).2)
 | [],_,_=>rfl
 | p::l,m,k=>by simp only [List.cons_append,aY,EO l m]
theorem rM:∀(l:List β) (k:Nat),(aY f l k).1.length=l.length
 | [],_=>rfl
 | p::l,k=>by simp only [aY,List.length_cons,rM l]
theorem pF (h:i<a.length):aY f (a.take (i+1)) k=((aY f (a.take i) k).1++[(f (a.getD i d) (aY f (a.take i) k).2).1],(f (a.getD i d) (aY f (a.take i) k).2).2):=by
 have e:a.getD i d=a[i]:=by simp [h]
 rw [List.take_succ_eq_append_getElem h,EO,e];rfl
theorem ig (hf:∀p k,k≤(f p k).2):∀(l:List β) (k:Nat),k≤(aY f l k).2
 | [],k=>Nat.le_refl _
 | p::l,k=>Nat.le_trans (hf p k) (ig hf l _)
theorem rO (hf:∀p k,k≤(f p k).2) (i:Nat):(aY f (a.take i) k).2≤(aY f a k).2:=by
 have h:=EO (f:=f) (a.take i) (a.drop i) k
 rw [List.take_append_drop] at h
 rw [h];exact ig hf _ _
theorem Gz (h:i≤a.length):(jW f a k i).length=a.length:=by
 rw [jW,List.length_append,rM,List.length_take,List.length_drop];omega
theorem Qe (h:i<a.length) (x:β):(jW f a k i).set i x=(aY f (a.take i) k).1++x::a.drop (i+1):=by
 have hl:(aY f (a.take i) k).1.length=i:=by rw [rM,List.length_take];omega
 rw [jW,List.set_append_right _ _ (by omega),hl,Nat.sub_self,List.drop_eq_getElem_cons h];rfl
theorem DC (h:i<a.length):jW f a k i=(jW f a k i).set i (a.getD i d):=by
 rw [Qe h,jW,List.drop_eq_getElem_cons h];simp [h]
theorem DF (h:i<a.length):(jW f a k i).set i (f (a.getD i d) (aY f (a.take i) k).2).1=jW f a k (i+1):=by
 rw [Qe h,jW,pF (d:=d) h,List.append_assoc];rfl
theorem GH:jW f a k a.length=(aY f a k).1:=by rw [jW,List.take_length,List.drop_length,List.append_nil]
theorem vH {e:Nat} {R:List (T.Tb e)} {i:Nat} (h:i<R.length) (x:T.Tb e) (g:T.Tb e→T.Tb e):(R.set i x).set i (g (bH T e (R.set i x) i))=R.set i (g x):=by
 rw [gs_ h,List.set_set]
theorem ge_ {e:Nat} {R:List (T.Tb e)} {i:Nat} (h:i<R.length) (x:T.Tb e) (C:T.Tb e→Prop) (hc:C x):C (bH T e (R.set i x) i):=by
 rw [gs_ h];exact hc
end
def dS (p:SS) (k:Nat):SS × Nat:=(⟨markT k,((k+1:Nat):Int),((k+2:Nat):Int)⟩,k+3)
def eH (p:SK) (k:Nat):SK × Nat:=(⟨markT k,jL 1 fB (k+1) p.f1.length,((k+1+1*p.f1.length:Nat):Int)⟩,k+1+1*p.f1.length+1)
mutual
def bJ:SN→Nat→SN × Nat
 | ⟨a,b,c⟩,k=>(⟨jL 1 fS k a.length,(qR b (k+1*a.length)).1,(aY dS c (qR b (k+1*a.length)).2).1⟩,(aY dS c (qR b (k+1*a.length)).2).2)
def qR:List SN→Nat→List SN × Nat
 | [],k=>([],k)
 | p::l,k=>((bJ p k).1::(qR l (bJ p k).2).1,(qR l (bJ p k).2).2)
end
theorem TA:∀l:List SN,qR l=aY bJ l
 | []=>by funext k;rw [qR];rfl
 | p::l=>by funext k;rw [qR,TA l];rfl
theorem sZ (n:SN) (k:Nat):bJ n k=(⟨jL 1 fS k n.f0.length,(aY bJ n.f1 (k+1*n.f0.length)).1,(aY dS n.f2 (aY bJ n.f1 (k+1*n.f0.length)).2).1⟩,(aY dS n.f2 (aY bJ n.f1 (k+1*n.f0.length)).2).2):=by cases n;rw [bJ,TA]
theorem lI (p:SS) (k:Nat):k≤(dS p k).2:=by show k≤k+3;omega
theorem qU (p:SK) (k:Nat):k≤(eH p k).2:=by show k≤k+1+1*p.f1.length+1;omega
theorem TB {β:Type} {f:β→Nat→β × Nat}:∀(l:List β) (k:Nat),(∀p∈l,∀k,k≤(f p k).2)→k≤(aY f l k).2
 | [],k,_=>Nat.le_refl _
 | p::l,k,h=>Nat.le_trans (h p List.mem_cons_self k) (TB l _ (fun q hq=>h q (List.mem_cons_of_mem _ hq)))
theorem kN:∀(n:SN) (k:Nat),k≤(bJ n k).2:=fun n k=>by
 rw [sZ]
 exact Nat.le_trans (Nat.le_trans (Nat.le_add_right _ _) (TB n.f1 _ (fun p hp k=>kN p k))) (ig lI _ _)
termination_by n=>SizeOf.sizeOf n
decreasing_by exact mF hp
theorem Qg (a:List SS) (k:Nat) (ha:a.length≤2097152) (h0:0<k) (hk:(aY (β:=SS) dS a k).2≤4611686018427387904):CallWOb T Tryz.prog 34 [.c (.ow eS a eS (aY (β:=SS) dS a k).1), .c (.c (.sc (.int .i64 (k:Int))))] (.c (.sc (.int .i64 ((aY (β:=SS) dS a k).2:Int)))):=by
 refine sD hT Tryz.func34 (by kernel_rfl) rfl rfl (fun A=>?_)
 refine Vc.seq 0 hT ?_
 conv=>whnf
 refine Vc.JZ ?_
 refine Vc.seq 0 hT ?_
 conv=>whnf
 refine Vc.block ?_
 refine Vc.loop (α:={i:Nat // i≤a.length}) (fun s=>([(5,i64 s.1),(1,i64 ((aY (β:=SS) dS (a.take s.1) k).2:Nat)),(0,hd0)],[(1000, .row 0 eS (jW (β:=SS) dS a k s.1))])) (fun s=>a.length - s.1) ⟨0,Nat.zero_le _⟩ (ay [] rfl rfl rfl ⟨⟨rfl,rfl⟩,⟨rfl,rfl⟩,⟨rfl,rfl⟩,trivial⟩ ⟨show bY (T:=T) eS a eS (jW (β:=SS) dS a k 0) from gu rfl,trivial⟩) ?_
 rintro⟨i,hi⟩
 have hR:=Gz (β:=SS) (f:=dS) (k:=k) hi
 refine Vc.seq 1 hT ?_
 conv=>whnf
 refine Split.mk (fun c=>?_) (fun c=>?_)
 ·have hk2:i<a.length:=Fz c hR
  clear c
  have hq:=ig (β:=SS) lI (a.take i) k
  have hself:=DC (β:=SS) (f:=dS) (k:=k) (d:=T.df eS) hk2
  have hnext:=DF (β:=SS) (f:=dS) (k:=k) (d:=T.df eS) hk2
  have hmk:=pF (β:=SS) (f:=dS) (k:=k) (d:=T.df eS) hk2
  have hkp:=Nat.le_trans (rO (β:=SS) (f:=dS) (a:=a) (k:=k) lI (i+1)) hk
  rw [hmk] at hkp
  replace hmk:=congrArg Prod.snd hmk
  have hp:=getD_mem (α:=SS) (d:=T.df eS) hk2
  generalize jW (β:=SS) dS a k i=R at hself hnext hR⊢
  generalize (aY (β:=SS) dS (a.take i) k).2=k at hq hnext hmk hkp⊢
  generalize a.getD i (T.df eS)=p at hself hnext hmk hkp hp⊢
  have hlt:i<R.length:=by omega
  have hk1:0<k:=by omega
  have hkb:(dS p k).2≤4611686018427387904:=hkp
  conv=>whnf
  refine Vc.imp (tm':=[(5,i64 i),(1,i64 (k:Nat)),(0,hd0)]) (rs':=[(1000, .row 0 eS (R.set i p))]) (ay [] rfl rfl rfl ⟨⟨rfl,rfl⟩,⟨rfl,rfl⟩,⟨rfl,rfl⟩,trivial⟩ ⟨show bY (T:=T) eS R eS (R.set i p) from gu hself,trivial⟩) ?_
  clear hself
  refine Vc.JZ ?_
  refine Vc.block ?_
  refine Vc.seq 1 hT ?_
  conv=>whnf
  refine aA.mk _ (rJ k (by omega) (by simp only [dS] at hkb;omega)) ?_
  conv=>whnf
  refine Need.mk (idx (Nat.lt_of_lt_of_eq hlt List.length_set.symm)) ?_
  conv=>whnf
  refine Vc.cut (α:=Unit) 50 (fun _=>True) (fun _=>[(5,i64 i),(1,i64 ((k+1):Nat)),(0,hd0)]) (fun _=>[(1000, .row 0 eS (R.set i (⟨markT k,p.f1,p.f2⟩:SS)))]) hT ?_ (fun _ _=>?_)
  ·conv=>whnf
   exact kJ.mk ⟨(),trivial,ay [] rfl rfl rfl ⟨⟨rfl,rfl⟩,⟨rfl,congrArg i64 (Bf (k:=k) (n:=1) (by simp only [dS] at hkb;omega) (by decide))⟩,⟨rfl,rfl⟩,trivial⟩ ⟨gu (vH (e:=eS) hlt (p:SS) (fun q:T.Tb eS=>(⟨markT k,q.f1,q.f2⟩:SS))),trivial⟩⟩
  refine Vc.seq 1 hT ?_
  conv=>whnf
  refine Need.mk (idx (Nat.lt_of_lt_of_eq hlt List.length_set.symm)) ?_
  conv=>whnf
  refine Vc.cut (α:=Unit) 50 (fun _=>True) (fun _=>[(5,i64 i),(1,i64 (((k+1)+1):Nat)),(0,hd0)]) (fun _=>[(1000, .row 0 eS (R.set i (⟨markT k,(((k+1):Nat):Int),p.f2⟩:SS)))]) hT ?_ (fun _ _=>?_)
  ·conv=>whnf
   exact kJ.mk ⟨(),trivial,ay [] rfl rfl rfl ⟨⟨rfl,rfl⟩,⟨rfl,congrArg i64 (Bf (k:=(k+1)) (n:=1) (by simp only [dS] at hkb;omega) (by decide))⟩,⟨rfl,rfl⟩,trivial⟩ ⟨gu (vH (e:=eS) hlt (⟨markT k,p.f1,p.f2⟩:SS) (fun q:T.Tb eS=>(⟨q.f0,(((k+1):Nat):Int),q.f2⟩:SS))),trivial⟩⟩
  refine Vc.seq 1 hT ?_
  conv=>whnf
  refine Need.mk (idx (Nat.lt_of_lt_of_eq hlt List.length_set.symm)) ?_
  conv=>whnf
  refine Vc.of 1 hT ?_
  conv=>whnf
  refine Vc.of 1 hT ?_
  conv=>whnf
  exact bn.mk ⟨⟨i+1,hk2⟩,Nat.sub_lt_sub_left hk2 (Nat.lt_succ_self i),ay [] rfl rfl rfl ⟨⟨rfl,congrArg i64 (dK hk2 (by omega))⟩,⟨rfl,congrArg i64 ((congrArg (fun x:Nat=>(x:Int)) (hmk)).trans (Bf (k:=((k+1)+1)) (n:=1) (by simp only [dS] at hkb;omega) (by decide)))⟩,⟨rfl,rfl⟩,trivial⟩ ⟨gu ((vH (e:=eS) hlt (⟨markT k,(((k+1):Nat):Int),p.f2⟩:SS) (fun q:T.Tb eS=>(⟨q.f0,q.f1,((((k+1)+1):Nat):Int)⟩:SS))).trans hnext),trivial⟩⟩
 ·have hk2:i=a.length:=Nat.le_antisymm hi (yG c hR)
  clear c hR
  subst hk2
  conv=>whnf
  refine Vc.of 1 hT ?_
  conv=>whnf
  exact xA.mk ⟨rfl,rfl⟩ ⟨⟨rfl,rfl⟩,rfl⟩ ⟨iv (by rw [List.take_length]),trivial⟩ ⟨show bY (T:=T) eS (jW (β:=SS) dS a k a.length) eS (aY (β:=SS) dS a k).1 from gu GH,trivial⟩
theorem Wv (a:List SK) (k:Nat) (ha:a.length≤2097152) (hy:∀y∈a,y.f1.length≤2097152) (h0:0<k) (hk:(aY (β:=SK) eH a k).2≤4611686018427387904):CallWOb T Tryz.prog 67 [.c (.ow eK a eK (aY (β:=SK) eH a k).1), .c (.c (.sc (.int .i64 (k:Int))))] (.c (.sc (.int .i64 ((aY (β:=SK) eH a k).2:Int)))):=by
 refine sD hT Tryz.func67 (by kernel_rfl) rfl rfl (fun A=>?_)
 refine Vc.seq 0 hT ?_
 conv=>whnf
 refine Vc.JZ ?_
 refine Vc.seq 0 hT ?_
 conv=>whnf
 refine Vc.block ?_
 refine Vc.loop (α:={i:Nat // i≤a.length}) (fun s=>([(5,i64 s.1),(1,i64 ((aY (β:=SK) eH (a.take s.1) k).2:Nat)),(0,hd0)],[(1000, .row 0 eK (jW (β:=SK) eH a k s.1))])) (fun s=>a.length - s.1) ⟨0,Nat.zero_le _⟩ (ay [] rfl rfl rfl ⟨⟨rfl,rfl⟩,⟨rfl,rfl⟩,⟨rfl,rfl⟩,trivial⟩ ⟨show bY (T:=T) eK a eK (jW (β:=SK) eH a k 0) from gu rfl,trivial⟩) ?_
 rintro⟨i,hi⟩
 have hR:=Gz (β:=SK) (f:=eH) (k:=k) hi
 refine Vc.seq 1 hT ?_
 conv=>whnf
 refine Split.mk (fun c=>?_) (fun c=>?_)
 ·have hk2:i<a.length:=Fz c hR
  clear c
  have hq:=ig (β:=SK) qU (a.take i) k
  have hself:=DC (β:=SK) (f:=eH) (k:=k) (d:=T.df eK) hk2
  have hnext:=DF (β:=SK) (f:=eH) (k:=k) (d:=T.df eK) hk2
  have hmk:=pF (β:=SK) (f:=eH) (k:=k) (d:=T.df eK) hk2
  have hkp:=Nat.le_trans (rO (β:=SK) (f:=eH) (a:=a) (k:=k) qU (i+1)) hk
  rw [hmk] at hkp
  replace hmk:=congrArg Prod.snd hmk
  have hp:=getD_mem (α:=SK) (d:=T.df eK) hk2
  have hpb:=hy _ hp
  generalize jW (β:=SK) eH a k i=R at hself hnext hR⊢
  generalize (aY (β:=SK) eH (a.take i) k).2=k at hq hnext hmk hkp⊢
  generalize a.getD i (T.df eK)=p at hself hnext hmk hkp hp hpb⊢
  have hlt:i<R.length:=by omega
  have hk1:0<k:=by omega
  have hkb:(eH p k).2≤4611686018427387904:=hkp
  conv=>whnf
  refine Vc.imp (tm':=[(5,i64 i),(1,i64 (k:Nat)),(0,hd0)]) (rs':=[(1000, .row 0 eK (R.set i p))]) (ay [] rfl rfl rfl ⟨⟨rfl,rfl⟩,⟨rfl,rfl⟩,⟨rfl,rfl⟩,trivial⟩ ⟨show bY (T:=T) eK R eK (R.set i p) from gu hself,trivial⟩) ?_
  clear hself
  refine Vc.JZ ?_
  refine Vc.block ?_
  refine Vc.seq 1 hT ?_
  conv=>whnf
  refine aA.mk _ (rJ k (by omega) (by simp only [eH] at hkb;omega)) ?_
  conv=>whnf
  refine Need.mk (idx (Nat.lt_of_lt_of_eq hlt List.length_set.symm)) ?_
  conv=>whnf
  refine Vc.cut (α:=Unit) 50 (fun _=>True) (fun _=>[(5,i64 i),(1,i64 ((k+1):Nat)),(0,hd0)]) (fun _=>[(1000, .row 0 eK (R.set i (⟨markT k,p.f1,p.f2⟩:SK)))]) hT ?_ (fun _ _=>?_)
  ·conv=>whnf
   exact kJ.mk ⟨(),trivial,ay [] rfl rfl rfl ⟨⟨rfl,rfl⟩,⟨rfl,congrArg i64 (Bf (k:=k) (n:=1) (by simp only [eH] at hkb;omega) (by decide))⟩,⟨rfl,rfl⟩,trivial⟩ ⟨gu (vH (e:=eK) hlt (p:SK) (fun q:T.Tb eK=>(⟨markT k,q.f1,q.f2⟩:SK))),trivial⟩⟩
  refine Vc.cut (α:=Unit) 50 (fun _=>True) (fun _=>[(5,i64 i),(1,i64 (((k+1)+1*p.f1.length):Nat)),(0,hd0)]) (fun _=>[(1000, .row 0 eK (R.set i (⟨markT k,jL 1 fB (k+1) p.f1.length,p.f2⟩:SK)))]) hT ?_ (fun _ _=>?_)
  ·conv=>whnf
   refine Need.mk (idx (Nat.lt_of_lt_of_eq hlt List.length_set.symm)) ?_
   conv=>whnf
   refine aA.wr [[NW.wr 5 (jL 1 fB (k+1) p.f1.length)],[NW.rd]] (.c (.sc (.int .i64 ((((k+1)+1*p.f1.length):Nat):Int)))) ?_
   conv=>whnf
   refine jS.mk (ge_ (e:=eK) hlt (⟨markT k,p.f1,p.f2⟩:SK) (fun q=>CallWOb T Tryz.prog 53 [.c (.ow 5 q.f1 5 (jL 1 fB (k+1) p.f1.length)), .c (.c (.sc (.int .i64 (((k+1):Nat):Int))))] (.c (.sc (.int .i64 ((((k+1)+1*p.f1.length):Nat):Int))))) (XE p.f1 ((k+1)) (Nat.le_trans hpb (by decide)) (by omega) (by simp only [eH] at hkb;omega))) ?_
   conv=>whnf
   exact kJ.mk ⟨(),trivial,ay [] rfl rfl rfl ⟨⟨rfl,rfl⟩,⟨rfl,rfl⟩,⟨rfl,rfl⟩,trivial⟩ ⟨gu (vH (e:=eK) hlt (⟨markT k,p.f1,p.f2⟩:SK) (fun q:T.Tb eK=>(⟨q.f0,jL 1 fB (k+1) p.f1.length,q.f2⟩:SK))),trivial⟩⟩
  refine Vc.seq 1 hT ?_
  conv=>whnf
  refine Need.mk (idx (Nat.lt_of_lt_of_eq hlt List.length_set.symm)) ?_
  conv=>whnf
  refine Vc.of 1 hT ?_
  conv=>whnf
  refine Vc.of 1 hT ?_
  conv=>whnf
  exact bn.mk ⟨⟨i+1,hk2⟩,Nat.sub_lt_sub_left hk2 (Nat.lt_succ_self i),ay [] rfl rfl rfl ⟨⟨rfl,congrArg i64 (dK hk2 (by omega))⟩,⟨rfl,congrArg i64 ((congrArg (fun x:Nat=>(x:Int)) (hmk)).trans (Bf (k:=((k+1)+1*p.f1.length)) (n:=1) (by simp only [eH] at hkb;omega) (by decide)))⟩,⟨rfl,rfl⟩,trivial⟩ ⟨gu ((vH (e:=eK) hlt (⟨markT k,jL 1 fB (k+1) p.f1.length,p.f2⟩:SK) (fun q:T.Tb eK=>(⟨q.f0,q.f1,((((k+1)+1*p.f1.length):Nat):Int)⟩:SK))).trans hnext),trivial⟩⟩
 ·have hk2:i=a.length:=Nat.le_antisymm hi (yG c hR)
  clear c hR
  subst hk2
  conv=>whnf
  refine Vc.of 1 hT ?_
  conv=>whnf
  exact xA.mk ⟨rfl,rfl⟩ ⟨⟨rfl,rfl⟩,rfl⟩ ⟨iv (by rw [List.take_length]),trivial⟩ ⟨show bY (T:=T) eK (jW (β:=SK) eH a k a.length) eK (aY (β:=SK) eH a k).1 from gu GH,trivial⟩
theorem Qh (a:List SN) (k:Nat) (ha:a.length≤2097152) (hy:∀y∈a,Bd y∧∀k,0<k→(aY bJ y.f1 k).2≤4611686018427387904→CallWOb T Tryz.prog 103 [.c (.ow eN y.f1 eN (aY bJ y.f1 k).1), .c (.c (.sc (.int .i64 (k:Int))))] (.c (.sc (.int .i64 ((aY bJ y.f1 k).2:Int))))) (h0:0<k) (hk:(aY (β:=SN) bJ a k).2≤4611686018427387904):CallWOb T Tryz.prog 103 [.c (.ow eN a eN (aY (β:=SN) bJ a k).1), .c (.c (.sc (.int .i64 (k:Int))))] (.c (.sc (.int .i64 ((aY (β:=SN) bJ a k).2:Int)))):=by
 refine sD hT Tryz.func103 (by kernel_rfl) rfl rfl (fun A=>?_)
 refine Vc.seq 0 hT ?_
 conv=>whnf
 refine Vc.JZ ?_
 refine Vc.seq 0 hT ?_
 conv=>whnf
 refine Vc.block ?_
 refine Vc.loop (α:={i:Nat // i≤a.length}) (fun s=>([(5,i64 s.1),(1,i64 ((aY (β:=SN) bJ (a.take s.1) k).2:Nat)),(0,hd0)],[(1000, .row 0 eN (jW (β:=SN) bJ a k s.1))])) (fun s=>a.length - s.1) ⟨0,Nat.zero_le _⟩ (ay [] rfl rfl rfl ⟨⟨rfl,rfl⟩,⟨rfl,rfl⟩,⟨rfl,rfl⟩,trivial⟩ ⟨show bY (T:=T) eN a eN (jW (β:=SN) bJ a k 0) from gu rfl,trivial⟩) ?_
 rintro⟨i,hi⟩
 have hR:=Gz (β:=SN) (f:=bJ) (k:=k) hi
 refine Vc.seq 1 hT ?_
 conv=>whnf
 refine Split.mk (fun c=>?_) (fun c=>?_)
 ·have hk2:i<a.length:=Fz c hR
  clear c
  have hq:=ig (β:=SN) kN (a.take i) k
  have hself:=DC (β:=SN) (f:=bJ) (k:=k) (d:=T.df eN) hk2
  have hnext:=DF (β:=SN) (f:=bJ) (k:=k) (d:=T.df eN) hk2
  have hmk:=pF (β:=SN) (f:=bJ) (k:=k) (d:=T.df eN) hk2
  have hkp:=Nat.le_trans (rO (β:=SN) (f:=bJ) (a:=a) (k:=k) kN (i+1)) hk
  rw [hmk] at hkp
  replace hmk:=congrArg Prod.snd hmk
  have hp:=getD_mem (α:=SN) (d:=T.df eN) hk2
  have hpb:=hy _ hp
  rw [sZ] at hkp
  generalize jW (β:=SN) bJ a k i=R at hself hnext hR⊢
  generalize (aY (β:=SN) bJ (a.take i) k).2=k at hq hnext hmk hkp⊢
  generalize a.getD i (T.df eN)=p at hself hnext hmk hkp hp hpb⊢
  have hlt:i<R.length:=by omega
  have hk1:0<k:=by omega
  have hkb:(aY dS p.f2 (aY bJ p.f1 (k+1*p.f0.length)).2).2≤4611686018427387904:=hkp
  conv=>whnf
  refine Vc.imp (tm':=[(5,i64 i),(1,i64 (k:Nat)),(0,hd0)]) (rs':=[(1000, .row 0 eN (R.set i p))]) (ay [] rfl rfl rfl ⟨⟨rfl,rfl⟩,⟨rfl,rfl⟩,⟨rfl,rfl⟩,trivial⟩ ⟨show bY (T:=T) eN R eN (R.set i p) from gu hself,trivial⟩) ?_
  clear hself
  refine Vc.JZ ?_
  refine Vc.block ?_
  refine Vc.cut (α:=Unit) 50 (fun _=>True) (fun _=>[(5,i64 i),(1,i64 ((k+1*p.f0.length):Nat)),(0,hd0)]) (fun _=>[(1000, .row 0 eN (R.set i (⟨jL 1 fS k p.f0.length,p.f1,p.f2⟩:SN)))]) hT ?_ (fun _ _=>?_)
  ·conv=>whnf
   refine Need.mk (idx (Nat.lt_of_lt_of_eq hlt List.length_set.symm)) ?_
   conv=>whnf
   refine aA.wr [[NW.wr 9 (jL 1 fS k p.f0.length)],[NW.rd]] (.c (.sc (.int .i64 (((k+1*p.f0.length):Nat):Int)))) ?_
   conv=>whnf
   refine jS.mk (ge_ (e:=eN) hlt (p:SN) (fun q=>CallWOb T Tryz.prog 48 [.c (.ow 9 q.f0 9 (jL 1 fS k p.f0.length)), .c (.c (.sc (.int .i64 ((k:Nat):Int))))] (.c (.sc (.int .i64 (((k+1*p.f0.length):Nat):Int))))) (yc p.f0 (k) (Nat.le_trans hpb.1.l0 (by decide)) (by omega) (Nat.le_trans (Nat.le_trans (ig kN p.f1 _) (ig lI p.f2 _)) hkb))) ?_
   conv=>whnf
   exact kJ.mk ⟨(),trivial,ay [] rfl rfl rfl ⟨⟨rfl,rfl⟩,⟨rfl,rfl⟩,⟨rfl,rfl⟩,trivial⟩ ⟨gu (vH (e:=eN) hlt (p:SN) (fun q:T.Tb eN=>(⟨jL 1 fS k p.f0.length,q.f1,q.f2⟩:SN))),trivial⟩⟩
  refine Vc.cut (α:=Unit) 50 (fun _=>True) (fun _=>[(5,i64 i),(1,i64 ((aY bJ p.f1 (k+1*p.f0.length)).2:Nat)),(0,hd0)]) (fun _=>[(1000, .row 0 eN (R.set i (⟨jL 1 fS k p.f0.length,(aY bJ p.f1 (k+1*p.f0.length)).1,p.f2⟩:SN)))]) hT ?_ (fun _ _=>?_)
  ·conv=>whnf
   refine Need.mk (idx (Nat.lt_of_lt_of_eq hlt List.length_set.symm)) ?_
   conv=>whnf
   refine aA.wr [[NW.wr eN ((aY bJ p.f1 (k+1*p.f0.length)).1)],[NW.rd]] (.c (.sc (.int .i64 (((aY bJ p.f1 (k+1*p.f0.length)).2:Nat):Int)))) ?_
   conv=>whnf
   refine jS.mk (ge_ (e:=eN) hlt (⟨jL 1 fS k p.f0.length,p.f1,p.f2⟩:SN) (fun q=>CallWOb T Tryz.prog 103 [.c (.ow eN q.f1 eN ((aY bJ p.f1 (k+1*p.f0.length)).1)), .c (.c (.sc (.int .i64 (((k+1*p.f0.length):Nat):Int))))] (.c (.sc (.int .i64 (((aY bJ p.f1 (k+1*p.f0.length)).2:Nat):Int))))) (hpb.2 ((k+1*p.f0.length)) (by omega) (Nat.le_trans (ig lI p.f2 _) hkb))) ?_
   conv=>whnf
   exact kJ.mk ⟨(),trivial,ay [] rfl rfl rfl ⟨⟨rfl,rfl⟩,⟨rfl,rfl⟩,⟨rfl,rfl⟩,trivial⟩ ⟨gu (vH (e:=eN) hlt (⟨jL 1 fS k p.f0.length,p.f1,p.f2⟩:SN) (fun q:T.Tb eN=>(⟨q.f0,(aY bJ p.f1 (k+1*p.f0.length)).1,q.f2⟩:SN))),trivial⟩⟩
  refine Vc.of 1 hT ?_
  conv=>whnf
  refine Need.mk (idx (Nat.lt_of_lt_of_eq hlt List.length_set.symm)) ?_
  conv=>whnf
  refine aA.wr [[NW.wr eS ((aY dS p.f2 (aY bJ p.f1 (k+1*p.f0.length)).2).1)],[NW.rd]] (.c (.sc (.int .i64 (((aY dS p.f2 (aY bJ p.f1 (k+1*p.f0.length)).2).2:Nat):Int)))) ?_
  conv=>whnf
  refine jS.mk (ge_ (e:=eN) hlt (⟨jL 1 fS k p.f0.length,(aY bJ p.f1 (k+1*p.f0.length)).1,p.f2⟩:SN) (fun q=>CallWOb T Tryz.prog 34 [.c (.ow eS q.f2 eS ((aY dS p.f2 (aY bJ p.f1 (k+1*p.f0.length)).2).1)), .c (.c (.sc (.int .i64 (((aY bJ p.f1 (k+1*p.f0.length)).2:Nat):Int))))] (.c (.sc (.int .i64 (((aY dS p.f2 (aY bJ p.f1 (k+1*p.f0.length)).2).2:Nat):Int))))) (Qg p.f2 ((aY bJ p.f1 (k+1*p.f0.length)).2) hpb.1.l2 (Nat.lt_of_lt_of_le (show 0<k+1*p.f0.length by omega) (ig kN _ _)) hkb)) ?_
  conv=>whnf
  refine Vc.of 1 hT ?_
  conv=>whnf
  exact bn.mk ⟨⟨i+1,hk2⟩,Nat.sub_lt_sub_left hk2 (Nat.lt_succ_self i),ay [] rfl rfl rfl ⟨⟨rfl,congrArg i64 (dK hk2 (by omega))⟩,⟨rfl,congrArg i64 ((congrArg (fun x:Nat=>(x:Int)) (hmk.trans (show(bJ p k).2=_ from congrArg Prod.snd (sZ p k)))).trans (rfl))⟩,⟨rfl,rfl⟩,trivial⟩ ⟨gu ((vH (e:=eN) hlt (⟨jL 1 fS k p.f0.length,(aY bJ p.f1 (k+1*p.f0.length)).1,p.f2⟩:SN) (fun q:T.Tb eN=>(⟨q.f0,q.f1,(aY dS p.f2 (aY bJ p.f1 (k+1*p.f0.length)).2).1⟩:SN))).trans (Eq.trans (congrArg (fun z:SN × Nat=>List.set R i z.1) (sZ p k).symm) hnext)),trivial⟩⟩
 ·have hk2:i=a.length:=Nat.le_antisymm hi (yG c hR)
  clear c hR
  subst hk2
  conv=>whnf
  refine Vc.of 1 hT ?_
  conv=>whnf
  exact xA.mk ⟨rfl,rfl⟩ ⟨⟨rfl,rfl⟩,rfl⟩ ⟨iv (by rw [List.take_length]),trivial⟩ ⟨show bY (T:=T) eN (jW (β:=SN) bJ a k a.length) eN (aY (β:=SN) bJ a k).1 from gu GH,trivial⟩
theorem MH:∀(n:SN),Bd n→∀k,0<k→(aY bJ n.f1 k).2≤4611686018427387904→CallWOb T Tryz.prog 103 [.c (.ow eN n.f1 eN (aY bJ n.f1 k).1), .c (.c (.sc (.int .i64 (k:Int))))] (.c (.sc (.int .i64 ((aY bJ n.f1 k).2:Int)))):=fun n hn k h0 hk=>
 Qh n.f1 k hn.l1 (fun y hy=>⟨hn.kid y hy,MH y (hn.kid y hy)⟩) h0 hk
termination_by n=>SizeOf.sizeOf n
decreasing_by exact mF hy
theorem YE (n:SN) (k:Nat) (hn:Bd n) (h0:0<k) (hk:(bJ n k).2≤4611686018427387904):CallWOb T Tryz.prog 23 [.ag [.ow 9 n.f0 9 (bJ n k).1.f0, .ow eN n.f1 eN (bJ n k).1.f1, .ow eS n.f2 eS (bJ n k).1.f2], .c (.c (.sc (.int .i64 (k:Int))))] (.c (.sc (.int .i64 ((bJ n k).2:Int)))):=by
 rw [sZ] at hk⊢
 have g1:=ig kN n.f1 (k+1*n.f0.length)
 have g2:=ig lI n.f2 (aY bJ n.f1 (k+1*n.f0.length)).2
 have h1:=yc n.f0 k (Nat.le_trans hn.l0 (by decide)) h0 (Nat.le_trans (Nat.le_trans g1 g2) hk)
 have h2:=MH n hn (k+1*n.f0.length) (by omega) (Nat.le_trans g2 hk)
 have h3:=Qg n.f2 (aY bJ n.f1 (k+1*n.f0.length)).2 hn.l2 (by omega) hk
 refine rV hT Tryz.func23 (by kernel_rfl) rfl rfl (fun A=>?_)
 conv=>whnf
 refine aA.wr [[NW.wr 9 (jL 1 fS k n.f0.length)],[NW.rd]] (.c (.sc (.int .i64 ((k+1*n.f0.length:Nat):Int)))) ?_
 conv=>whnf
 refine jS.mk h1 ?_
 conv=>whnf
 refine aA.wr [[NW.wr eN (aY bJ n.f1 (k+1*n.f0.length)).1],[NW.rd]] (.c (.sc (.int .i64 ((aY bJ n.f1 (k+1*n.f0.length)).2:Int)))) ?_
 conv=>whnf
 refine jS.mk h2 ?_
 conv=>whnf
 refine aA.wr [[NW.wr eS (aY dS n.f2 (aY bJ n.f1 (k+1*n.f0.length)).2).1],[NW.rd]] (.c (.sc (.int .i64 ((aY dS n.f2 (aY bJ n.f1 (k+1*n.f0.length)).2).2:Int)))) ?_
 conv=>whnf
 refine jS.mk h3 ?_
 conv=>whnf
 exact xA.mk ⟨rfl,rfl⟩ ⟨⟨rfl,rfl⟩,rfl⟩ ⟨rfl,trivial⟩ ⟨rfl,rfl,rfl,trivial⟩
end Go.Proofs.YtcnfgfomholheaaGreatDoor.Q
end
section
namespace Go.Proofs.YtcnfgfomholheaaGreatDoor.Q
open Go.RowKit Go.Proofs.YtcnfgfomholheaaGreatDoor.Z
set_option linter.unusedVariables false
set_option linter.unusedSimpArgs false
set_option maxRecDepth 100000
set_option maxHeartbeats 4000000
theorem AV {n:Nat} {q:Prop} (c:decide ((n:Int)<0)=true):q:=by have:=JF c;omega
theorem XF (n k:Nat) (hl:n≤140737488351232) (h0:0<k) (hk:k+1*n≤4611686018427387904):aC T Tryz.prog 133 [.c (.sl 5 (jL 1 fB k n)), .c (.sc (.int .i64 (k:Int)))] (.c (.sc (.int .i64 ((k+1*n:Nat):Int)))):=by
 refine aH hT Tryz.func133 (by kernel_rfl) rfl rfl (fun A=>?_)
 conv=>whnf
 refine dJ.mk {i:Nat // i≤n} (fun p=>(0,[(5,i64 p.1),(1,i64 (k+1*p.1:Nat)),(0,im 5 (jL 1 fB k n))],[])) (fun p=>n - p.1) ⟨0,Nat.zero_le _⟩ (ay [] rfl rfl rfl ⟨⟨rfl,rfl⟩,⟨rfl,rfl⟩,⟨rfl,rfl⟩,trivial⟩ trivial) ?_
 rintro⟨i,hi⟩
 conv=>whnf
 refine Split.mk (fun c=>?_) (fun c=>?_)
 ·have hk2:i<n:=Fz c oD
  clear c
  have hb:k+1*i+1≤4611686018427387904:=by omega
  conv=>whnf
  refine Need.mk (idx (Nat.lt_of_lt_of_eq hk2 oD.symm)) ?_
  conv=>whnf
  refine Split.mk (fun c=>(vS c (Tz (s:=1) (f:=fB) (k:=k) (d:=(0:Int)) hk2)).elim) (fun c=>?_)
  clear c
  conv=>whnf
  exact bn.mk ⟨⟨i+1,hk2⟩,Nat.sub_lt_sub_left hk2 (Nat.lt_succ_self i),ay [] rfl rfl rfl ⟨⟨rfl,congrArg i64 (dK hk2 hl)⟩,⟨rfl,congrArg i64 (Bf (k:=k+1*i) (n:=1) (by omega) (by decide))⟩,⟨rfl,rfl⟩,trivial⟩ trivial⟩
 ·have hk2:i=n:=Nat.le_antisymm hi (yG c oD)
  clear c
  conv=>whnf
  subst hk2
  exact aG.mk ⟨rfl,rfl⟩ ⟨rfl,rfl⟩ ⟨rfl,trivial⟩
theorem FB (n k:Nat) (hl:n≤140737488351232) (h0:0<k) (hk:k+1*n≤4611686018427387904):aC T Tryz.prog 104 [.c (.sl 9 (jL 1 fS k n)), .c (.sc (.int .i64 (k:Int)))] (.c (.sc (.int .i64 ((k+1*n:Nat):Int)))):=by
 refine aH hT Tryz.func104 (by kernel_rfl) rfl rfl (fun A=>?_)
 conv=>whnf
 refine dJ.mk {i:Nat // i≤n} (fun p=>(0,[(5,i64 p.1),(1,i64 (k+1*p.1:Nat)),(0,im 9 (jL 1 fS k n))],[])) (fun p=>n - p.1) ⟨0,Nat.zero_le _⟩ (ay [] rfl rfl rfl ⟨⟨rfl,rfl⟩,⟨rfl,rfl⟩,⟨rfl,rfl⟩,trivial⟩ trivial) ?_
 rintro⟨i,hi⟩
 conv=>whnf
 refine Split.mk (fun c=>?_) (fun c=>?_)
 ·have hk2:i<n:=Fz c oD
  clear c
  have hb:k+1*i+1≤4611686018427387904:=by omega
  conv=>whnf
  refine Need.mk (idx (Nat.lt_of_lt_of_eq hk2 oD.symm)) ?_
  conv=>whnf
  refine aA.mk _ (rJ (k+1*i) (by omega) (by omega)) ?_
  conv=>whnf
  refine aZ.mk ⟨by kernel_rfl,by kernel_rfl⟩ ?_
  conv=>whnf
  refine Split.mk (fun c=>(J3 c (Tz (s:=1) (f:=fS) (k:=k) (d:=ByteArray.empty) hk2)).elim) (fun c=>?_)
  clear c
  conv=>whnf
  exact bn.mk ⟨⟨i+1,hk2⟩,Nat.sub_lt_sub_left hk2 (Nat.lt_succ_self i),ay [] rfl rfl rfl ⟨⟨rfl,congrArg i64 (dK hk2 hl)⟩,⟨rfl,congrArg i64 (Bf (k:=k+1*i) (n:=1) (by omega) (by decide))⟩,⟨rfl,rfl⟩,trivial⟩ trivial⟩
 ·have hk2:i=n:=Nat.le_antisymm hi (yG c oD)
  clear c
  conv=>whnf
  subst hk2
  exact aG.mk ⟨rfl,rfl⟩ ⟨rfl,rfl⟩ ⟨rfl,trivial⟩
theorem KA {β:Type} {f:β→Nat→β × Nat} {a:List β} {k i:Nat} {d:β} (h:i<a.length):(aY f a k).1.getD i d=(f (a.getD i d) (aY f (a.take i) k).2).1:=by
 have e:a.getD i d=a[i]:=by simp [h]
 have h1:=EO (f:=f) (a.take i) (a.drop i) k
 rw [List.take_append_drop,List.drop_eq_getElem_cons h] at h1
 have hl:(aY f (a.take i) k).1.length=i:=by rw [rM,List.length_take];omega
 rw [h1,List.getD_eq_getElem?_getD,List.getElem?_append_right (by omega),hl,Nat.sub_self,e]
 rfl
theorem Vt {e:Nat} {R:List (T.Tb e)} {i:Nat} {x:T.Tb e} (h:R.getD i (T.df e)=x) (C:T.Tb e→Prop) (hc:C x):C (bH T e R i):=by
 rw [show bH T e R i=x from h];exact hc
theorem k3_ {k:Nat} (h:k+3≤4611686018427387904):((k+3:Nat):Int)=wrap64 (wrap64 (wrap64 ((k:Int)+1)+1)+1):=by simp only [wrap64];omega
theorem aey {k:Nat} (h:k+2≤4611686018427387904):((k+2:Nat):Int)=wrap64 (wrap64 ((k:Int)+1)+1):=by simp only [wrap64];omega
theorem Qi (a:List SS) (k:Nat) (ha:a.length≤2097152) (h0:0<k) (hk:(aY (β:=SS) dS a k).2≤4611686018427387904):aC T Tryz.prog 35 [.c (.sl eS (aY (β:=SS) dS a k).1), .c (.sc (.int .i64 (k:Int)))] (.c (.sc (.int .i64 ((aY (β:=SS) dS a k).2:Int)))):=by
 refine aH hT Tryz.func35 (by kernel_rfl) rfl rfl (fun A=>?_)
 conv=>whnf
 refine dJ.mk {i:Nat // i≤a.length} (fun p=>(0,[(5,i64 p.1),(1,i64 ((aY (β:=SS) dS (a.take p.1) k).2:Nat)),(0,im eS (aY (β:=SS) dS a k).1)],[])) (fun p=>a.length - p.1) ⟨0,Nat.zero_le _⟩ (ay [] rfl rfl rfl ⟨⟨rfl,rfl⟩,⟨rfl,rfl⟩,⟨rfl,rfl⟩,trivial⟩ trivial) ?_
 rintro⟨i,hi⟩
 have hR:=rM (f:=dS) a k
 conv=>whnf
 refine Split.mk (fun c=>?_) (fun c=>?_)
 ·have hk2:i<a.length:=Fz c hR
  clear c
  have hq:=ig (β:=SS) lI (a.take i) k
  have hg:=KA (β:=SS) (f:=dS) (k:=k) (d:=T.df eS) hk2
  have hmk:=congrArg Prod.snd (pF (β:=SS) (f:=dS) (k:=k) (d:=T.df eS) hk2)
  have hkb:=Nat.le_trans (rO (β:=SS) (f:=dS) (a:=a) (k:=k) lI (i+1)) hk
  rw [hmk] at hkb
  have hp:=getD_mem (α:=SS) (d:=T.df eS) hk2
  dsimp only at hkb
  generalize (aY (β:=SS) dS (a.take i) k).2=k2 at hq hg hmk hkb⊢
  generalize a.getD i (T.df eS)=p at hg hmk hkb hp⊢
  have hk1:0<k2:=by omega
  generalize hrw:(aY (β:=SS) dS a k).1=R at hg hR⊢
  have hlt:i<R.length:=by omega
  conv=>whnf
  refine Need.mk (idx hlt) ?_
  conv=>whnf
  refine aA.mk _ (rJ k2 (by omega) (by simp only [dS] at hkb;omega)) ?_
  conv=>whnf
  refine aZ.mk ⟨by kernel_rfl,by kernel_rfl⟩ ?_
  conv=>whnf
  refine Split.mk (fun c=>(J3 c (congrArg (fun z:SS=>z.f0) hg)).elim) (fun c=>?_)
  clear c
  conv=>whnf
  refine Need.mk (idx hlt) ?_
  conv=>whnf
  refine Split.mk (fun c=>(vS c ((congrArg (fun z:SS=>z.f1) hg).trans (Bf (k:=k2) (n:=1) (by simp only [dS] at hkb;omega) (by decide)))).elim) (fun c=>?_)
  clear c
  conv=>whnf
  refine Need.mk (idx hlt) ?_
  conv=>whnf
  refine Split.mk (fun c=>(vS c ((congrArg (fun z:SS=>z.f2) hg).trans (aey (k:=k2) (by simp only [dS] at hkb;omega)))).elim) (fun c=>?_)
  clear c
  conv=>whnf
  exact bn.mk ⟨⟨i+1,hk2⟩,Nat.sub_lt_sub_left hk2 (Nat.lt_succ_self i),ay [] rfl rfl rfl ⟨⟨rfl,congrArg i64 (dK hk2 (by omega))⟩,⟨rfl,congrArg i64 ((congrArg (fun x:Nat=>(x:Int)) (hmk)).trans (k3_ (k:=k2) (by simp only [dS] at hkb;omega)))⟩,⟨rfl,rfl⟩,trivial⟩ trivial⟩
 ·have hk2:i=a.length:=Nat.le_antisymm hi (yG c hR)
  clear c
  conv=>whnf
  subst hk2
  exact aG.mk ⟨rfl,rfl⟩ ⟨rfl,rfl⟩ ⟨iv (by rw [List.take_length]),trivial⟩
theorem Wx (a:List SK) (k:Nat) (ha:a.length≤2097152) (hy:∀y∈a,y.f1.length≤2097152) (h0:0<k) (hk:(aY (β:=SK) eH a k).2≤4611686018427387904):aC T Tryz.prog 68 [.c (.sl eK (aY (β:=SK) eH a k).1), .c (.sc (.int .i64 (k:Int)))] (.c (.sc (.int .i64 ((aY (β:=SK) eH a k).2:Int)))):=by
 refine aH hT Tryz.func68 (by kernel_rfl) rfl rfl (fun A=>?_)
 conv=>whnf
 refine dJ.mk {i:Nat // i≤a.length} (fun p=>(0,[(5,i64 p.1),(1,i64 ((aY (β:=SK) eH (a.take p.1) k).2:Nat)),(0,im eK (aY (β:=SK) eH a k).1)],[])) (fun p=>a.length - p.1) ⟨0,Nat.zero_le _⟩ (ay [] rfl rfl rfl ⟨⟨rfl,rfl⟩,⟨rfl,rfl⟩,⟨rfl,rfl⟩,trivial⟩ trivial) ?_
 rintro⟨i,hi⟩
 have hR:=rM (f:=eH) a k
 conv=>whnf
 refine Split.mk (fun c=>?_) (fun c=>?_)
 ·have hk2:i<a.length:=Fz c hR
  clear c
  have hq:=ig (β:=SK) qU (a.take i) k
  have hg:=KA (β:=SK) (f:=eH) (k:=k) (d:=T.df eK) hk2
  have hmk:=congrArg Prod.snd (pF (β:=SK) (f:=eH) (k:=k) (d:=T.df eK) hk2)
  have hkb:=Nat.le_trans (rO (β:=SK) (f:=eH) (a:=a) (k:=k) qU (i+1)) hk
  rw [hmk] at hkb
  have hp:=getD_mem (α:=SK) (d:=T.df eK) hk2
  have hpb:=hy _ hp
  dsimp only at hkb
  generalize (aY (β:=SK) eH (a.take i) k).2=k2 at hq hg hmk hkb⊢
  generalize a.getD i (T.df eK)=p at hg hmk hkb hp hpb⊢
  have hk1:0<k2:=by omega
  generalize hrw:(aY (β:=SK) eH a k).1=R at hg hR⊢
  have hlt:i<R.length:=by omega
  conv=>whnf
  refine Need.mk (idx hlt) ?_
  conv=>whnf
  refine aA.mk _ (rJ k2 (by omega) (by simp only [eH] at hkb;omega)) ?_
  conv=>whnf
  refine aZ.mk ⟨by kernel_rfl,by kernel_rfl⟩ ?_
  conv=>whnf
  refine Split.mk (fun c=>(J3 c (congrArg (fun z:SK=>z.f0) hg)).elim) (fun c=>?_)
  clear c
  conv=>whnf
  refine Need.mk (idx hlt) ?_
  conv=>whnf
  refine aA.mk (.c (.sc (.int .i64 (((k2+1+1*p.f1.length):Nat):Int)))) (Vt (e:=eK) hg (fun q=>aC T Tryz.prog 133 [.c (.sl 5 q.f1), .c (.sc (.int .i64 (wrap64 ((k2:Int)+1))))] (.c (.sc (.int .i64 (((k2+1+1*p.f1.length):Nat):Int))))) (by have h:=XF p.f1.length (k2+1) (Nat.le_trans hpb (by decide)) (by omega) (by simp only [eH] at hkb;omega);rw [Bf (k:=k2) (n:=1) (by simp only [eH] at hkb;omega) (by decide)] at h;exact h)) ?_
  conv=>whnf
  refine Split.mk (fun c=>AV c) (fun c=>?_)
  clear c
  conv=>whnf
  refine Need.mk (idx hlt) ?_
  conv=>whnf
  refine Split.mk (fun c=>(vS c ((congrArg (fun z:SK=>z.f2) hg).trans rfl)).elim) (fun c=>?_)
  clear c
  conv=>whnf
  exact bn.mk ⟨⟨i+1,hk2⟩,Nat.sub_lt_sub_left hk2 (Nat.lt_succ_self i),ay [] rfl rfl rfl ⟨⟨rfl,congrArg i64 (dK hk2 (by omega))⟩,⟨rfl,congrArg i64 ((congrArg (fun x:Nat=>(x:Int)) (hmk)).trans (Bf (k:=(k2+1+1*p.f1.length)) (n:=1) (by simp only [eH] at hkb;omega) (by decide)))⟩,⟨rfl,rfl⟩,trivial⟩ trivial⟩
 ·have hk2:i=a.length:=Nat.le_antisymm hi (yG c hR)
  clear c
  conv=>whnf
  subst hk2
  exact aG.mk ⟨rfl,rfl⟩ ⟨rfl,rfl⟩ ⟨iv (by rw [List.take_length]),trivial⟩
theorem Qj (a:List SN) (k:Nat) (ha:a.length≤2097152) (hy:∀y∈a,Bd y∧∀k,0<k→(aY bJ y.f1 k).2≤4611686018427387904→aC T Tryz.prog 105 [.c (.sl eN (aY bJ y.f1 k).1), .c (.sc (.int .i64 (k:Int)))] (.c (.sc (.int .i64 ((aY bJ y.f1 k).2:Int))))) (h0:0<k) (hk:(aY (β:=SN) bJ a k).2≤4611686018427387904):aC T Tryz.prog 105 [.c (.sl eN (aY (β:=SN) bJ a k).1), .c (.sc (.int .i64 (k:Int)))] (.c (.sc (.int .i64 ((aY (β:=SN) bJ a k).2:Int)))):=by
 refine aH hT Tryz.func105 (by kernel_rfl) rfl rfl (fun A=>?_)
 conv=>whnf
 refine dJ.mk {i:Nat // i≤a.length} (fun p=>(0,[(5,i64 p.1),(1,i64 ((aY (β:=SN) bJ (a.take p.1) k).2:Nat)),(0,im eN (aY (β:=SN) bJ a k).1)],[])) (fun p=>a.length - p.1) ⟨0,Nat.zero_le _⟩ (ay [] rfl rfl rfl ⟨⟨rfl,rfl⟩,⟨rfl,rfl⟩,⟨rfl,rfl⟩,trivial⟩ trivial) ?_
 rintro⟨i,hi⟩
 have hR:=rM (f:=bJ) a k
 conv=>whnf
 refine Split.mk (fun c=>?_) (fun c=>?_)
 ·have hk2:i<a.length:=Fz c hR
  clear c
  have hq:=ig (β:=SN) kN (a.take i) k
  have hg:=KA (β:=SN) (f:=bJ) (k:=k) (d:=T.df eN) hk2
  have hmk:=congrArg Prod.snd (pF (β:=SN) (f:=bJ) (k:=k) (d:=T.df eN) hk2)
  have hkb:=Nat.le_trans (rO (β:=SN) (f:=bJ) (a:=a) (k:=k) kN (i+1)) hk
  rw [hmk] at hkb
  have hp:=getD_mem (α:=SN) (d:=T.df eN) hk2
  have hpb:=hy _ hp
  rw [sZ] at hkb hg
  dsimp only at hkb
  generalize (aY (β:=SN) bJ (a.take i) k).2=k2 at hq hg hmk hkb⊢
  generalize a.getD i (T.df eN)=p at hg hmk hkb hp hpb⊢
  have hk1:0<k2:=by omega
  generalize hrw:(aY (β:=SN) bJ a k).1=R at hg hR⊢
  have hlt:i<R.length:=by omega
  conv=>whnf
  refine Need.mk (idx hlt) ?_
  conv=>whnf
  refine aA.mk (.c (.sc (.int .i64 (((k2+1*p.f0.length):Nat):Int)))) (Vt (e:=eN) hg (fun q=>aC T Tryz.prog 104 [.c (.sl 9 q.f0), .c (.sc (.int .i64 ((k2:Nat))))] (.c (.sc (.int .i64 (((k2+1*p.f0.length):Nat):Int))))) (FB p.f0.length k2 (Nat.le_trans hpb.1.l0 (by decide)) (by omega) (Nat.le_trans (Nat.le_trans (ig kN p.f1 _) (ig lI p.f2 _)) hkb))) ?_
  conv=>whnf
  refine Split.mk (fun c=>AV c) (fun c=>?_)
  clear c
  conv=>whnf
  refine Need.mk (idx hlt) ?_
  conv=>whnf
  refine aA.mk (.c (.sc (.int .i64 (((aY bJ p.f1 (k2+1*p.f0.length)).2:Nat):Int)))) (Vt (e:=eN) hg (fun q=>aC T Tryz.prog 105 [.c (.sl eN q.f1), .c (.sc (.int .i64 (((k2+1*p.f0.length):Nat))))] (.c (.sc (.int .i64 (((aY bJ p.f1 (k2+1*p.f0.length)).2:Nat):Int))))) (hpb.2 ((k2+1*p.f0.length)) (by omega) (Nat.le_trans (ig lI p.f2 _) hkb))) ?_
  conv=>whnf
  refine Split.mk (fun c=>AV c) (fun c=>?_)
  clear c
  conv=>whnf
  refine Need.mk (idx hlt) ?_
  conv=>whnf
  refine aA.mk (.c (.sc (.int .i64 (((aY dS p.f2 (aY bJ p.f1 (k2+1*p.f0.length)).2).2:Nat):Int)))) (Vt (e:=eN) hg (fun q=>aC T Tryz.prog 35 [.c (.sl eS q.f2), .c (.sc (.int .i64 (((aY bJ p.f1 (k2+1*p.f0.length)).2:Nat))))] (.c (.sc (.int .i64 (((aY dS p.f2 (aY bJ p.f1 (k2+1*p.f0.length)).2).2:Nat):Int))))) (Qi p.f2 ((aY bJ p.f1 (k2+1*p.f0.length)).2) hpb.1.l2 (Nat.lt_of_lt_of_le (show 0<k2+1*p.f0.length by omega) (ig kN _ _)) hkb)) ?_
  conv=>whnf
  refine Split.mk (fun c=>AV c) (fun c=>?_)
  clear c
  conv=>whnf
  exact bn.mk ⟨⟨i+1,hk2⟩,Nat.sub_lt_sub_left hk2 (Nat.lt_succ_self i),ay [] rfl rfl rfl ⟨⟨rfl,congrArg i64 (dK hk2 (by omega))⟩,⟨rfl,congrArg i64 ((congrArg (fun x:Nat=>(x:Int)) (hmk.trans (show(bJ p k2).2=_ from congrArg Prod.snd (sZ p k2)))).trans (rfl))⟩,⟨rfl,rfl⟩,trivial⟩ trivial⟩
 ·have hk2:i=a.length:=Nat.le_antisymm hi (yG c hR)
  clear c
  conv=>whnf
  subst hk2
  exact aG.mk ⟨rfl,rfl⟩ ⟨rfl,rfl⟩ ⟨iv (by rw [List.take_length]),trivial⟩
theorem MI:∀(n:SN),Bd n→∀k,0<k→(aY bJ n.f1 k).2≤4611686018427387904→aC T Tryz.prog 105 [.c (.sl eN (aY bJ n.f1 k).1), .c (.sc (.int .i64 (k:Int)))] (.c (.sc (.int .i64 ((aY bJ n.f1 k).2:Int)))):=fun n hn k h0 hk=>
 Qj n.f1 k hn.l1 (fun y hy=>⟨hn.kid y hy,MI y (hn.kid y hy)⟩) h0 hk
termination_by n=>SizeOf.sizeOf n
decreasing_by exact mF hy
theorem YG (n:SN) (k:Nat) (hn:Bd n) (h0:0<k) (hk:(bJ n k).2≤4611686018427387904):aC T Tryz.prog 24 [.ag [.sl 9 (bJ n k).1.f0, .sl eN (bJ n k).1.f1, .sl eS (bJ n k).1.f2], .c (.sc (.int .i64 (k:Int)))] (.c (.sc (.int .i64 ((bJ n k).2:Int)))):=by
 rw [sZ] at hk⊢
 have g1:=ig kN n.f1 (k+1*n.f0.length)
 have g2:=ig lI n.f2 (aY bJ n.f1 (k+1*n.f0.length)).2
 have h1:=FB n.f0.length k (Nat.le_trans hn.l0 (by decide)) h0 (Nat.le_trans (Nat.le_trans g1 g2) hk)
 have h2:=MI n hn (k+1*n.f0.length) (by omega) (Nat.le_trans g2 hk)
 have h3:=Qi n.f2 (aY bJ n.f1 (k+1*n.f0.length)).2 hn.l2 (by omega) hk
 refine aH hT Tryz.func24 (by kernel_rfl) rfl rfl (fun A=>?_)
 conv=>whnf
 refine aA.mk _ h1 ?_
 conv=>whnf
 refine Split.mk (fun c=>AV c) (fun c=>?_)
 clear c
 conv=>whnf
 refine aA.mk _ h2 ?_
 conv=>whnf
 refine Split.mk (fun c=>AV c) (fun c=>?_)
 clear c
 conv=>whnf
 refine aA.mk _ h3 ?_
 conv=>whnf
 refine Split.mk (fun c=>AV c) (fun c=>?_)
 clear c
 conv=>whnf
 exact aG.mk ⟨rfl,rfl⟩ ⟨rfl,rfl⟩ ⟨rfl,trivial⟩
end Go.Proofs.YtcnfgfomholheaaGreatDoor.Q
end
section
namespace Go.Proofs.YtcnfgfomholheaaGreatDoor.Q
open Go.RowKit Go.Proofs.YtcnfgfomholheaaGreatDoor.Z Go.Proofs.YtcnfgfomholheaaGreatDoor.X Go.Proofs.YtcnfgfomholheaaGreatDoor.Pure
set_option linter.unusedVariables false
set_option linter.unusedSimpArgs false
abbrev NI:=SN
abbrev SI:=SS
abbrev EI:=SE
theorem Zn (b:Nat) (h:Lib.firstT b % 8=2∨Lib.firstT b % 8=3∨Lib.firstT b % 8=4):128≤Lib.accLo (Lib.firstT b / 16):=by
 unfold Lib.firstT at h⊢
 unfold Lib.accLo
 repeat' split at h
 all_goals first | (exfalso;omega) | (simp [*];done) | (simp [*];omega)
theorem Qk (a b:List UInt8) (i:Nat) (h:i<a.length):(a++47::b).getD i 0=a.getD i 0:=by
 rw [List.getD_eq_getElem?_getD,List.getD_eq_getElem?_getD,List.getElem?_append_left h]
theorem Ql (a b:List UInt8) (i:Nat) (h:i=a.length):(a++47::b).getD i 0=47:=by
 subst h
 rw [List.getD_eq_getElem?_getD,List.getElem?_append_right (Nat.le_refl _)]
 simp
theorem Zo (a b:List UInt8) (k:Nat) (h:k≤a.length):(a++47::b).drop k=a.drop k++47::b:=List.drop_append_of_le_length h
theorem XG (a b:List UInt8) (h0:0<a.length) (sz lo hi k:Nat) (hlo:sz=2∨sz=3∨sz=4→128≤lo)
  (h:Lib.checkN (a++47::b).length ((a++47::b).getD 1 0).toNat ((a++47::b).getD 2 0).toNat ((a++47::b).getD 3 0).toNat sz lo hi=some k):
  k≤a.length∧1≤k∧Lib.checkN a.length (a.getD 1 0).toNat (a.getD 2 0).toNat (a.getD 3 0).toNat sz lo hi=some k:=by
 have e47:(47:UInt8).toNat=47:=rfl
 have at1:a.length=1→((a++47::b).getD 1 0).toNat=47:=fun e=>by rw [Ql a b 1 e.symm];rfl
 have at2:a.length=2→((a++47::b).getD 2 0).toNat=47:=fun e=>by rw [Ql a b 2 e.symm];rfl
 have at3:a.length=3→((a++47::b).getD 3 0).toNat=47:=fun e=>by rw [Ql a b 3 e.symm];rfl
 have in1:1<a.length→(a++47::b).getD 1 0=a.getD 1 0:=fun e=>Qk a b 1 e
 have in2:2<a.length→(a++47::b).getD 2 0=a.getD 2 0:=fun e=>Qk a b 2 e
 have in3:3<a.length→(a++47::b).getD 3 0=a.getD 3 0:=fun e=>Qk a b 3 e
 unfold Lib.checkN at h⊢
 by_cases c1:sz=2
 ·have hlo:=hlo (.inl c1)
  rw [if_pos c1] at h⊢
  split at h
  ·cases h
  ·rename_i q
   obtain rfl:k=2:=by injection h with h;exact h.symm
   have l1:a.length≠1:=fun e=>by have:=at1 e;omega
   have:=in1 (by omega)
   rw [this] at q
   refine⟨by omega,by omega,?_⟩
   rw [if_neg (by omega)]
 rw [if_neg c1] at h⊢
 by_cases c2:sz=3
 ·have hlo:=hlo (.inr (.inl c2))
  rw [if_pos c2] at h⊢
  split at h
  ·cases h
  ·rename_i q
   obtain rfl:k=3:=by injection h with h;exact h.symm
   have l1:a.length≠1:=fun e=>by have:=at1 e;omega
   have l2:a.length≠2:=fun e=>by have:=at2 e;omega
   have e1:=in1 (by omega)
   have e2:=in2 (by omega)
   rw [e1,e2] at q
   refine⟨by omega,by omega,?_⟩
   rw [if_neg (by omega)]
 rw [if_neg c2] at h⊢
 by_cases c3:sz=4
 ·have hlo:=hlo (.inr (.inr c3))
  rw [if_pos c3] at h⊢
  split at h
  ·cases h
  ·rename_i q
   obtain rfl:k=4:=by injection h with h;exact h.symm
   have l1:a.length≠1:=fun e=>by have:=at1 e;omega
   have l2:a.length≠2:=fun e=>by have:=at2 e;omega
   have l3:a.length≠3:=fun e=>by have:=at3 e;omega
   have e1:=in1 (by omega)
   have e2:=in2 (by omega)
   have e3:=in3 (by omega)
   rw [e1,e2,e3] at q
   refine⟨by omega,by omega,?_⟩
   rw [if_neg (by omega)]
 ·rw [if_neg c3] at h
  cases h
theorem DI:∀(n:Nat) (a b:List UInt8),a.length≤n→Lib.validD (a++47::b)=true→Lib.validD a=true∧Lib.validD b=true
 | n,[],b,_,h=>⟨rfl,by rw [←Lib.validD_cons 47 b (by decide)];exact h⟩
 | 0,x::t,b,hn,h=>by simp at hn
 | n+1,x::t,b,hn,h=>by
   have hn':t.length≤n:=by simpa using hn
   by_cases hx:x.toNat<128
   ·rw [List.cons_append,Lib.validD_cons x _ hx] at h
    rw [Lib.validD_cons x t hx]
    exact DI n t b hn' h
   ·have h128:128≤(((x::t)++47::b).getD 0 0).toNat:=by show 128≤x.toNat;omega
    have h128':128≤((x::t).getD 0 0).toNat:=by show 128≤x.toNat;omega
    have hg:((x::t)++47::b).getD 0 0=(x::t).getD 0 0:=rfl
    rw [Lib.validD_lead _ (by simp) h128,hg] at h
    split at h
    ·cases h
    ·rename_i k hk
     obtain⟨hk1,hk2,hk3⟩:=XG (x::t) b (by simp) _ _ _ k (Zn _) hk
     rw [Zo _ _ _ hk1] at h
     have hl:((x::t).drop k).length≤n:=by rw [List.length_drop,List.length_cons];omega
     obtain⟨i1,i2⟩:=DI n ((x::t).drop k) b hl h
     refine⟨?_,i2⟩
     rw [Lib.validD_lead _ (by simp) h128',hk3]
     exact i1
theorem Zp (n b0 b1 b2 b3:Nat):(Lib.decodeN n b0 b1 b2 b3).1=0↔b0=0:=by
 unfold Lib.decodeN
 repeat' split
 all_goals first | (simp only [];omega) | (constructor<;>intro h<;>first | omega | (simp at h;omega))
theorem Zq (n b0 b1 b2 b3:Nat):1≤(Lib.decodeN n b0 b1 b2 b3).2∧(Lib.decodeN n b0 b1 b2 b3).2≤4∧(2≤(Lib.decodeN n b0 b1 b2 b3).2→128≤b1)∧(3≤(Lib.decodeN n b0 b1 b2 b3).2→128≤b2)∧(4≤(Lib.decodeN n b0 b1 b2 b3).2→128≤b3):=by
 unfold Lib.decodeN
 repeat' split
 all_goals (refine⟨?_,?_,?_,?_,?_⟩<;>simp only []<;>omega)
theorem Ja (s:ByteArray):∀(b pos:Nat),s.size≤pos+b→(kR s b pos=true↔∀j,pos≤j→j<s.size→(s.get! j).toNat≠0)
 | 0,pos,h=>by
   constructor
   ·intro _ j h1 h2
    omega
   ·intro _
    rfl
 | b+1,pos,h=>by
   unfold kR
   by_cases hp:pos<s.size
   ·rw [if_pos hp]
    have e:=Lib.decode_at s pos
    have hz:=Zp (s.size - pos) (s.get! pos).toNat (s.get! (pos+1)).toNat (s.get! (pos+2)).toNat (s.get! (pos+3)).toNat
    obtain⟨w1,w4,t1,t2,t3⟩:=Zq (s.size - pos) (s.get! pos).toNat (s.get! (pos+1)).toNat (s.get! (pos+2)).toNat (s.get! (pos+3)).toNat
    rw [←e] at hz w1 w4 t1 t2 t3
    by_cases h0:(Utf8.decode s pos).1=0
    ·rw [if_pos h0]
     constructor
     ·intro q
      cases q
     ·intro q
      exact absurd (hz.1 h0) (q pos (Nat.le_refl _) hp)
    ·rw [if_neg h0,Ja s b _ (by omega)]
     constructor
     ·intro q j h1 h2
      by_cases hj:pos+(Utf8.decode s pos).2≤j
      ·exact q j hj h2
      ·have:j=pos∨j=pos+1∨j=pos+2∨j=pos+3:=by omega
       rcases this with rfl | rfl | rfl | rfl
       ·exact fun hh=>h0 (hz.2 hh)
       ·have:=t1 (by omega);omega
       ·have:=t2 (by omega);omega
       ·have:=t3 (by omega);omega
     ·intro q j h1 h2
      exact q j (by omega) h2
   ·rw [if_neg hp]
    constructor
    ·intro _ j h1 h2
     omega
    ·intro _
     rfl
theorem tail_cons (y:List UInt8) (r:List (List UInt8)):Lib.joinTail [47] (y::r)=47::(y++Lib.joinTail [47] r):=by simp [Lib.joinTail]
theorem Jb:∀(t:List (List UInt8)) (x:List UInt8),Lib.validD (x++Lib.joinTail [47] t)=true→∀y∈x::t,Lib.validD y=true
 | [],x,h,y,hy=>by
   have:y=x:=by simpa using hy
   subst this
   simpa [Lib.joinTail] using h
 | z::t,x,h,y,hy=>by
   rw [tail_cons] at h
   obtain⟨h1,h2⟩:=DI _ x _ (Nat.le_refl _) h
   rcases List.mem_cons.1 hy with rfl | hy
   ·exact h1
   ·exact Jb t z h2 y hy
theorem Qm:∀(t:List (List UInt8)) (x:List UInt8) (b:UInt8),∀y∈x::t,b∈y→b∈x++Lib.joinTail [47] t
 | [],x,b,y,hy,hb=>by
   have:y=x:=by simpa using hy
   subst this
   simp [hb]
 | z::t,x,b,y,hy,hb=>by
   rw [tail_cons]
   rcases List.mem_cons.1 hy with rfl | hy
   ·simp [hb]
   ·have:=Qm t z b y hy hb
    simp only [List.mem_append,List.mem_cons] at this⊢
    exact .inr (.inr this)
theorem MJ:∀(t:List (List UInt8)) (x:List UInt8),∀y∈x::t,y.length≤(x++Lib.joinTail [47] t).length
 | [],x,y,hy=>by
   have:y=x:=by simpa using hy
   subst this
   simp
 | z::t,x,y,hy=>by
   rw [tail_cons]
   rcases List.mem_cons.1 hy with rfl | hy
   ·simp
   ·have:=MJ t z y hy
    simp only [List.length_append,List.length_cons] at this⊢
    omega
theorem Aw (s:ByteArray):fG s=true↔(0:UInt8)∉dl s∧Lib.validD (dl s)=true∧s.size≤60:=by
 unfold fG
 rw [Bool.and_eq_true,Bool.and_eq_true,decide_eq_true_eq,Ja s s.size 0 (by omega)]
 have e:(∀j,0≤j→j<s.size→(s.get! j).toNat≠0)↔(0:UInt8)∉dl s:=by
  have g:∀(j:Nat) (h:j<(dl s).length),s.get! j=(dl s)[j]:=by
   intro j h
   have h2:j<s.data.size:=by rw [lJ] at h;exact h
   show s.data[j]! =_
   rw [getElem!_pos s.data j h2]
   rfl
  constructor
  ·intro h m
   obtain⟨j,hj,e⟩:=List.mem_iff_getElem.1 m
   refine h j (Nat.zero_le _) (by rw [lJ] at hj;exact hj) ?_
   rw [g j hj,e]
   rfl
  ·intro h j _ hj hz
   have hj':j<(dl s).length:=by rw [lJ];exact hj
   rw [g j hj'] at hz
   refine h ?_
   have:(dl s)[j]=0:=UInt8.toNat_inj.1 hz
   rw [←this]
   exact List.getElem_mem hj'
 rw [e]
def dB (p:List ByteArray):ByteArray:=⟨(Lib.join (p.map dl) [47]).toArray⟩
theorem wR (p:List ByteArray):dl (dB p)=Lib.join (p.map dl) [47]:=rfl
theorem Jc (p:List ByteArray):(dB p).size=(Lib.join (p.map dl) [47]).length:=by rw [←lJ,wR]
theorem Qn (p:List ByteArray) (h:fG (dB p)=true):∀x∈p,fG x=true:=by
 intro x hx
 obtain⟨h1,h2,h3⟩:=(Aw _).1 h
 cases p with
 | nil=>cases hx
 | cons y t=>
   rw [wR,List.map_cons,Lib.join_cons] at h1 h2
   rw [Jc,List.map_cons,Lib.join_cons] at h3
   have hm:dl x∈dl y::t.map dl:=by rw [←List.map_cons];exact List.mem_map_of_mem hx
   refine(Aw x).2 ⟨fun m=>h1 (Qm _ _ 0 _ hm m),Jb _ _ h2 _ hm,?_⟩
   have:=MJ (t.map dl) (dl y) _ hm
   rw [lJ] at this
   omega
theorem XH (x:ByteArray):dB [x]=x:=by
 refine Go.WideShapes.bytes_inj ?_
 show dl (dB [x])=dl x
 rw [wR]
 exact Lib.join_one _ _
theorem Vu (p:List ByteArray) (hp:p≠[]) (x:ByteArray):dB (p++[x])=(dB p++(⟨#[47]⟩:ByteArray))++x:=by
 refine Go.WideShapes.bytes_inj ?_
 show dl (dB (p++[x]))=dl ((dB p++(⟨#[47]⟩:ByteArray))++x)
 have ap:∀a b:ByteArray,dl (a++b)=dl a++dl b:=fun a b=>by
  unfold dl
  rw [ByteArray.data_append,Array.toList_append]
 rw [ap,ap,wR,wR]
 cases p with
 | nil=>exact absurd rfl hp
 | cons y t=>
   rw [List.cons_append,List.map_cons,List.map_append,Lib.join_cons,show(y::t).map dl=dl y::t.map dl from rfl,Lib.join_cons]
   have e:∀l:List (List UInt8),Lib.joinTail [47] (l++[dl x])=Lib.joinTail [47] l++[47]++dl x:=fun l=>by simp [Lib.joinTail]
   show dl y++Lib.joinTail [47] (t.map dl++[dl x])=_
   rw [e]
   simp [List.append_assoc]
   rfl
theorem Zr (m:Nat):∀(p:List ByteArray),(∀x∈p,x.size≤m)→(dB p).size≤p.length*(m+1):=by
 intro p h
 rw [Jc]
 cases p with
 | nil=>simp [Lib.join_nil]
 | cons y t=>
   have aux:∀(t:List ByteArray),(∀x∈t,x.size≤m)→(Lib.joinTail [47] (t.map dl)).length≤t.length*(m+1):=by
    intro t
    induction t with
    | nil=>intro _;simp [Lib.joinTail]
    | cons z t ih=>
      intro h
      have h1:=h z List.mem_cons_self
      have h2:=ih (fun x hx=>h x (List.mem_cons_of_mem _ hx))
      rw [List.map_cons,tail_cons,List.length_cons,List.length_append,lJ,List.length_cons,Nat.succ_mul]
      omega
   have h1:=h y List.mem_cons_self
   have h2:=aux t (fun x hx=>h x (List.mem_cons_of_mem _ hx))
   rw [List.map_cons,Lib.join_cons,List.length_append,lJ,List.length_cons,Nat.succ_mul]
   omega
mutual
def cnt:NI→Nat
 | ⟨a,b,c⟩=>a.length+c.length+lg b
def lg:List NI→Nat
 | []=>0
 | k::r=>cnt k+lg r
end
theorem BF (n:NI):cnt n=n.f0.length+n.f2.length+lg n.f1:=by cases n;rw [cnt]
def nameP (s:ByteArray):Bool:=fG s && !(dl s).isEmpty
def lZ (x:SI):Bool:=nameP x.f0 && ((decide (0≤x.f1) && decide (x.f1≤2)) && decide (x.f2≥0))
def lK (x:ByteArray):Bool:=(cO x && !(dl x).contains 47) || (dl x).isEmpty
def ni:Option ByteArray→ByteArray→Bool
 | none,_=>true
 | some y,x=>Op.bytesLess y.toList x.toList
def xX:Option ByteArray→List SI→Bool
 | _,[]=>true
 | y,s::r=>lZ s && (ni y s.f0 && xX (some s.f0) r)
def sJ (l:List SI):Bool:=xX none l
def kY (x:ByteArray):Bool:=decide (x.toList=([35]:List UInt8))
mutual
def okS:Nat→NI→Bool
 | d,⟨ns,ks,ss⟩=>decide (ns.length=ks.length) && (!(decide (0<ns.length) && decide (d=6)) && (sJ ss && l7 d ns none ks))
def l7:Nat→List ByteArray→Option ByteArray→List NI→Bool
 | d,x::r,p,k::q=>lK x && (ni p x && (!(decide (k.f0.length=0) && decide (k.f2.length=0)) && (!(kY x && !decide (k.f0.length=0)) && (okS (d+1) k && l7 d r (some x) q))))
 | _,_,_,_=>true
end
theorem Jd (d:Nat) (n:NI):okS d n=(decide (n.f0.length=n.f1.length) && (!(decide (0<n.f0.length) && decide (d=6)) && (sJ n.f2 && l7 d n.f0 none n.f1))):=by
 cases n;rw [okS]
mutual
def zh:Nat→ByteArray→NI→Bool
 | d,a,⟨ns,ks,ss⟩=>!(decide (0<d) && (decide (0<ss.length) && !cO a)) && pG d a ns ks
def pG:Nat→ByteArray→List ByteArray→List NI→Bool
 | d,a,x::r,k::q=>zh (d+1) (if 0<d then (a++(⟨#[47]⟩:ByteArray))++x else x) k && pG d a r q
 | _,_,_,_=>true
end
theorem XI (d:Nat) (a:ByteArray) (n:NI):zh d a n=(!(decide (0<d) && (decide (0<n.f2.length) && !cO a)) && pG d a n.f0 n.f1):=by
 cases n;rw [zh]
theorem acK (s:ByteArray):(s.toList==([]:List UInt8))=(dl s).isEmpty:=by
 rw [Bool.eq_iff_iff,beq_iff_eq]
 exact uP s
def JC (x:ByteArray) (k:NI):Bool:=decide ((iZ (dl x)).length≤1) && jT (dl x) (decide (k.f1.length=0))
mutual
def okI:List ByteArray→NI→Bool
 | p,⟨ns,ks,ss⟩=>decide (ns.length=ks.length) && (decide (p.length≤6) && (sJ ss && ((decide (ss.length=0) || cO (dB p)) && lU p ns none ks)))
def lU:List ByteArray→List ByteArray→Option ByteArray→List NI→Bool
 | p,x::r,y,k::q=>ni y x && (JC x k && (!(decide (k.f1.length=0) && decide (k.f2.length=0)) && (okI (p++[x]) k && lU p r (some x) q)))
 | _,_,_,_=>true
end
theorem XJ (p:List ByteArray) (n:NI):okI p n=(decide (n.f0.length=n.f1.length) && (decide (p.length≤6) && (sJ n.f2 && ((decide (n.f2.length=0) || cO (dB p)) && lU p n.f0 none n.f1)))):=by
 cases n;rw [okI]
theorem Qo (d:Nat):∀(ns:List ByteArray) (pr:Option ByteArray) (ks:List NI),ns.length=ks.length→l7 d ns pr ks=true→∀k∈ks,okS (d+1) k=true
 | [],pr,[],_,_,k,hk=>by cases hk
 | [],pr,_::_,e,_,k,hk=>by simp at e
 | _::_,pr,[],e,_,k,hk=>by cases hk
 | x::r,pr,y::q,e,h,k,hk=>by
   rw [l7] at h
   simp only [Bool.and_eq_true] at h
   obtain⟨_,_,_,_,h1,h2⟩:=h
   rcases List.mem_cons.1 hk with rfl | hk
   ·exact h1
   ·exact Qo d r (some x) q (by simpa using e) h2 k hk
theorem tq {d:Nat} {n:NI} (h:okS d n=true):n.f0.length=n.f1.length∧(0<n.f0.length→d≠6)∧sJ n.f2=true∧l7 d n.f0 none n.f1=true:=by
 rw [Jd] at h
 simp only [Bool.and_eq_true,decide_eq_true_eq,Bool.not_eq_true',Bool.and_eq_false_iff,decide_eq_false_iff_not] at h
 obtain⟨h1,h2,h3,h4⟩:=h
 exact⟨h1,fun q=>by rcases h2 with h2 | h2<;>omega,h3,h4⟩
theorem sO {p:List ByteArray} {n:NI}:okI p n=true↔n.f0.length=n.f1.length∧p.length≤6∧sJ n.f2=true∧(n.f2.length=0∨cO (dB p)=true)∧lU p n.f0 none n.f1=true:=by
 rw [XJ]
 simp only [Bool.and_eq_true,decide_eq_true_eq,Bool.or_eq_true]
theorem MK (a b:Nat):((!(decide (a=0) && decide (b=0)))=true)↔(a≠0∨b≠0):=by
 by_cases h:a=0<;>by_cases k:b=0<;>simp [h,k]
theorem XK (c:Bool) (a:Nat):((!(c && !decide (a=0)))=true)↔(c=false∨a=0):=by
 cases c<;>by_cases h:a=0<;>simp [h]
theorem sN {p:List ByteArray} {x:ByteArray} {r:List ByteArray} {y:Option ByteArray} {k:NI} {q:List NI}:lU p (x::r) y (k::q)=true↔ni y x=true∧JC x k=true∧(k.f1.length≠0∨k.f2.length≠0)∧okI (p++[x]) k=true∧lU p r (some x) q=true:=by
 rw [lU,Bool.and_eq_true,Bool.and_eq_true,Bool.and_eq_true,Bool.and_eq_true,MK]
theorem XL {d:Nat} {x:ByteArray} {r:List ByteArray} {y:Option ByteArray} {k:NI} {q:List NI}:l7 d (x::r) y (k::q)=true↔lK x=true∧ni y x=true∧(k.f0.length≠0∨k.f2.length≠0)∧(kY x=false∨k.f0.length=0)∧okS (d+1) k=true∧l7 d r (some x) q=true:=by
 rw [l7,Bool.and_eq_true,Bool.and_eq_true,Bool.and_eq_true,Bool.and_eq_true,Bool.and_eq_true,MK,XK]
theorem acL {n:NI} (hn:Bd n):∀p:List ByteArray,okI p n=true→(n.f1.length≠0∨n.f2.length≠0)→∃ext,cO (dB (p++ext))=true:=by
 induction hn with
 | mk n h0 z0 h1 h2 z2 hk ih=>
   intro p h hne
   obtain⟨e1,e2,e3,e4,e5⟩:=sO.1 h
   by_cases c:n.f2.length=0
   ·have c1:n.f1.length≠0:=by omega
    cases hk0:n.f1 with
    | nil=>rw [hk0] at c1;simp at c1
    | cons k q=>
      cases hx0:n.f0 with
      | nil=>rw [hx0,hk0] at e1;simp at e1
      | cons x r=>
        rw [hx0,hk0] at e5
        obtain⟨_,_,f1,f2,_⟩:=sN.1 e5
        obtain⟨ext,he⟩:=ih k (by rw [hk0];exact List.mem_cons_self) (p++[x]) f2 f1
        exact⟨x::ext,by rw [List.append_assoc] at he;exact he⟩
   ·refine⟨[],?_⟩
    rw [List.append_nil]
    rcases e4 with e4 | e4
    ·exact absurd e4 c
    ·exact e4
theorem Zt (l:List UInt8):allL [l]=jT l true:=by
 rw [allL,allL,Bool.and_true]
 rfl
theorem Vw (l:List UInt8):(iZ l).length≤1↔(47:UInt8)∉l:=by
 constructor
 ·intro h
  obtain⟨a,r,e⟩:=rP l
  rw [e,List.length_cons] at h
  have:r=[]:=List.length_eq_zero_iff.1 (by omega)
  subst this
  have e2:=GI l
  rw [e,Lib.join_one] at e2
  rw [←e2]
  exact TD l a (by rw [e];exact List.mem_cons_self)
 ·intro h
  rw [GK l h]
  exact Nat.le_refl _
theorem XM {l:List UInt8} {b:Bool} (h:jT l b=true):jT l true=true:=by
 unfold jT at h⊢
 cases b
 ·simp only [Bool.and_false,Bool.or_false] at h
  rw [h,Bool.true_or]
 ·exact h
theorem filter_one {x:ByteArray} (h:(47:UInt8)∉dl x):cO x=(jT (dl x) true && fG x && !(dl x).isEmpty):=by
 unfold cO
 rw [GK _ h,Zt]
 simp
theorem TF (x:ByteArray):kY x=true↔dl x=[35]:=by
 unfold kY
 rw [decide_eq_true_eq,Lib.toList_data]
theorem level_hash {b:Bool} (h:jT [35] b=true):b=true:=by
 cases b
 ·exact absurd h (by decide)
 ·rfl
theorem Vx {l:List UInt8} (h:l≠[35]) (a b:Bool):jT l a=jT l b:=by
 unfold jT
 have:(l==[35])=false:=beq_eq_false_iff_ne.2 h
 rw [this,Bool.false_and,Bool.false_and]
theorem ML {p:List ByteArray} {x:ByteArray} {k:NI} (hb:Bd k) (he:k.f0.length=k.f1.length) (ht:fG x=true):JC x k=true↔lK x=true∧(kY x=false∨k.f0.length=0):=by
 unfold JC lK
 rw [Bool.and_eq_true,decide_eq_true_eq,Vw]
 constructor
 ·rintro⟨h1,h2⟩
  refine⟨?_,?_⟩
  ·rw [filter_one h1,XM h2,ht]
   have:(dl x).contains 47=false:=by
    rw [Bool.eq_false_iff]
    intro m
    exact h1 (List.contains_iff_mem.1 m)
   rw [this]
   cases (dl x).isEmpty<;>rfl
  ·by_cases q:kY x=true
   ·right
    rw [(TF x).1 q] at h2
    have:=level_hash h2
    rw [decide_eq_true_eq] at this
    omega
   ·exact .inl (Bool.eq_false_iff.2 q)
 ·rintro⟨h1,h2⟩
  rw [Bool.or_eq_true] at h1
  rcases h1 with h1 | h1
  ·rw [Bool.and_eq_true,Bool.not_eq_true'] at h1
   obtain⟨f1,f2⟩:=h1
   have n47:(47:UInt8)∉dl x:=fun m=>by
    rw [List.contains_iff_mem.2 m] at f2
    cases f2
   refine⟨n47,?_⟩
   rw [filter_one n47,Bool.and_eq_true,Bool.and_eq_true] at f1
   by_cases q:dl x=[35]
   ·rcases h2 with h2 | h2
    ·rw [(TF x).2 q] at h2;cases h2
    ·rw [show decide (k.f1.length=0)=true from decide_eq_true (by omega)]
     exact f1.1.1
   ·rw [Vx q _ true]
    exact f1.1.1
  ·rw [List.isEmpty_iff] at h1
   rw [h1]
   refine⟨by simp,?_⟩
   rfl
theorem Rj {x:ByteArray} (h:lK x=true):fG x=true:=by
 unfold lK at h
 rw [Bool.or_eq_true] at h
 rcases h with h | h
 ·rw [Bool.and_eq_true] at h
  have h:=h.1
  unfold cO at h
  rw [Bool.and_eq_true,Bool.and_eq_true,Bool.and_eq_true] at h
  exact h.1.1.2
 ·rw [List.isEmpty_iff] at h
  refine(Aw x).2 ⟨by rw [h];simp,by rw [h];rfl,?_⟩
  have:(dl x).length=0:=by rw [h];rfl
  rw [lJ] at this
  omega
theorem Rk {s:ByteArray} (h:cO s=true):fG s=true:=by
 unfold cO at h
 rw [Bool.and_eq_true,Bool.and_eq_true,Bool.and_eq_true] at h
 exact h.1.1.2
theorem BP (p:List ByteArray) (d:Nat) (hp:p.length=d) (x:ByteArray):(if 0<d then (dB p++(⟨#[47]⟩:ByteArray))++x else x)=dB (p++[x]):=by
 cases p with
 | nil=>
   rw [if_neg (by simp at hp;omega)]
   exact(XH x).symm
 | cons y t=>
   rw [if_pos (by simp at hp;omega),Vu _ (by simp)]
theorem Qp (p:List ByteArray) (d:Nat) (hp:p.length=d) (hd:d<6):∀(ns:List ByteArray) (ks:List NI) (y:Option ByteArray),ns.length=ks.length→(∀k∈ks,Bd k)→
  (∀k∈ks,∀x:ByteArray,(okI (p++[x]) k=true↔okS (d+1) k=true∧zh (d+1) (dB (p++[x])) k=true))→
  (lU p ns y ks=true↔l7 d ns y ks=true∧pG d (dB p) ns ks=true)
 | [],[],y,_,_,_=>by
   rw [lU,l7,pG]
   ·simp
   all_goals (intro x1 x2 x3 x4 e;cases e)
 | [],_::_,y,e,_,_=>by simp at e
 | _::_,[],y,e,_,_=>by simp at e
 | x::r,k::q,y,e,hb,ih=>by
   have ih2:=Qp p d hp hd r q (some x) (by simpa using e) (fun k hk=>hb k (List.mem_cons_of_mem _ hk)) (fun k hk=>ih k (List.mem_cons_of_mem _ hk))
   have hk:=hb k List.mem_cons_self
   have ihk:=ih k List.mem_cons_self x
   rw [sN,XL,pG,Bool.and_eq_true,BP p d hp x,ih2]
   constructor
   ·rintro⟨a1,a2,a3,a4,a5,a6⟩
    obtain⟨b1,b2⟩:=ihk.1 a4
    obtain⟨e1,_,_,_⟩:=tq b1
    obtain⟨ext,he⟩:=acL hk (p++[x]) a4 a3
    have ht:fG x=true:=Qn _ (Rk he) x (by simp)
    obtain⟨c1,c2⟩:=(ML (p:=p) hk e1 ht).1 a2
    exact⟨⟨c1,a1,by omega,c2,b1,a5⟩,b2,a6⟩
   ·rintro⟨⟨c1,a1,a3,c2,b1,a5⟩,b2,a6⟩
    obtain⟨e1,_,_,_⟩:=tq b1
    exact⟨a1,(ML (p:=p) hk e1 (Rj c1)).2 ⟨c1,c2⟩,by omega,ihk.2 ⟨b1,b2⟩,a5,a6⟩
theorem XO {n:NI} (hn:Bd n):∀(p:List ByteArray) (d:Nat),p.length=d→d≤6→(d=0→n.f2.length=0)→(okI p n=true↔okS d n=true∧zh d (dB p) n=true):=by
 induction hn with
 | mk n h0 z0 h1 h2 z2 hk ih=>
   intro p d hp hd h00
   have ihk:d<6→∀k∈n.f1,∀x:ByteArray,(okI (p++[x]) k=true↔okS (d+1) k=true∧zh (d+1) (dB (p++[x])) k=true):=fun hd2 k hk2 x=>
    ih k hk2 (p++[x]) (d+1) (by simp only [List.length_append,List.length_cons,List.length_nil];omega) (by omega) (fun z=>by omega)
   have tx:zh d (dB p) n=true↔(n.f2.length=0∨cO (dB p)=true)∧pG d (dB p) n.f0 n.f1=true:=by
    rw [XI,Bool.and_eq_true]
    simp only [Bool.not_eq_true',Bool.and_eq_false_iff,decide_eq_false_iff_not,Bool.not_eq_false']
    constructor
    ·rintro⟨a,b⟩
     refine⟨?_,b⟩
     rcases a with a | a | a
     ·exact .inl (h00 (by omega))
     ·exact .inl (by omega)
     ·exact .inr a
    ·rintro⟨a,b⟩
     refine⟨?_,b⟩
     rcases a with a | a
     ·exact .inr (.inl (by omega))
     ·exact .inr (.inr a)
   rw [sO,tx]
   constructor
   ·rintro⟨e1,e2,e3,e4,e5⟩
    by_cases c:n.f0.length=0
    ·have c0:n.f0=[]:=List.length_eq_zero_iff.1 c
     have c1:n.f1=[]:=List.length_eq_zero_iff.1 (by omega)
     refine⟨?_,e4,?_⟩
     ·rw [Jd,e3,c0,c1]
      rw [l7]
      ·simp
      ·intro x1 x2 x3 x4 e;cases e
     ·rw [c0,c1,pG]
      intro x1 x2 x3 x4 e;cases e
    ·have hd2:d<6:=by
      cases hx0:n.f0 with
      | nil=>rw [hx0] at c;simp at c
      | cons x r=>
        cases hk0:n.f1 with
        | nil=>rw [hx0,hk0] at e1;simp at e1
        | cons k q=>
          rw [hx0,hk0] at e5
          obtain⟨_,_,_,f2,_⟩:=sN.1 e5
          obtain⟨_,g2,_⟩:=sO.1 f2
          simp only [List.length_append,List.length_cons,List.length_nil] at g2
          omega
     obtain⟨a,b⟩:=(Qp p d hp hd2 n.f0 n.f1 none e1 hk (ihk hd2)).1 e5
     refine⟨?_,e4,b⟩
     rw [Jd,e3,a,decide_eq_true e1,show decide (d=6)=false from decide_eq_false (by omega),Bool.and_false]
     rfl
   ·rintro⟨h,e4,b⟩
    obtain⟨e1,e2,e3,a⟩:=tq h
    refine⟨e1,by omega,e3,e4,?_⟩
    by_cases c:n.f0.length=0
    ·have c0:n.f0=[]:=List.length_eq_zero_iff.1 c
     rw [c0,lU]
     intro x1 x2 x3 x4 e;cases e
    ·have hd2:d<6:=by have:=e2 (by omega);omega
     exact(Qp p d hp hd2 n.f0 n.f1 none e1 hk (ihk hd2)).2 ⟨a,b⟩
def gI (n:NI):Bool:=decide (n.f2.length=0) && okI [] n
mutual
def iU:List ByteArray→NI→List EI
 | p,⟨ns,ks,ss⟩=>ss.map (fun s=>⟨dB p,s.f0,s.f1,s.f2⟩)++fA p ns ks
def fA:List ByteArray→List ByteArray→List NI→List EI
 | p,x::r,k::q=>iU (p++[x]) k++fA p r q
 | _,[],_=>[]
 | _,_::_,[]=>[]
end
theorem aay (p:List ByteArray) (n:NI):iU p n=n.f2.map (fun s=>⟨dB p,s.f0,s.f1,s.f2⟩)++fA p n.f0 n.f1:=by cases n;rw [iU]
mutual
theorem TG:∀(p:List ByteArray) (n:NI),(iU p n).length≤cnt n
 | p,⟨ns,ks,ss⟩=>by
   rw [iU,cnt,List.length_append,List.length_map]
   have:=Qq p ns ks
   omega
theorem Qq:∀(p:List ByteArray) (ns:List ByteArray) (ks:List NI),(fA p ns ks).length≤lg ks
 | p,x::r,k::q=>by
   rw [fA,lg,List.length_append]
   have:=TG (p++[x]) k
   have:=Qq p r q
   omega
 | _,[],_=>by rw [fA];exact Nat.zero_le _
 | _,_::_,[]=>by rw [fA];exact Nat.zero_le _
end
theorem rU (p:List ByteArray) (hp:p.length≤7) (hz:∀x∈p,x.size≤1048576):(dB p).size≤1073741824:=by
 have h3:=Zr 1048576 p hz
 have h4:p.length*(1048576+1)≤7*(1048576+1):=Nat.mul_le_mul_right _ hp
 omega
def dZ (n:NI):List EI:=if gI n=true then iU [] n else []
theorem FU (n:NI):(dZ n).length≤cnt n:=by
 unfold dZ
 split
 ·exact TG [] n
 ·exact Nat.zero_le _
end Go.Proofs.YtcnfgfomholheaaGreatDoor.Q
end
section
namespace Go.Proofs.YtcnfgfomholheaaGreatDoor.Q
open Go.RowKit Go.Proofs.YtcnfgfomholheaaGreatDoor.Z
set_option linter.unusedVariables false
theorem Zu {r:List (T.Tb 9)} {j:Nat} {l:List V} (h:(r.map (T.enc 9))[j]? =some l):∃s:ByteArray,r[j]? =some s∧l=[.sc (.string s)]:=by
 rw [List.getElem?_map] at h
 obtain⟨s,hs,rfl⟩:=Option.map_eq_some_iff.1 h
 exact⟨s,hs,rfl⟩
theorem abh {r:List (T.Tb 9)} {j:Nat} {s:ByteArray} (h:r[j]? =some s):(r.map (T.enc 9))[j]? =some [.sc (.string s)]:=by
 rw [List.getElem?_map,h];rfl
open Go.Proofs.YtcnfgfomholheaaGreatDoorW.PrintWords in
theorem acM {w:World} {base:Nat} {v:Value} {r:List (T.Tb 9)} (h:Kd.R Kd.string 9 w base (fun _=>True) v r):Ow T.sz w (fun k=>base≤k∧k<w.heap.size) (.sl 9 (r.map (T.enc 9))) v:=by
 obtain⟨_,inner,ho,hr⟩:=h
 have hone:∀(j:Nat) (s:ByteArray),r[j]? =some s→inner[j]? =some (.string s):=fun j s hj=>by
  have h2:(inner.drop (j*1)).take 1=[.string s]:=hr.2 j s hj
  have h3:((inner.drop (j*1)).take 1)[0]? =some (.string s):=by rw [h2];rfl
  rw [List.getElem?_take_of_lt (by decide),List.getElem?_drop] at h3
  simpa using h3
 have hlen:(r.map (T.enc 9)).length=r.length:=List.length_map ..
 have hget:∀{j:Nat} {l:List V},(r.map (T.enc 9))[j]? =some l→∃s:ByteArray,r[j]? =some s∧l=[.sc (.string s)]:=fun h=>Zu h
 generalize r.map (T.enc 9)=xs at hlen hget
 have ho2:w.ownsRow 0 9 (T.sz 9) v xs.length inner:=by
  rw [hlen]
  exact G7 ho (Nat.zero_le _)
 refine Ez ho2 (fun j _=>inner.getD j undef) (fun _ _ _=>False) (fun j l hj=>?_) (fun j l q x hj hq=>?_) (fun _ _ _ h=>h.elim) (fun _ _ _ _ _ h=>h.elim) (fun g hg=>⟨own_base ho g hg,fP ho g hg⟩)
 ·obtain⟨s,_,rfl⟩:=hget hj
  rfl
 ·obtain⟨s,hs,rfl⟩:=hget hj
  have hq0:q=0:=by have:=(List.getElem?_eq_some_iff.1 hq).1;simp at this;exact this
  subst hq0
  have hx:x= .sc (.string s):=(Option.some.inj hq).symm
  subst hx
  have h1:=hone j s hs
  have e:j*T.sz 9+0=j:=Nat.mul_one j
  rw [e]
  refine⟨by rw [List.getD_eq_getElem?_getD,h1];rfl,?_⟩
  rw [List.getD_eq_getElem?_getD,h1]
  exact .sc _ _ rfl
open Go.Proofs.YtcnfgfomholheaaGreatDoorW.PrintWords in
theorem adF {w:World} {S:Nat→Prop} {v:Value} {l:List (T.Tb 9)} (h:Rd T.sz w S (.sl 9 (l.map (T.enc 9))) v) (hl:l.length≤9223372036854775807):∃A c,v= .slice A l.length c∧l.length≤c∧Kd.C Kd.string w A l.length l:=by
 have hlen:(l.map (T.enc 9)).length=l.length:=List.length_map ..
 have hat:∀{j:Nat} {s:ByteArray},l[j]? =some s→(l.map (T.enc 9))[j]? =some [.sc (.string s)]:=fun h=>abh h
 generalize l.map (T.enc 9)=xs at hlen hat h
 obtain⟨A,c,e,hc⟩:=h.slice
 rw [hlen] at e hc
 subst e
 refine⟨A,c,rfl,hc,rfl,hl,fun h0=>?_⟩
 have hj0:=hat (List.getElem?_eq_getElem h0)
 obtain⟨ad,c',e,_⟩:=h.elem hj0
 have eA:A=some ad:=(Value.slice.inj e).1
 subst eA
 refine⟨ad,rfl,fun j s hj=>⟨[.string s],rfl,rfl,fun i u hi=>?_⟩⟩
 have hi0:i=0:=by have:=(List.getElem?_eq_some_iff.1 hi).1;simp at this;exact this
 subst hi0
 have hu:u= .string s:=(Option.some.inj hi).symm
 subst hu
 obtain⟨ad',c'',e',_,_,_,_,hx⟩:=h.elem (hat hj)
 have:ad'=ad:=(Option.some.inj (Value.slice.inj e').1).symm
 subst this
 obtain⟨u,h1,h2⟩:=hx 0 (.sc (.string s)) rfl
 have e3:u= .string s:=by cases h2;rfl
 rw [e3] at h1
 exact h1
theorem vF {f:FuncId} {fn:Func} {c:Code} (hf:Tryz.prog.funcs[f]? =some fn) (hname:(fn.name== "runtime.NumGoroutine")=false) (hb:fn.body=some c) {s:ByteArray} {b:Bool}
  (h:∀w,Go.Proofs.YtcnfgfomholheaaGreatDoor.X.Tabs w→Calls Tryz.prog f #[.string s] w fun e w'=>e= .returned (.bool b)∧Below w.heap.size w w'):aC T Tryz.prog f [.c (.sc (.string s))] (.c (.sc (.bool b))):=by
 refine⟨⟨fn,hf,hname,by rw [hb];rfl⟩,fun w vs S hj ha=>?_⟩
 obtain⟨v,r,rfl,⟨rfl,_⟩,rfl⟩:=ha
 refine(h w hj).mono ?_
 rintro e w' ⟨rfl,hb⟩
 exact⟨.bool b,fun _ _=>False,rfl,hb,fun _ _ h=>h.elim,fun _ _ _ h=>h.elim,[.bool b],rfl,[],rfl,rfl,rfl⟩
theorem XP {f:FuncId} {fn:Func} {c:Code} (hf:Tryz.prog.funcs[f]? =some fn) (hname:(fn.name== "runtime.NumGoroutine")=false) (hb:fn.body=some c) {s t:Value} {b:Bool}
  (h:∀w,Go.Proofs.YtcnfgfomholheaaGreatDoor.X.Tabs w→Calls Tryz.prog f #[s,t] w fun e w'=>e= .returned (.bool b)∧Below w.heap.size w w'):aC T Tryz.prog f [.c (.sc s), .c (.sc t)] (.c (.sc (.bool b))):=by
 refine⟨⟨fn,hf,hname,by rw [hb];rfl⟩,fun w vs S hj ha=>?_⟩
 obtain⟨v,r,rfl,⟨rfl,_⟩,v2,r2,rfl,⟨rfl,_⟩,rfl⟩:=ha
 refine(h w hj).mono ?_
 rintro e w' ⟨rfl,hb⟩
 exact⟨.bool b,fun _ _=>False,rfl,hb,fun _ _ h=>h.elim,fun _ _ _ h=>h.elim,[.bool b],rfl,[],rfl,rfl,rfl⟩
theorem XQ {f:FuncId} {fn:Func} {c:Code} (hf:Tryz.prog.funcs[f]? =some fn) (hname:(fn.name== "runtime.NumGoroutine")=false) (hb:fn.body=some c) {s:ByteArray} {r:List (T.Tb 9)}
  (h:∀w,Go.Proofs.YtcnfgfomholheaaGreatDoor.X.Tabs w→Calls Tryz.prog f #[.string s] w fun e w'=>∃DJ:Value,e= .returned (DJ)∧Go.Proofs.YtcnfgfomholheaaGreatDoorW.PrintWords.Kd.R Go.Proofs.YtcnfgfomholheaaGreatDoorW.PrintWords.Kd.string 9 w' w.heap.size (fun _=>True) DJ r∧Below w.heap.size w w'):aC T Tryz.prog f [.c (.sc (.string s))] (.c (.ow 9 r)):=by
 refine⟨⟨fn,hf,hname,by rw [hb];rfl⟩,fun w vs S hj ha=>?_⟩
 obtain⟨v,q,rfl,⟨rfl,_⟩,rfl⟩:=ha
 refine(h w hj).mono ?_
 rintro e w' ⟨v,rfl,hr,hb⟩
 exact⟨v,fun i k=>i=0∧w.heap.size≤k∧k<w'.heap.size,rfl,hb,fun i k hk=>hk.2,fun i j k h1 h2=>h1.1.trans h2.1.symm,[v],rfl,v,[],rfl,(acM hr).mono (fun k hk=>⟨rfl,hk⟩),rfl⟩
theorem Vy (s:ByteArray) (hs:s.size≤140737488351232):aC T Tryz.prog 147 [.c (.sc (.string s))] (.c (.sc (.bool (X.fG s)))):=
 vF Tryz.func147 (by kernel_rfl) rfl (fun w hT=>X.eU.calls s _ w hT (Pure.tZ s hs))
theorem Vz (s:ByteArray):aC T Tryz.prog 177 [.c (.sc (.string s))] (.c (.sc (.bool (X.fG s)))):=by
 obtain⟨k,h⟩:=(Pure.uf s)
 exact vF Tryz.func177 (by kernel_rfl) rfl (fun w hT=>P.eX.calls _ s _ w (h k (Nat.le_refl _)))
theorem QM (s:ByteArray) (hs:s.size≤1073741824):aC T Tryz.prog 149 [.c (.sc (.string s))] (.c (.sc (.bool (Pure.nK s)))):=
 vF Tryz.func149 (by kernel_rfl) rfl (fun w hT=>P.nX.calls s _ w hT (Pure.KC s hs))
theorem QN (s:ByteArray) (hs:s.size≤1073741824):aC T Tryz.prog 181 [.c (.sc (.string s))] (.c (.sc (.bool (Pure.nK s)))):=by
 obtain⟨k,h⟩:=(Pure.KD s hs)
 exact vF Tryz.func181 (by kernel_rfl) rfl (fun w hT=>P.nY.calls _ s _ w (h k (Nat.le_refl _)))
theorem BO (s:ByteArray) (hs:s.size≤1073741824):aC T Tryz.prog 77 [.c (.sc (.string s))] (.c (.sc (.bool (Pure.cO s)))):=by
 obtain⟨k,h⟩:=(Pure.Je s hs)
 exact vF Tryz.func77 (by kernel_rfl) rfl (fun w hT=>P.dF.calls _ s _ w hT (h k (Nat.le_refl _)))
theorem vT (s:ByteArray) (hs:s.size≤1073741824):aC T Tryz.prog 106 [.c (.sc (.string s))] (.c (.sc (.bool (Pure.cO s)))):=by
 obtain⟨k,h⟩:=(Pure.Jf s hs)
 exact vF Tryz.func106 (by kernel_rfl) rfl (fun w hT=>P.aQ.calls _ s _ w (h k (Nat.le_refl _)))
abbrev um (s:ByteArray):List ByteArray:=X.pieces s Pure.stroke
theorem zA (s:ByteArray) (hs:s.size≤1073741824):aC T Tryz.prog 101 [.c (.sc (.string s))] (.c (.ow 9 (um s))):=
 XQ Tryz.func101 (by kernel_rfl) rfl (fun w hT=>P.fM.calls s _ w hT (Pure.ug s hs))
theorem Uk (s:ByteArray) (hs:s.size≤1073741824):aC T Tryz.prog 108 [.c (.sc (.string s))] (.c (.ow 9 (um s))):=by
 obtain⟨k,h⟩:=(Pure.uh s hs)
 exact XQ Tryz.func108 (by kernel_rfl) rfl (fun w hT=>P.bG.calls _ s _ w (h k (Nat.le_refl _)))
theorem FC (s:ByteArray) (b:Bool) (hs:s.size≤1073741824):aC T Tryz.prog 146 [.c (.sc (.string s)), .c (.sc (.bool b))] (.c (.sc (.bool (Pure.jT (Pure.dl s) b)))):=
 XP Tryz.func146 (by kernel_rfl) rfl (fun w hT=>P.jP.calls s b _ w (Pure.Jg s b hs))
theorem Zv (s:ByteArray) (hs:s.size≤1073741824):Go.Proofs.YtcnfgfomholheaaGreatDoorW.PrintWords.Ev (fun k=>P.aI.f k s 47) ((Pure.dl s).contains 47):=by
 unfold P.aI.f
 exact Pure.NK s 47 hs s.size 0 (by omega)
theorem XR (s:ByteArray) (hs:s.size≤1073741824):aC T Tryz.prog 176 [.c (.sc (.string s)), .c (.sc (.int .u8 47))] (.c (.sc (.bool ((Pure.dl s).contains 47)))):=by
 obtain⟨k,h⟩:=(Zv s hs)
 exact XP Tryz.func176 (by kernel_rfl) rfl (fun w hT=>(P.aI.calls _ s _ _ w (h k (Nat.le_refl _))).mono (fun e w' h=>⟨h.1,h.2.below⟩))
theorem Rl (p:List ByteArray) (h:p.length≤1048576) (hs:(dB p).size≤1073741824):P.tC.f p=some (dB p):=by
 unfold P.tC.f X.strings_Join.f
 have e:dB p=⟨(Lib.join (p.map (fun x=>x.data.toList)) [47]).toArray⟩:=rfl
 have hs2:(Lib.join (p.map (fun x=>x.data.toList)) [47]).length≤1073741824:=by rw [e] at hs;simpa [ByteArray.size] using hs
 rw [if_pos ⟨by omega,Nat.le_trans hs2 (by decide)⟩]
 rfl
theorem Oh (p:List ByteArray) (hp:p.length≤1048576) (hs:(dB p).size≤1073741824):aC T Tryz.prog 189 [.c (.sl 9 p)] (.c (.sc (.string (dB p)))):=by
 refine⟨⟨_,Tryz.func189,(by kernel_rfl),rfl⟩,fun w vs S hj ha=>?_⟩
 obtain⟨v,r,rfl,hv,rfl⟩:=ha
 obtain⟨A,c,rfl,hc,hC⟩:=adF hv (Nat.le_trans hp (by decide))
 refine(P.tC.calls A c p _ w hC hc (Rl p hp hs)).mono ?_
 rintro e w' ⟨rfl,hb⟩
 exact⟨.string (dB p),fun _ _=>False,rfl,hb,fun _ _ h=>h.elim,fun _ _ _ h=>h.elim,[.string (dB p)],rfl,[],rfl,rfl,rfl⟩
end Go.Proofs.YtcnfgfomholheaaGreatDoor.Q
end
section
namespace Go.Proofs.YtcnfgfomholheaaGreatDoor.Q
open Go.RowKit Go.Proofs.YtcnfgfomholheaaGreatDoor.Z Go.Proofs.YtcnfgfomholheaaGreatDoor.Pure
set_option linter.unusedVariables false
set_option linter.unusedSimpArgs false
set_option maxRecDepth 100000
set_option maxHeartbeats 4000000
abbrev zS:SS:=z44
abbrev zN:SN:=z31
abbrev acN (s:ByteArray):Slot T:= .c (.sc (.string s))
theorem zi (s:ByteArray):(s.toList==(⟨#[]⟩:ByteArray).toList)=(dl s).isEmpty:=by
 rw [show(⟨#[]⟩:ByteArray).toList=[] by simp [ByteArray.toList_eq]];exact acK s
theorem VA (s:ByteArray) (hs:s.size≤1073741824):aC T Tryz.prog 127 [.c (.sc (.string s))] (.c (.sc (.bool (nameP s)))):=by
 refine aH hT Tryz.func127 (by kernel_rfl) rfl rfl (fun A=>?_)
 conv=>whnf
 refine aA.mk _ (Vy s (Nat.le_trans hs (by decide))) ?_
 conv=>whnf
 refine Split.mk (fun c=>?_) (fun c=>?_)
 ·conv=>whnf
  exact aG.mk ⟨rfl,rfl⟩ ⟨rfl,rfl⟩ ⟨bv (by rw [zi];unfold nameP;rw [c];rfl),trivial⟩
 ·conv=>whnf
  exact aG.mk ⟨rfl,rfl⟩ ⟨rfl,rfl⟩ ⟨bv (by unfold nameP;rw [c];rfl),trivial⟩
theorem zD (a lo hi:Int):aC T Tryz.prog 161 [.c (.sc (.int .i64 a)), .c (.sc (.int .i64 lo)), .c (.sc (.int .i64 hi))] (.c (.sc (.bool (decide (lo≤a) && decide (a≤hi))))):=by
 refine aH hT Tryz.func161 (by kernel_rfl) rfl rfl (fun A=>?_)
 conv=>whnf
 refine Split.mk (fun c=>?_) (fun c=>?_)
 ·conv=>whnf
  exact aG.mk ⟨rfl,rfl⟩ ⟨rfl,rfl⟩ ⟨bv (by rw [show decide (lo≤a)=true from c];rfl),trivial⟩
 ·conv=>whnf
  exact aG.mk ⟨rfl,rfl⟩ ⟨rfl,rfl⟩ ⟨bv (by rw [show decide (lo≤a)=false from c];rfl),trivial⟩
theorem Hq (a lo hi:Int):aC T Tryz.prog 159 [.c (.sc (.int .i64 a)), .c (.sc (.int .i64 lo)), .c (.sc (.int .i64 hi))] (.c (.sc (.bool (decide (lo≤a) && decide (a≤hi))))):=by
 refine aH hT Tryz.func159 (by kernel_rfl) rfl rfl (fun A=>?_)
 conv=>whnf
 refine Split.mk (fun c=>?_) (fun c=>?_)
 ·conv=>whnf
  exact aG.mk ⟨rfl,rfl⟩ ⟨rfl,rfl⟩ ⟨bv (by rw [show decide (lo≤a)=true from c];rfl),trivial⟩
 ·conv=>whnf
  exact aG.mk ⟨rfl,rfl⟩ ⟨rfl,rfl⟩ ⟨bv (by rw [show decide (lo≤a)=false from c];rfl),trivial⟩
theorem Lp (a:Int):aC T Tryz.prog 128 [.c (.sc (.int .i64 a))] (.c (.sc (.bool (decide (0≤a) && decide (a≤2))))):=by
 refine aH hT Tryz.func128 (by kernel_rfl) rfl rfl (fun A=>?_)
 conv=>whnf
 refine aA.mk _ (zD a 0 2) ?_
 conv=>whnf
 exact aG.mk ⟨rfl,rfl⟩ ⟨rfl,rfl⟩ ⟨rfl,trivial⟩
theorem XT (x:SS) (hs:x.f0.size≤1073741824):aC T Tryz.prog 111 [.ag (T.cells eS x)] (.c (.sc (.bool (lZ x)))):=by
 refine aH hT Tryz.func111 (by kernel_rfl) rfl rfl (fun A=>?_)
 conv=>whnf
 refine aA.mk _ (VA x.f0 hs) ?_
 conv=>whnf
 refine Split.mk (fun c=>?_) (fun c=>?_)
 ·conv=>whnf
  refine aA.mk _ (Lp x.f1) ?_
  conv=>whnf
  refine Split.mk (fun d=>?_) (fun d=>?_)
  ·conv=>whnf
   exact aG.mk ⟨rfl,rfl⟩ ⟨rfl,rfl⟩ ⟨bv (by unfold lZ;rw [c,d];rfl),trivial⟩
  ·conv=>whnf
   exact aG.mk ⟨rfl,rfl⟩ ⟨rfl,rfl⟩ ⟨bv (by unfold lZ;rw [c,d];rfl),trivial⟩
 ·conv=>whnf
  refine Split.mk (fun d=>jy d) (fun d=>?_)
  conv=>whnf
  exact aG.mk ⟨rfl,rfl⟩ ⟨rfl,rfl⟩ ⟨bv (by unfold lZ;rw [c];rfl),trivial⟩
theorem XU (x:SS):aC T Tryz.prog 109 [.ag (T.cells eS x)] (.c (.sc (.bool (lZ x)))):=by
 refine aH hT Tryz.func109 (by kernel_rfl) rfl rfl (fun A=>?_)
 conv=>whnf
 refine aA.mk _ (Vz x.f0) ?_
 conv=>whnf
 refine Split.mk (fun c=>?_) (fun c=>?_)
 ·conv=>whnf
  refine Split.mk (fun d=>?_) (fun d=>?_)
  ·conv=>whnf
   refine aA.mk _ (Hq x.f1 0 2) ?_
   conv=>whnf
   refine Split.mk (fun e=>?_) (fun e=>?_)
   ·conv=>whnf
    exact aG.mk ⟨rfl,rfl⟩ ⟨rfl,rfl⟩ ⟨bv (by rw [zi] at d;unfold lZ nameP;rw [c,d,e];rfl),trivial⟩
   ·conv=>whnf
    exact aG.mk ⟨rfl,rfl⟩ ⟨rfl,rfl⟩ ⟨bv (by rw [zi] at d;unfold lZ nameP;rw [c,d,e];rfl),trivial⟩
  ·conv=>whnf
   refine Split.mk (fun e=>jy e) (fun e=>?_)
   conv=>whnf
   exact aG.mk ⟨rfl,rfl⟩ ⟨rfl,rfl⟩ ⟨bv (by rw [zi] at d;unfold lZ nameP;rw [c,d];rfl),trivial⟩
 ·conv=>whnf
  repeat (refine Split.mk (fun e=>jy e) (fun e=>?_);conv=>whnf)
  exact aG.mk ⟨rfl,rfl⟩ ⟨rfl,rfl⟩ ⟨bv (by unfold lZ nameP;rw [c];rfl),trivial⟩
theorem XV (x:ByteArray) (hs:x.size≤1073741824):aC T Tryz.prog 192 [.c (.sc (.string x))] (.c (.sc (.bool (lK x)))):=by
 refine aH hT Tryz.func192 (by kernel_rfl) rfl rfl (fun A=>?_)
 conv=>whnf
 refine aA.mk _ (vT x hs) ?_
 conv=>whnf
 refine Split.mk (fun c=>?_) (fun c=>?_)
 ·conv=>whnf
  refine aA.mk _ (XR x hs) ?_
  conv=>whnf
  refine Split.mk (fun d=>?_) (fun d=>?_)
  ·conv=>whnf
   exact aG.mk ⟨rfl,rfl⟩ ⟨rfl,rfl⟩ ⟨bv (by unfold lK;rw [c,d];rfl),trivial⟩
  ·conv=>whnf
   exact aG.mk ⟨rfl,rfl⟩ ⟨rfl,rfl⟩ ⟨bv (by rw [zi];unfold lK;rw [c,d];rfl),trivial⟩
 ·conv=>whnf
  refine Split.mk (fun d=>jy d) (fun d=>?_)
  conv=>whnf
  exact aG.mk ⟨rfl,rfl⟩ ⟨rfl,rfl⟩ ⟨bv (by rw [zi];unfold lK;rw [c];rfl),trivial⟩
def jl (l:List ByteArray) (i:Nat):Option ByteArray:=if i=0 then none else l[i - 1]?
theorem yH {l:List ByteArray} {i:Nat} (h:i<l.length):jl l (i+1)=some (l.getD i ByteArray.empty):=by
 unfold jl;rw [if_neg (by omega)];simp [h]
def nm (l:List SS):List ByteArray:=l.map (fun s=>s.f0)
theorem Jh {l:List SS} {i:Nat} (h:i<l.length):xX (jl (nm l) i) (l.drop i)=(lZ (l.getD i zS) && (ni (jl (nm l) i) (l.getD i zS).f0 && xX (jl (nm l) (i+1)) (l.drop (i+1)))):=by
 have e:l.getD i zS=l[i]:=by simp [h]
 rw [List.drop_eq_getElem_cons h,xX,e,yH (by simpa [nm] using h)]
 simp [nm,h]
theorem MN {l:List SS} {p:Option ByteArray}:xX p (l.drop l.length)=true:=by rw [List.drop_length];cases p<;>rfl
theorem Ji {l:List ByteArray} {x:ByteArray}:ni (jl l 0) x=true:=rfl
theorem TJ {l:List SS} {i:Nat} (h0:0<i) (h:i<l.length) {x:ByteArray}:ni (jl (nm l) i) x=Op.bytesLess (l.getD (i - 1) zS).f0.toList x.toList:=by
 unfold jl
 rw [if_neg (by omega)]
 have h1:i - 1<l.length:=by omega
 simp [nm,h1,ni]
theorem Eb {i:Nat} (h0:0<i) (hi:i≤140737488351232):wrap64 ((i:Int) - 1)=((i - 1:Nat):Int):=by simp only [wrap64];omega
theorem jo {i:Nat} (c:decide ((i:Int)>0)=true):0<i:=by simp at c;omega
theorem jq {i:Nat} (c:decide ((i:Int)>0)=false):i=0:=by simp at c;omega
theorem VB (l:List SS) (hl:l.length≤2097152) (hs:∀x∈l,x.f0.size≤1073741824):aC T Tryz.prog 190 [.c (.sl eS l)] (.c (.sc (.bool (sJ l)))):=by
 refine aH hT Tryz.func190 (by kernel_rfl) rfl rfl (fun A=>?_)
 generalize hR:sJ l=R
 conv=>whnf
 refine dJ.mk {i:Nat // i≤l.length∧xX (jl (nm l) i) (l.drop i)=R} (fun p=>(0,[(7,i64 p.1),(6,i64 l.length),(5,im eS l),(0,im eS l)],[])) (fun p=>l.length - p.1) ⟨0,Nat.zero_le _,hR⟩ (ay [] rfl rfl rfl ⟨⟨rfl,rfl⟩,⟨rfl,rfl⟩,⟨rfl,rfl⟩,⟨rfl,rfl⟩,trivial⟩ trivial) ?_
 rintro⟨i,hi,hR⟩
 conv=>whnf
 refine Split.mk (fun c=>?_) (fun c=>?_)
 ·have hk2:i<l.length:=gB c
  clear c
  rw [Jh hk2] at hR
  conv=>whnf
  refine Need.mk (idx hk2) ?_
  conv=>whnf
  refine aA.mk _ (XT _ (hs _ (getD_mem hk2))) ?_
  conv=>whnf
  refine Split.mk (fun c=>?_) (fun c=>?_)
  ·have c1:lZ (l.getD i zS)=false:=dh c
   conv=>whnf
   refine aZ.mk ⟨by kernel_rfl,by kernel_rfl⟩ ?_
   conv=>whnf
   refine Split.mk (fun _=>?_) (fun e=>jf e)
   conv=>whnf
   exact aG.mk ⟨rfl,rfl⟩ ⟨rfl,rfl⟩ ⟨bv (by rw [←hR,c1];rfl),trivial⟩
  ·have c1:lZ (l.getD i zS)=true:=dA c
   rw [c1,Bool.true_and] at hR
   clear c
   conv=>whnf
   refine Split.mk (fun c=>?_) (fun c=>?_)
   ·have h0:0<i:=jo c
    rw [TJ h0 hk2] at hR
    have hpr:=Eb h0 (by omega)
    have hpt:(wrap64 ((i:Int) - 1)).toNat=i - 1:=by rw [hpr];rfl
    clear c
    conv=>whnf
    refine Need.mk (by rw [hpr];exact idx (show i - 1<l.length by omega)) ?_
    conv=>whnf
    refine aZ.mk ⟨by kernel_rfl,by kernel_rfl⟩ ?_
    conv=>whnf
    refine Split.mk (fun c=>?_) (fun c=>?_)
    ·have c2:Op.bytesLess (l.getD (i - 1) zS).f0.toList (l.getD i zS).f0.toList=false:=(congrArg (fun j=>Op.bytesLess (l.getD j zS).f0.toList (l.getD i zS).f0.toList) hpt.symm).trans (dh c)
     conv=>whnf
     exact aG.mk ⟨rfl,rfl⟩ ⟨rfl,rfl⟩ ⟨bv (by rw [←hR,c2];rfl),trivial⟩
    ·have c2:Op.bytesLess (l.getD (i - 1) zS).f0.toList (l.getD i zS).f0.toList=true:=(congrArg (fun j=>Op.bytesLess (l.getD j zS).f0.toList (l.getD i zS).f0.toList) hpt.symm).trans (dA c)
     rw [c2,Bool.true_and] at hR
     conv=>whnf
     exact bn.mk ⟨⟨i+1,hk2,hR⟩,Nat.sub_lt_sub_left hk2 (Nat.lt_succ_self i),ay [] rfl rfl rfl ⟨⟨rfl,congrArg i64 (dK hk2 (by omega))⟩,⟨rfl,rfl⟩,⟨rfl,rfl⟩,⟨rfl,rfl⟩,trivial⟩ trivial⟩
   ·have h0:i=0:=jq c
    subst h0
    rw [Ji,Bool.true_and] at hR
    clear c
    conv=>whnf
    refine aZ.mk ⟨by kernel_rfl,by kernel_rfl⟩ ?_
    conv=>whnf
    refine Split.mk (fun e=>jy e) (fun _=>?_)
    conv=>whnf
    exact bn.mk ⟨⟨0+1,hk2,hR⟩,Nat.sub_lt_sub_left hk2 (Nat.lt_succ_self 0),ay [] rfl rfl rfl ⟨⟨rfl,congrArg i64 (dK hk2 (by omega))⟩,⟨rfl,rfl⟩,⟨rfl,rfl⟩,⟨rfl,rfl⟩,trivial⟩ trivial⟩
 ·have hk2:i=l.length:=Nat.le_antisymm hi (gG c)
  subst hk2
  conv=>whnf
  exact aG.mk ⟨rfl,rfl⟩ ⟨rfl,rfl⟩ ⟨bv (hR.symm.trans MN),trivial⟩
end Go.Proofs.YtcnfgfomholheaaGreatDoor.Q
end
section
namespace Go.Proofs.YtcnfgfomholheaaGreatDoor.Q
open Go.RowKit Go.Proofs.YtcnfgfomholheaaGreatDoor.Z Go.Proofs.YtcnfgfomholheaaGreatDoor.Pure
set_option linter.unusedVariables false
set_option linter.unusedSimpArgs false
set_option maxRecDepth 100000
set_option maxHeartbeats 4000000
abbrev uj (n:SN):dG T:= .bx eN ((T.cells eN n).map (toCell none))
theorem yI {a:Nat} (c:((a:Int)==0)=true):a=0:=by simp at c;omega
theorem yJ {a:Nat} (c:((a:Int)==0)=false):a≠0:=by simp at c;omega
section
variable {a b:Nat} {x:ByteArray} {r R q:Bool}
theorem dV (h:q=true) (hR:(q && r)=R):r=R:=by rw [h,Bool.true_and] at hR;exact hR
theorem fD (h:q=false) (hR:(q && r)=R):R=false:=by rw [h,Bool.false_and] at hR;exact hR.symm
theorem no1 {c:Bool} (h:a≠0) (hR:(!(decide (a=0) && c) && r)=R):r=R:=dV (by simp [h]) hR
theorem no2 (h:a=0) (h2:b≠0) (hR:(!(decide (a=0) && decide (b=0)) && r)=R):r=R:=dV (by simp [h,h2]) hR
theorem no3 (h:a=0) (h2:b=0) (hR:(!(decide (a=0) && decide (b=0)) && r)=R):R=false:=fD (by simp [h,h2]) hR
theorem ha1 (h:kY x=true) (h2:a≠0) (hR:(!(kY x && !decide (a=0)) && r)=R):R=false:=fD (by simp [h,h2]) hR
theorem ha2 (h2:a=0) (hR:(!(kY x && !decide (a=0)) && r)=R):r=R:=dV (by simp [h2]) hR
theorem ha3 (h:kY x=false) (hR:(!(kY x && !decide (a=0)) && r)=R):r=R:=dV (by simp [h]) hR
end
theorem Jj {x:ByteArray} (c:(x.toList==(⟨#[35]⟩:ByteArray).toList)=true):kY x=true:=by
 rw [show(⟨#[35]⟩:ByteArray).toList=[35] by simp [ByteArray.toList_eq]] at c
 unfold kY;simpa using c
theorem Jk {x:ByteArray} (c:(x.toList==(⟨#[35]⟩:ByteArray).toList)=false):kY x=false:=by
 rw [show(⟨#[35]⟩:ByteArray).toList=[35] by simp [ByteArray.toList_eq]] at c
 unfold kY;simpa using c
theorem XW {l:List ByteArray} {i:Nat} (h0:0<i) (h:i<l.length) {x:ByteArray}:ni (jl l i) x=Op.bytesLess (l.getD (i - 1) ByteArray.empty).toList x.toList:=by
 unfold jl
 rw [if_neg (by omega)]
 have h1:i - 1<l.length:=by omega
 simp [h1,ni]
theorem XY {d i:Nat} {ns:List ByteArray} {ks:List SN} (h:i<ns.length) (h2:i<ks.length):l7 d (ns.drop i) (jl ns i) (ks.drop i)=(lK (ns.getD i ByteArray.empty) && (ni (jl ns i) (ns.getD i ByteArray.empty) && (!(decide ((ks.getD i zN).f0.length=0) && decide ((ks.getD i zN).f2.length=0)) && (!(kY (ns.getD i ByteArray.empty) && !decide ((ks.getD i zN).f0.length=0)) && (okS (d+1) (ks.getD i zN) && l7 d (ns.drop (i+1)) (jl ns (i+1)) (ks.drop (i+1))))))):=by
 have e:ns.getD i ByteArray.empty=ns[i]:=by simp [h]
 have e2:ks.getD i zN=ks[i]:=by simp [h2]
 rw [List.drop_eq_getElem_cons h,List.drop_eq_getElem_cons h2,l7,e,e2,yH h,e]
theorem Zw {d:Nat} {ns:List ByteArray} {ks:List SN} {p:Option ByteArray}:l7 d (ns.drop ns.length) p ks=true:=by
 rw [List.drop_length];cases ks<;>rw [l7]<;>(intro x1 x2 x3 x4 e;cases e)
theorem d1_ {d:Nat} (h:d≤1000):((d+1:Nat):Int)=wrap64 ((d:Int)+1):=by simp only [wrap64];omega
theorem XZ (n:SN) (d:Nat) (hn:Bd n) (hd:d≤6) (ih:d<6→∀k∈n.f1,aC T Tryz.prog 144 [.ag (T.cells eN k), .c (.sc (.int .i64 ((d+1:Nat):Int)))] (.c (.sc (.bool (okS (d+1) k))))):aC T Tryz.prog 144 [.ag (T.cells eN n), .c (.sc (.int .i64 (d:Int)))] (.c (.sc (.bool (okS d n)))):=by
 refine kM hT Tryz.func144 (by kernel_rfl) rfl rfl (fun A=>?_)
 have hR:=Jd d n
 generalize okS d n=R at hR⊢
 refine Vc.seq 0 hT ?_
 conv=>whnf
 refine Vc.cut (α:=Unit) 2 (fun _=>n.f0.length=n.f1.length∧(n.f0.length=0∨d<6)) (fun _=>[(2, .c (.px 0 0)),(1,i64 d)]) (fun _=>[(0,uj n)]) hT ?_ (fun _ ⟨hl,h6⟩=>?_)
 ·conv=>whnf
  refine Split.mk (fun c=>?_) (fun c=>?_)
  ·have h1:¬n.f0.length=n.f1.length:=Gm c
   rw [decide_eq_false h1,Bool.false_and] at hR
   conv=>whnf
   refine Split.mk (fun _=>?_) (fun e=>jf e)
   conv=>whnf
   exact aG.mk ⟨rfl,rfl⟩ ⟨rfl,rfl⟩ ⟨bv (hR),trivial⟩
  ·have h1:n.f0.length=n.f1.length:=Gl c
   clear c
   conv=>whnf
   refine Split.mk (fun c=>?_) (fun c=>?_)
   ·have h2:0<n.f0.length:=jo c
    clear c
    conv=>whnf
    refine Split.mk (fun c=>?_) (fun c=>?_)
    ·have h3:d=6:=by have:=aej c;omega
     rw [decide_eq_true h1,decide_eq_true h2,decide_eq_true h3] at hR
     conv=>whnf
     exact aG.mk ⟨rfl,rfl⟩ ⟨rfl,rfl⟩ ⟨bv (hR),trivial⟩
    ·have h3:¬d=6:=by have:=aek c;omega
     conv=>whnf
     exact kJ.mk ⟨(),⟨h1, .inr (by omega)⟩,ay [(0,0)] rfl rfl rfl ⟨⟨rfl,rfl⟩,⟨rfl,rfl⟩,trivial⟩ ⟨⟨rfl,rfl⟩,trivial⟩⟩
   ·have h2:n.f0.length=0:=jq c
    clear c
    conv=>whnf
    refine Split.mk (fun e=>jy e) (fun _=>?_)
    conv=>whnf
    exact kJ.mk ⟨(),⟨h1, .inl h2⟩,ay [(0,0)] rfl rfl rfl ⟨⟨rfl,rfl⟩,⟨rfl,rfl⟩,trivial⟩ ⟨⟨rfl,rfl⟩,trivial⟩⟩
 refine Vc.of 1 hT ?_
 conv=>whnf
 have hb:(!(decide (0<n.f0.length) && decide (d=6)))=true:=by
  rcases h6 with h | h
  ·rw [decide_eq_false (by omega)];rfl
  ·rw [decide_eq_false (p:=d=6) (by omega),Bool.and_false];rfl
 rw [decide_eq_true hl,Bool.true_and,hb,Bool.true_and] at hR
 replace hR:=hR.symm
 clear hb
 conv=>whnf
 refine dJ.mk {i:Nat // i≤n.f2.length∧(xX (jl (nm n.f2) i) (n.f2.drop i) && l7 d n.f0 none n.f1)=R} (fun p=>(1,[(5,i64 p.1),(2, .c (.px 0 0)),(1,i64 d)],[(0,uj n)])) (fun p=>n.f2.length - p.1) ⟨0,Nat.zero_le _,hR⟩ (ay [(0,0)] rfl rfl rfl ⟨⟨rfl,rfl⟩,⟨rfl,rfl⟩,⟨rfl,rfl⟩,trivial⟩ ⟨⟨rfl,rfl⟩,trivial⟩) ?_
 clear hR
 rintro⟨i,hi,hR⟩
 conv=>whnf
 refine Split.mk (fun c=>?_) (fun c=>?_)
 ·have hk2:i<n.f2.length:=gB c
  clear c
  rw [Jh hk2,Bool.and_assoc,Bool.and_assoc] at hR
  conv=>whnf
  refine Need.mk (idx hk2) ?_
  conv=>whnf
  refine aA.mk _ (XU _) ?_
  conv=>whnf
  refine Split.mk (fun c=>?_) (fun c=>?_)
  ·have c1:lZ (n.f2.getD i zS)=false:=dh c
   clear c
   conv=>whnf
   refine aZ.mk ⟨by kernel_rfl,by kernel_rfl⟩ ?_
   conv=>whnf
   refine Split.mk (fun _=>?_) (fun e=>jf e)
   conv=>whnf
   exact aG.mk ⟨rfl,rfl⟩ ⟨rfl,rfl⟩ ⟨bv (fD c1 hR),trivial⟩
  ·have c1:lZ (n.f2.getD i zS)=true:=dA c
   clear c
   replace hR:=dV c1 hR
   conv=>whnf
   refine Split.mk (fun c=>?_) (fun c=>?_)
   ·have h0:0<i:=jo c
    clear c
    have hl2:=hn.l2
    rw [TJ h0 hk2] at hR
    have hpr:=Eb h0 (by omega)
    have hpt:(wrap64 ((i:Int) - 1)).toNat=i - 1:=by rw [hpr];rfl
    conv=>whnf
    refine Need.mk (by rw [hpr];exact idx (show i - 1<n.f2.length by omega)) ?_
    conv=>whnf
    refine Need.mk (idx hk2) ?_
    conv=>whnf
    refine aZ.mk ⟨by kernel_rfl,by kernel_rfl⟩ ?_
    conv=>whnf
    refine Split.mk (fun c=>?_) (fun c=>?_)
    ·have c2:Op.bytesLess (n.f2.getD (i - 1) zS).f0.toList (n.f2.getD i zS).f0.toList=false:=(congrArg (fun j=>Op.bytesLess (n.f2.getD j zS).f0.toList (n.f2.getD i zS).f0.toList) hpt.symm).trans (dh c)
     conv=>whnf
     exact aG.mk ⟨rfl,rfl⟩ ⟨rfl,rfl⟩ ⟨bv (fD c2 hR),trivial⟩
    ·have c2:Op.bytesLess (n.f2.getD (i - 1) zS).f0.toList (n.f2.getD i zS).f0.toList=true:=(congrArg (fun j=>Op.bytesLess (n.f2.getD j zS).f0.toList (n.f2.getD i zS).f0.toList) hpt.symm).trans (dA c)
     replace hR:=dV c2 hR
     conv=>whnf
     exact bn.mk ⟨⟨i+1,hk2,hR⟩,Nat.sub_lt_sub_left hk2 (Nat.lt_succ_self i),ay [(0,0)] rfl rfl rfl ⟨⟨rfl,congrArg i64 (dK hk2 (Nat.le_trans hn.l2 (by decide)))⟩,⟨rfl,rfl⟩,⟨rfl,rfl⟩,trivial⟩ ⟨⟨rfl,rfl⟩,trivial⟩⟩
   ·have h0:i=0:=jq c
    clear c
    subst h0
    rw [Ji,Bool.true_and] at hR
    conv=>whnf
    refine aZ.mk ⟨by kernel_rfl,by kernel_rfl⟩ ?_
    conv=>whnf
    refine Split.mk (fun e=>jy e) (fun _=>?_)
    conv=>whnf
    exact bn.mk ⟨⟨0+1,hk2,hR⟩,Nat.sub_lt_sub_left hk2 (Nat.lt_succ_self 0),ay [(0,0)] rfl rfl rfl ⟨⟨rfl,congrArg i64 (dK hk2 (Nat.le_trans hn.l2 (by decide)))⟩,⟨rfl,rfl⟩,⟨rfl,rfl⟩,trivial⟩ ⟨⟨rfl,rfl⟩,trivial⟩⟩
 ·have hk2:i=n.f2.length:=Nat.le_antisymm hi (gG c)
  subst hk2
  rw [MN,Bool.true_and] at hR
  clear c
  conv=>whnf
  refine dJ.mk {i:Nat // i≤n.f0.length∧l7 d (n.f0.drop i) (jl n.f0 i) (n.f1.drop i)=R} (fun p=>(1,[(6,i64 p.1),(2, .c (.px 0 0)),(1,i64 d)],[(0,uj n)])) (fun p=>n.f0.length - p.1) ⟨0,Nat.zero_le _,hR⟩ (ay [(0,0)] rfl rfl rfl ⟨⟨rfl,rfl⟩,⟨rfl,rfl⟩,⟨rfl,rfl⟩,trivial⟩ ⟨⟨rfl,rfl⟩,trivial⟩) ?_
  clear hR
  rintro⟨i,hi,hR⟩
  conv=>whnf
  refine Split.mk (fun c=>?_) (fun c=>?_)
  ·have hk2:i<n.f0.length:=gB c
   clear c
   have hk3:i<n.f1.length:=hl▸hk2
   have hd6:d<6:=by omega
   have ihk:=ih hd6 _ (getD_mem (d:=zN) hk3)
   rw [d1_ (by omega)] at ihk
   rw [XY hk2 hk3] at hR
   have hx:=hn.z0 _ (getD_mem (d:=ByteArray.empty) hk2)
   conv=>whnf
   refine Need.mk (idx hk3) ?_
   conv=>whnf
   refine Need.mk (idx hk2) ?_
   conv=>whnf
   refine aA.mk _ (XV _ (Nat.le_trans hx (by decide))) ?_
   conv=>whnf
   refine Split.mk (fun c=>?_) (fun c=>?_)
   ·have c1:lK (n.f0.getD i ByteArray.empty)=false:=dh c
    clear c
    conv=>whnf
    refine Split.mk (fun _=>?_) (fun e=>jf e)
    conv=>whnf
    refine Split.mk (fun _=>?_) (fun e=>jf e)
    conv=>whnf
    refine Split.mk (fun _=>?_) (fun e=>jf e)
    conv=>whnf
    refine aZ.mk ⟨by kernel_rfl,by kernel_rfl⟩ ?_
    conv=>whnf
    refine Split.mk (fun _=>?_) (fun e=>jf e)
    conv=>whnf
    exact aG.mk ⟨rfl,rfl⟩ ⟨rfl,rfl⟩ ⟨bv (fD c1 hR),trivial⟩
   ·have c1:lK (n.f0.getD i ByteArray.empty)=true:=dA c
    clear c
    replace hR:=dV c1 hR
    conv=>whnf
    refine Split.mk (fun c=>?_) (fun c=>?_)
    ·have h0:0<i:=jo c
     clear c
     have hl0:=hn.l0
     rw [XW h0 hk2] at hR
     have hpr:=Eb h0 (by omega)
     have hpt:(wrap64 ((i:Int) - 1)).toNat=i - 1:=by rw [hpr];rfl
     conv=>whnf
     refine Need.mk (by rw [hpr];exact idx (show i - 1<n.f0.length by omega)) ?_
     conv=>whnf
     refine Need.mk (idx hk2) ?_
     conv=>whnf
     refine Split.mk (fun c=>?_) (fun c=>?_)
     ·have c2:Op.bytesLess (n.f0.getD (i - 1) ByteArray.empty).toList (n.f0.getD i ByteArray.empty).toList=false:=(congrArg (fun j=>Op.bytesLess (n.f0.getD j ByteArray.empty).toList (n.f0.getD i ByteArray.empty).toList) hpt.symm).trans (dh c)
      clear c
      conv=>whnf
      refine Split.mk (fun _=>?_) (fun e=>jf e)
      conv=>whnf
      refine Split.mk (fun _=>?_) (fun e=>jf e)
      conv=>whnf
      refine aZ.mk ⟨by kernel_rfl,by kernel_rfl⟩ ?_
      conv=>whnf
      refine Split.mk (fun _=>?_) (fun e=>jf e)
      conv=>whnf
      exact aG.mk ⟨rfl,rfl⟩ ⟨rfl,rfl⟩ ⟨bv (fD c2 hR),trivial⟩
     ·have c2:Op.bytesLess (n.f0.getD (i - 1) ByteArray.empty).toList (n.f0.getD i ByteArray.empty).toList=true:=(congrArg (fun j=>Op.bytesLess (n.f0.getD j ByteArray.empty).toList (n.f0.getD i ByteArray.empty).toList) hpt.symm).trans (dA c)
      clear c
      replace hR:=dV c2 hR
      conv=>whnf
      refine Split.mk (fun c=>?_) (fun c=>?_)
      ·have c3:(n.f1.getD i zN).f0.length=0:=yI c
       clear c
       conv=>whnf
       refine Split.mk (fun c=>?_) (fun c=>?_)
       ·have c5:(n.f1.getD i zN).f2.length=0:=yI c
        clear c
        conv=>whnf
        refine Split.mk (fun _=>?_) (fun e=>jf e)
        conv=>whnf
        refine aZ.mk ⟨by kernel_rfl,by kernel_rfl⟩ ?_
        conv=>whnf
        refine Split.mk (fun _=>?_) (fun e=>jf e)
        conv=>whnf
        exact aG.mk ⟨rfl,rfl⟩ ⟨rfl,rfl⟩ ⟨bv (no3 c3 c5 hR),trivial⟩
       ·have c5:(n.f1.getD i zN).f2.length≠0:=yJ c
        clear c
        replace hR:=no2 c3 c5 hR
        conv=>whnf
        refine Need.mk (idx hk2) ?_
        conv=>whnf
        refine Split.mk (fun c=>?_) (fun c=>?_)
        ·have c3:=Jj c
         clear c
         conv=>whnf
         refine Split.mk (fun c=>?_) (fun c=>?_)
         ·have c5:(n.f1.getD i zN).f0.length≠0:=Nat.ne_of_gt (jo c)
          clear c
          conv=>whnf
          refine aZ.mk ⟨by kernel_rfl,by kernel_rfl⟩ ?_
          conv=>whnf
          refine Split.mk (fun _=>?_) (fun e=>jf e)
          conv=>whnf
          exact aG.mk ⟨rfl,rfl⟩ ⟨rfl,rfl⟩ ⟨bv (ha1 c3 c5 hR),trivial⟩
         ·have c5:(n.f1.getD i zN).f0.length=0:=jq c
          clear c
          replace hR:=ha2 c5 hR
          conv=>whnf
          refine aA.mk _ ihk ?_
          conv=>whnf
          refine aZ.mk ⟨by kernel_rfl,by kernel_rfl⟩ ?_
          conv=>whnf
          refine Split.mk (fun c=>?_) (fun c=>?_)
          ·have c4:okS (d+1) (n.f1.getD i zN)=false:=dh c
           conv=>whnf
           exact aG.mk ⟨rfl,rfl⟩ ⟨rfl,rfl⟩ ⟨bv (fD c4 hR),trivial⟩
          ·have c4:okS (d+1) (n.f1.getD i zN)=true:=dA c
           replace hR:=dV c4 hR
           conv=>whnf
           exact bn.mk ⟨⟨i+1,hk2,hR⟩,Nat.sub_lt_sub_left hk2 (Nat.lt_succ_self i),ay [(0,0)] rfl rfl rfl ⟨⟨rfl,congrArg i64 (dK hk2 (Nat.le_trans hn.l0 (by decide)))⟩,⟨rfl,rfl⟩,⟨rfl,rfl⟩,trivial⟩ ⟨⟨rfl,rfl⟩,trivial⟩⟩
        ·have c3:=Jk c
         clear c
         replace hR:=ha3 c3 hR
         conv=>whnf
         refine Split.mk (fun e=>jy e) (fun _=>?_)
         conv=>whnf
         refine aA.mk _ ihk ?_
         conv=>whnf
         refine aZ.mk ⟨by kernel_rfl,by kernel_rfl⟩ ?_
         conv=>whnf
         refine Split.mk (fun c=>?_) (fun c=>?_)
         ·have c4:okS (d+1) (n.f1.getD i zN)=false:=dh c
          conv=>whnf
          exact aG.mk ⟨rfl,rfl⟩ ⟨rfl,rfl⟩ ⟨bv (fD c4 hR),trivial⟩
         ·have c4:okS (d+1) (n.f1.getD i zN)=true:=dA c
          replace hR:=dV c4 hR
          conv=>whnf
          exact bn.mk ⟨⟨i+1,hk2,hR⟩,Nat.sub_lt_sub_left hk2 (Nat.lt_succ_self i),ay [(0,0)] rfl rfl rfl ⟨⟨rfl,congrArg i64 (dK hk2 (Nat.le_trans hn.l0 (by decide)))⟩,⟨rfl,rfl⟩,⟨rfl,rfl⟩,trivial⟩ ⟨⟨rfl,rfl⟩,trivial⟩⟩
      ·have c3:(n.f1.getD i zN).f0.length≠0:=yJ c
       clear c
       replace hR:=no1 c3 hR
       conv=>whnf
       refine Split.mk (fun e=>jy e) (fun _=>?_)
       conv=>whnf
       refine Need.mk (idx hk2) ?_
       conv=>whnf
       refine Split.mk (fun c=>?_) (fun c=>?_)
       ·have c3:=Jj c
        clear c
        conv=>whnf
        refine Split.mk (fun c=>?_) (fun c=>?_)
        ·have c5:(n.f1.getD i zN).f0.length≠0:=Nat.ne_of_gt (jo c)
         clear c
         conv=>whnf
         refine aZ.mk ⟨by kernel_rfl,by kernel_rfl⟩ ?_
         conv=>whnf
         refine Split.mk (fun _=>?_) (fun e=>jf e)
         conv=>whnf
         exact aG.mk ⟨rfl,rfl⟩ ⟨rfl,rfl⟩ ⟨bv (ha1 c3 c5 hR),trivial⟩
        ·have c5:(n.f1.getD i zN).f0.length=0:=jq c
         clear c
         replace hR:=ha2 c5 hR
         conv=>whnf
         refine aA.mk _ ihk ?_
         conv=>whnf
         refine aZ.mk ⟨by kernel_rfl,by kernel_rfl⟩ ?_
         conv=>whnf
         refine Split.mk (fun c=>?_) (fun c=>?_)
         ·have c4:okS (d+1) (n.f1.getD i zN)=false:=dh c
          conv=>whnf
          exact aG.mk ⟨rfl,rfl⟩ ⟨rfl,rfl⟩ ⟨bv (fD c4 hR),trivial⟩
         ·have c4:okS (d+1) (n.f1.getD i zN)=true:=dA c
          replace hR:=dV c4 hR
          conv=>whnf
          exact bn.mk ⟨⟨i+1,hk2,hR⟩,Nat.sub_lt_sub_left hk2 (Nat.lt_succ_self i),ay [(0,0)] rfl rfl rfl ⟨⟨rfl,congrArg i64 (dK hk2 (Nat.le_trans hn.l0 (by decide)))⟩,⟨rfl,rfl⟩,⟨rfl,rfl⟩,trivial⟩ ⟨⟨rfl,rfl⟩,trivial⟩⟩
       ·have c3:=Jk c
        clear c
        replace hR:=ha3 c3 hR
        conv=>whnf
        refine Split.mk (fun e=>jy e) (fun _=>?_)
        conv=>whnf
        refine aA.mk _ ihk ?_
        conv=>whnf
        refine aZ.mk ⟨by kernel_rfl,by kernel_rfl⟩ ?_
        conv=>whnf
        refine Split.mk (fun c=>?_) (fun c=>?_)
        ·have c4:okS (d+1) (n.f1.getD i zN)=false:=dh c
         conv=>whnf
         exact aG.mk ⟨rfl,rfl⟩ ⟨rfl,rfl⟩ ⟨bv (fD c4 hR),trivial⟩
        ·have c4:okS (d+1) (n.f1.getD i zN)=true:=dA c
         replace hR:=dV c4 hR
         conv=>whnf
         exact bn.mk ⟨⟨i+1,hk2,hR⟩,Nat.sub_lt_sub_left hk2 (Nat.lt_succ_self i),ay [(0,0)] rfl rfl rfl ⟨⟨rfl,congrArg i64 (dK hk2 (Nat.le_trans hn.l0 (by decide)))⟩,⟨rfl,rfl⟩,⟨rfl,rfl⟩,trivial⟩ ⟨⟨rfl,rfl⟩,trivial⟩⟩
    ·have h0:i=0:=jq c
     clear c
     subst h0
     rw [Ji,Bool.true_and] at hR
     conv=>whnf
     refine Split.mk (fun e=>jy e) (fun _=>?_)
     conv=>whnf
     refine Split.mk (fun c=>?_) (fun c=>?_)
     ·have c3:(n.f1.getD 0 zN).f0.length=0:=yI c
      clear c
      conv=>whnf
      refine Split.mk (fun c=>?_) (fun c=>?_)
      ·have c5:(n.f1.getD 0 zN).f2.length=0:=yI c
       clear c
       conv=>whnf
       refine Split.mk (fun _=>?_) (fun e=>jf e)
       conv=>whnf
       refine aZ.mk ⟨by kernel_rfl,by kernel_rfl⟩ ?_
       conv=>whnf
       refine Split.mk (fun _=>?_) (fun e=>jf e)
       conv=>whnf
       exact aG.mk ⟨rfl,rfl⟩ ⟨rfl,rfl⟩ ⟨bv (no3 c3 c5 hR),trivial⟩
      ·have c5:(n.f1.getD 0 zN).f2.length≠0:=yJ c
       clear c
       replace hR:=no2 c3 c5 hR
       conv=>whnf
       refine Need.mk (idx hk2) ?_
       conv=>whnf
       refine Split.mk (fun c=>?_) (fun c=>?_)
       ·have c3:=Jj c
        clear c
        conv=>whnf
        refine Split.mk (fun c=>?_) (fun c=>?_)
        ·have c5:(n.f1.getD 0 zN).f0.length≠0:=Nat.ne_of_gt (jo c)
         clear c
         conv=>whnf
         refine aZ.mk ⟨by kernel_rfl,by kernel_rfl⟩ ?_
         conv=>whnf
         refine Split.mk (fun _=>?_) (fun e=>jf e)
         conv=>whnf
         exact aG.mk ⟨rfl,rfl⟩ ⟨rfl,rfl⟩ ⟨bv (ha1 c3 c5 hR),trivial⟩
        ·have c5:(n.f1.getD 0 zN).f0.length=0:=jq c
         clear c
         replace hR:=ha2 c5 hR
         conv=>whnf
         refine aA.mk _ ihk ?_
         conv=>whnf
         refine aZ.mk ⟨by kernel_rfl,by kernel_rfl⟩ ?_
         conv=>whnf
         refine Split.mk (fun c=>?_) (fun c=>?_)
         ·have c4:okS (d+1) (n.f1.getD 0 zN)=false:=dh c
          conv=>whnf
          exact aG.mk ⟨rfl,rfl⟩ ⟨rfl,rfl⟩ ⟨bv (fD c4 hR),trivial⟩
         ·have c4:okS (d+1) (n.f1.getD 0 zN)=true:=dA c
          replace hR:=dV c4 hR
          conv=>whnf
          exact bn.mk ⟨⟨0+1,hk2,hR⟩,Nat.sub_lt_sub_left hk2 (Nat.lt_succ_self 0),ay [(0,0)] rfl rfl rfl ⟨⟨rfl,congrArg i64 (dK hk2 (Nat.le_trans hn.l0 (by decide)))⟩,⟨rfl,rfl⟩,⟨rfl,rfl⟩,trivial⟩ ⟨⟨rfl,rfl⟩,trivial⟩⟩
       ·have c3:=Jk c
        clear c
        replace hR:=ha3 c3 hR
        conv=>whnf
        refine Split.mk (fun e=>jy e) (fun _=>?_)
        conv=>whnf
        refine aA.mk _ ihk ?_
        conv=>whnf
        refine aZ.mk ⟨by kernel_rfl,by kernel_rfl⟩ ?_
        conv=>whnf
        refine Split.mk (fun c=>?_) (fun c=>?_)
        ·have c4:okS (d+1) (n.f1.getD 0 zN)=false:=dh c
         conv=>whnf
         exact aG.mk ⟨rfl,rfl⟩ ⟨rfl,rfl⟩ ⟨bv (fD c4 hR),trivial⟩
        ·have c4:okS (d+1) (n.f1.getD 0 zN)=true:=dA c
         replace hR:=dV c4 hR
         conv=>whnf
         exact bn.mk ⟨⟨0+1,hk2,hR⟩,Nat.sub_lt_sub_left hk2 (Nat.lt_succ_self 0),ay [(0,0)] rfl rfl rfl ⟨⟨rfl,congrArg i64 (dK hk2 (Nat.le_trans hn.l0 (by decide)))⟩,⟨rfl,rfl⟩,⟨rfl,rfl⟩,trivial⟩ ⟨⟨rfl,rfl⟩,trivial⟩⟩
     ·have c3:(n.f1.getD 0 zN).f0.length≠0:=yJ c
      clear c
      replace hR:=no1 c3 hR
      conv=>whnf
      refine Split.mk (fun e=>jy e) (fun _=>?_)
      conv=>whnf
      refine Need.mk (idx hk2) ?_
      conv=>whnf
      refine Split.mk (fun c=>?_) (fun c=>?_)
      ·have c3:=Jj c
       clear c
       conv=>whnf
       refine Split.mk (fun c=>?_) (fun c=>?_)
       ·have c5:(n.f1.getD 0 zN).f0.length≠0:=Nat.ne_of_gt (jo c)
        clear c
        conv=>whnf
        refine aZ.mk ⟨by kernel_rfl,by kernel_rfl⟩ ?_
        conv=>whnf
        refine Split.mk (fun _=>?_) (fun e=>jf e)
        conv=>whnf
        exact aG.mk ⟨rfl,rfl⟩ ⟨rfl,rfl⟩ ⟨bv (ha1 c3 c5 hR),trivial⟩
       ·have c5:(n.f1.getD 0 zN).f0.length=0:=jq c
        clear c
        replace hR:=ha2 c5 hR
        conv=>whnf
        refine aA.mk _ ihk ?_
        conv=>whnf
        refine aZ.mk ⟨by kernel_rfl,by kernel_rfl⟩ ?_
        conv=>whnf
        refine Split.mk (fun c=>?_) (fun c=>?_)
        ·have c4:okS (d+1) (n.f1.getD 0 zN)=false:=dh c
         conv=>whnf
         exact aG.mk ⟨rfl,rfl⟩ ⟨rfl,rfl⟩ ⟨bv (fD c4 hR),trivial⟩
        ·have c4:okS (d+1) (n.f1.getD 0 zN)=true:=dA c
         replace hR:=dV c4 hR
         conv=>whnf
         exact bn.mk ⟨⟨0+1,hk2,hR⟩,Nat.sub_lt_sub_left hk2 (Nat.lt_succ_self 0),ay [(0,0)] rfl rfl rfl ⟨⟨rfl,congrArg i64 (dK hk2 (Nat.le_trans hn.l0 (by decide)))⟩,⟨rfl,rfl⟩,⟨rfl,rfl⟩,trivial⟩ ⟨⟨rfl,rfl⟩,trivial⟩⟩
      ·have c3:=Jk c
       clear c
       replace hR:=ha3 c3 hR
       conv=>whnf
       refine Split.mk (fun e=>jy e) (fun _=>?_)
       conv=>whnf
       refine aA.mk _ ihk ?_
       conv=>whnf
       refine aZ.mk ⟨by kernel_rfl,by kernel_rfl⟩ ?_
       conv=>whnf
       refine Split.mk (fun c=>?_) (fun c=>?_)
       ·have c4:okS (d+1) (n.f1.getD 0 zN)=false:=dh c
        conv=>whnf
        exact aG.mk ⟨rfl,rfl⟩ ⟨rfl,rfl⟩ ⟨bv (fD c4 hR),trivial⟩
       ·have c4:okS (d+1) (n.f1.getD 0 zN)=true:=dA c
        replace hR:=dV c4 hR
        conv=>whnf
        exact bn.mk ⟨⟨0+1,hk2,hR⟩,Nat.sub_lt_sub_left hk2 (Nat.lt_succ_self 0),ay [(0,0)] rfl rfl rfl ⟨⟨rfl,congrArg i64 (dK hk2 (Nat.le_trans hn.l0 (by decide)))⟩,⟨rfl,rfl⟩,⟨rfl,rfl⟩,trivial⟩ ⟨⟨rfl,rfl⟩,trivial⟩⟩
  ·have hk2:i=n.f0.length:=Nat.le_antisymm hi (gG c)
   subst hk2
   conv=>whnf
   exact aG.mk ⟨rfl,rfl⟩ ⟨rfl,rfl⟩ ⟨bv (hR.symm.trans Zw),trivial⟩
theorem X0:∀(n:SN),Bd n→∀d:Nat,d≤6→aC T Tryz.prog 144 [.ag (T.cells eN n), .c (.sc (.int .i64 (d:Int)))] (.c (.sc (.bool (okS d n)))):=fun n hn d hd=>
 XZ n d hn hd (fun h k hk=>X0 k (hn.kid k hk) (d+1) h)
termination_by n=>SizeOf.sizeOf n
decreasing_by exact mF hk
end Go.Proofs.YtcnfgfomholheaaGreatDoor.Q
end
section
namespace Go.Proofs.YtcnfgfomholheaaGreatDoor.Q
open Go.RowKit Go.Proofs.YtcnfgfomholheaaGreatDoor.Z Go.Proofs.YtcnfgfomholheaaGreatDoor.Pure
set_option linter.unusedVariables false
set_option linter.unusedSimpArgs false
set_option maxRecDepth 100000
set_option maxHeartbeats 4000000
theorem X4 {d i:Nat} {a:ByteArray} {ns:List ByteArray} {ks:List SN} (h:i<ns.length) (h2:i<ks.length):pG d a (ns.drop i) (ks.drop i)=(zh (d+1) (if 0<d then (a++(⟨#[47]⟩:ByteArray))++ns.getD i ByteArray.empty else ns.getD i ByteArray.empty) (ks.getD i zN) && pG d a (ns.drop (i+1)) (ks.drop (i+1))):=by
 have e:ns.getD i ByteArray.empty=ns[i]:=by simp [h]
 have e2:ks.getD i zN=ks[i]:=by simp [h2]
 rw [List.drop_eq_getElem_cons h,List.drop_eq_getElem_cons h2,pG,e,e2]
theorem Zx {d:Nat} {a:ByteArray} {ns:List ByteArray} {ks:List SN}:pG d a (ns.drop ns.length) ks=true:=by
 rw [List.drop_length];cases ks<;>rw [pG]<;>(intro x1 x2 x3 x4 e;cases e)
theorem acO {d i:Nat} {n:SN} (h:okS d n=true) (hi:i<n.f1.length):okS (d+1) (n.f1.getD i zN)=true:=by
 obtain⟨e1,e2,e3,e4⟩:=tq h
 exact Qo d n.f0 none n.f1 e1 e4 _ (getD_mem hi)
theorem Qr (n:SN) (d:Nat) (a:ByteArray) (hn:Bd n) (hd:d≤6) (ha:a.size≤d*1048577) (hok:okS d n=true) (ih:∀k∈n.f1,okS (d+1) k=true→d<6→∀b:ByteArray,b.size≤(d+1)*1048577→aC T Tryz.prog 145 [.ag (T.cells eN k), .c (.sc (.string b)), .c (.sc (.int .i64 ((d+1:Nat):Int)))] (.c (.sc (.bool (zh (d+1) b k))))):aC T Tryz.prog 145 [.ag (T.cells eN n), .c (.sc (.string a)), .c (.sc (.int .i64 (d:Int)))] (.c (.sc (.bool (zh d a n)))):=by
 refine kM hT Tryz.func145 (by kernel_rfl) rfl rfl (fun A=>?_)
 have hR:=XI d a n
 generalize zh d a n=R at hR⊢
 replace hR:=hR.symm
 obtain⟨hl,h6,_,_⟩:=tq hok
 refine Vc.seq 0 hT ?_
 conv=>whnf
 refine Vc.cut (α:=Unit) 2 (fun _=>pG d a n.f0 n.f1=R) (fun _=>[(3, .c (.px 0 0)),(1,acN a),(2,i64 d)]) (fun _=>[(0,uj n)]) hT ?_ (fun _ hR=>?_)
 ·conv=>whnf
  refine Split.mk (fun c=>?_) (fun c=>?_)
  ·have h1:0<d:=jo c
   clear c
   rw [decide_eq_true h1,Bool.true_and] at hR
   conv=>whnf
   refine Split.mk (fun c=>?_) (fun c=>?_)
   ·have h2:0<n.f2.length:=jo c
    clear c
    rw [decide_eq_true h2,Bool.true_and,Bool.not_not] at hR
    conv=>whnf
    refine aA.mk _ (vT a (by omega)) ?_
    conv=>whnf
    refine Split.mk (fun c=>?_) (fun c=>?_)
    ·have c1:cO a=false:=dh c
     clear c
     conv=>whnf
     exact aG.mk ⟨rfl,rfl⟩ ⟨rfl,rfl⟩ ⟨bv (fD c1 hR),trivial⟩
    ·have c1:cO a=true:=dA c
     clear c
     conv=>whnf
     exact kJ.mk ⟨(),dV c1 hR,ay [(0,0)] rfl rfl rfl ⟨⟨rfl,rfl⟩,⟨rfl,rfl⟩,⟨rfl,rfl⟩,trivial⟩ ⟨⟨rfl,rfl⟩,trivial⟩⟩
   ·have h2:n.f2.length=0:=jq c
    clear c
    have hR:=dV (by rw [decide_eq_false (by omega)];rfl) hR
    conv=>whnf
    refine Split.mk (fun e=>jy e) (fun _=>?_)
    conv=>whnf
    exact kJ.mk ⟨(),hR,ay [(0,0)] rfl rfl rfl ⟨⟨rfl,rfl⟩,⟨rfl,rfl⟩,⟨rfl,rfl⟩,trivial⟩ ⟨⟨rfl,rfl⟩,trivial⟩⟩
  ·have h1:d=0:=jq c
   clear c
   have hR:=dV (by rw [decide_eq_false (by omega)];rfl) hR
   conv=>whnf
   refine Split.mk (fun e=>jy e) (fun _=>?_)
   conv=>whnf
   refine Split.mk (fun e=>jy e) (fun _=>?_)
   conv=>whnf
   exact kJ.mk ⟨(),hR,ay [(0,0)] rfl rfl rfl ⟨⟨rfl,rfl⟩,⟨rfl,rfl⟩,⟨rfl,rfl⟩,trivial⟩ ⟨⟨rfl,rfl⟩,trivial⟩⟩
 refine Vc.of 1 hT ?_
 conv=>whnf
 refine dJ.mk {i:Nat // i≤n.f0.length∧pG d a (n.f0.drop i) (n.f1.drop i)=R} (fun p=>(1,[(7,i64 p.1),(3, .c (.px 0 0)),(1,acN a),(2,i64 d)],[(0,uj n)])) (fun p=>n.f0.length - p.1) ⟨0,Nat.zero_le _,hR⟩ (ay [(0,0)] rfl rfl rfl ⟨⟨rfl,rfl⟩,⟨rfl,rfl⟩,⟨rfl,rfl⟩,⟨rfl,rfl⟩,trivial⟩ ⟨⟨rfl,rfl⟩,trivial⟩) ?_
 rename_i hR0
 clear hR hR0
 rintro⟨i,hi,hR⟩
 conv=>whnf
 refine Split.mk (fun c=>?_) (fun c=>?_)
 ·have hk2:i<n.f0.length:=gB c
  clear c
  have hk3:i<n.f1.length:=hl▸hk2
  have hd6:d<6:=by have:=h6 (by omega);omega
  have hx:=hn.z0 _ (getD_mem (d:=ByteArray.empty) hk2)
  have ihk:=ih _ (getD_mem (d:=zN) hk3) (acO hok hk3) hd6
  rw [d1_ (by omega)] at ihk
  rw [X4 hk2 hk3] at hR
  conv=>whnf
  refine Need.mk (idx hk2) ?_
  conv=>whnf
  refine Split.mk (fun c=>?_) (fun c=>?_)
  ·have h1:0<d:=jo c
   clear c
   rw [if_pos h1] at hR
   have hs1:(a++(⟨#[47]⟩:ByteArray)).size=a.size+1:=rW _ _
   have hs2:((a++(⟨#[47]⟩:ByteArray))++n.f0.getD i ByteArray.empty).size=a.size+1+(n.f0.getD i ByteArray.empty).size:=by rw [rW,hs1]
   conv=>whnf
   refine Need.mk (show a.size+1≤9223372036854775807 by omega) ?_
   conv=>whnf
   refine Need.mk (show(a++(⟨#[47]⟩:ByteArray)).size+(n.f0.getD i ByteArray.empty).size≤9223372036854775807 by omega) ?_
   conv=>whnf
   refine Need.mk (idx hk3) ?_
   conv=>whnf
   refine aA.mk _ (ihk _ (by show((a++(⟨#[47]⟩:ByteArray))++n.f0.getD i ByteArray.empty).size≤_;omega)) ?_
   conv=>whnf
   refine Split.mk (fun c=>?_) (fun c=>?_)
   ·have c4:=dh c
    conv=>whnf
    exact aG.mk ⟨rfl,rfl⟩ ⟨rfl,rfl⟩ ⟨bv (fD c4 hR),trivial⟩
   ·have c4:=dA c
    replace hR:=dV c4 hR
    conv=>whnf
    exact bn.mk ⟨⟨i+1,hk2,hR⟩,Nat.sub_lt_sub_left hk2 (Nat.lt_succ_self i),ay [(0,0)] rfl rfl rfl ⟨⟨rfl,congrArg i64 (dK hk2 (Nat.le_trans hn.l0 (by decide)))⟩,⟨rfl,rfl⟩,⟨rfl,rfl⟩,⟨rfl,rfl⟩,trivial⟩ ⟨⟨rfl,rfl⟩,trivial⟩⟩
  ·have h1:d=0:=jq c
   clear c
   rw [if_neg (by omega)] at hR
   conv=>whnf
   refine Need.mk (idx hk3) ?_
   conv=>whnf
   refine aA.mk _ (ihk _ (by show(n.f0.getD i ByteArray.empty).size≤_;omega)) ?_
   conv=>whnf
   refine Split.mk (fun c=>?_) (fun c=>?_)
   ·have c4:=dh c
    conv=>whnf
    exact aG.mk ⟨rfl,rfl⟩ ⟨rfl,rfl⟩ ⟨bv (fD c4 hR),trivial⟩
   ·have c4:=dA c
    replace hR:=dV c4 hR
    conv=>whnf
    exact bn.mk ⟨⟨i+1,hk2,hR⟩,Nat.sub_lt_sub_left hk2 (Nat.lt_succ_self i),ay [(0,0)] rfl rfl rfl ⟨⟨rfl,congrArg i64 (dK hk2 (Nat.le_trans hn.l0 (by decide)))⟩,⟨rfl,rfl⟩,⟨rfl,rfl⟩,⟨rfl,rfl⟩,trivial⟩ ⟨⟨rfl,rfl⟩,trivial⟩⟩
 ·have hk2:i=n.f0.length:=Nat.le_antisymm hi (gG c)
  subst hk2
  conv=>whnf
  exact aG.mk ⟨rfl,rfl⟩ ⟨rfl,rfl⟩ ⟨bv (hR.symm.trans Zx),trivial⟩
theorem MO:∀(n:SN),Bd n→∀(d:Nat) (a:ByteArray),d≤6→a.size≤d*1048577→okS d n=true→aC T Tryz.prog 145 [.ag (T.cells eN n), .c (.sc (.string a)), .c (.sc (.int .i64 (d:Int)))] (.c (.sc (.bool (zh d a n)))):=fun n hn d a hd ha hok=>
 Qr n d a hn hd ha hok (fun k hk hok2 h b hb=>MO k (hn.kid k hk) (d+1) b h hb hok2)
termination_by n=>SizeOf.sizeOf n
decreasing_by exact mF hk
theorem Rn {n:SN} (hn:Bd n) (h0:n.f2.length=0):gI n=(okS 0 n && zh 0 (⟨#[]⟩:ByteArray) n):=by
 have hB:=XO hn [] 0 rfl (by omega) (fun _=>h0)
 have e:dB []=(⟨#[]⟩:ByteArray):=rfl
 rw [e] at hB
 unfold gI
 rw [decide_eq_true h0,Bool.true_and,Bool.eq_iff_iff,hB,Bool.and_eq_true]
theorem zB (n:SN) (hn:Bd n):aC T Tryz.prog 76 [.ag (T.cells eN n)] (.c (.sc (.bool (gI n)))):=by
 refine aH hT Tryz.func76 (by kernel_rfl) rfl rfl (fun A=>?_)
 conv=>whnf
 refine Split.mk (fun c=>?_) (fun c=>?_)
 ·have h0:n.f2.length=0:=yI c
  clear c
  rw [Rn hn h0]
  conv=>whnf
  refine aA.mk _ (X0 n hn 0 (by decide)) ?_
  conv=>whnf
  refine Split.mk (fun c=>?_) (fun c=>?_)
  ·conv=>whnf
   refine aA.mk _ (MO n hn 0 _ (by decide) (by show(0:Nat)≤_;omega) c) ?_
   conv=>whnf
   exact aG.mk ⟨rfl,rfl⟩ ⟨rfl,rfl⟩ ⟨bv (by rw [c];rfl),trivial⟩
  ·conv=>whnf
   exact aG.mk ⟨rfl,rfl⟩ ⟨rfl,rfl⟩ ⟨bv (by rw [c];rfl),trivial⟩
 ·have h0:n.f2.length≠0:=yJ c
  clear c
  conv=>whnf
  refine Split.mk (fun e=>jy e) (fun _=>?_)
  conv=>whnf
  exact aG.mk ⟨rfl,rfl⟩ ⟨rfl,rfl⟩ ⟨bv (by unfold gI;rw [decide_eq_false h0];rfl),trivial⟩
end Go.Proofs.YtcnfgfomholheaaGreatDoor.Q
end
section
namespace Go.Proofs.YtcnfgfomholheaaGreatDoor.Q
open Go.RowKit Go.Proofs.YtcnfgfomholheaaGreatDoor.Z Go.Proofs.YtcnfgfomholheaaGreatDoor.Pure
set_option linter.unusedVariables false
set_option linter.unusedSimpArgs false
set_option maxRecDepth 100000
set_option maxHeartbeats 4000000
theorem X5 {i:Nat} {p:List ByteArray} {ns:List ByteArray} {ks:List SN} (h:i<ns.length) (h2:i<ks.length):lU p (ns.drop i) (jl ns i) (ks.drop i)=(ni (jl ns i) (ns.getD i ByteArray.empty) && (decide ((um (ns.getD i ByteArray.empty)).length≤1) && (jT (dl (ns.getD i ByteArray.empty)) (((ks.getD i zN).f1.length:Int)==0) && (!(decide ((ks.getD i zN).f1.length=0) && decide ((ks.getD i zN).f2.length=0)) && (okI (p++[ns.getD i ByteArray.empty]) (ks.getD i zN) && lU p (ns.drop (i+1)) (jl ns (i+1)) (ks.drop (i+1))))))):=by
 have e:ns.getD i ByteArray.empty=ns[i]:=by simp [h]
 have e2:ks.getD i zN=ks[i]:=by simp [h2]
 have e3:((ks[i].f1.length:Int)==0)=decide (ks[i].f1.length=0):=by rw [Bool.eq_iff_iff];simp
 rw [List.drop_eq_getElem_cons h,List.drop_eq_getElem_cons h2,lU,e,e2,yH h,e,JC,pieces_len,e3,Bool.and_assoc]
theorem Zy {p:List ByteArray} {ns:List ByteArray} {ks:List SN} {y:Option ByteArray}:lU p (ns.drop ns.length) y ks=true:=by
 rw [List.drop_length];cases ks<;>rw [lU]<;>(intro x1 x2 x3 x4 e;cases e)
theorem VD {a b:Nat} (c:decide ((a:Int)>(b:Int))=true):b<a:=by simp at c;omega
theorem VE {a b:Nat} (c:decide ((a:Int)>(b:Int))=false):a≤b:=by simp at c;omega
theorem zx:qV T 9:=fun _=>rfl
theorem ZQ:qV T eS:=fun _=>rfl
theorem bV {a b:Nat} {bt:Nat} (h:a+b≤8388608) (hb:bt≤1024):a+b≤maxLen∧(a+b)*bt≤140737488355328:=by
 have:(a+b)*bt≤8388608*1024:=Nat.mul_le_mul h hb
 unfold maxLen;omega
theorem La {f:FuncId} {x:Arg T.Tb} {e:Nat} {r:RS T.Tb} (h:aC T Tryz.prog f [x, .c (.sl e [])] r):aC T Tryz.prog f [x, .c (.sc (.slice none 0 0))] r:=by
 refine⟨h.1,fun w vs S hj ha=>h.2 w vs S hj ?_⟩
 obtain⟨v,q,rfl,h1,v2,q2,rfl,⟨rfl,_⟩,rfl⟩:=ha
 exact⟨v,_,rfl,h1,_,_,rfl, .nil e none 0,rfl⟩
theorem X6 (n:SN) (p:List ByteArray) (hn:Bd n) (hp:p.length≤7) (hz:∀x∈p,x.size≤1048576) (ih:p.length≤6→∀k∈n.f1,∀x:ByteArray,x.size≤1048576→aC T Tryz.prog 137 [.ag (T.cells eN k), .c (.sl 9 (p++[x]))] (.c (.sc (.bool (okI (p++[x]) k))))):aC T Tryz.prog 137 [.ag (T.cells eN n), .c (.sl 9 (p))] (.c (.sc (.bool (okI (p) n)))):=by
 refine kM hT Tryz.func137 (by kernel_rfl) rfl rfl (fun A=>?_)
 have hR:=XJ p n
 generalize okI p n=R at hR⊢
 replace hR:=hR.symm
 refine Vc.seq 0 hT ?_
 conv=>whnf
 refine Vc.seq 1 hT ?_
 conv=>whnf
 refine Split.mk (fun c=>?_) (fun c=>?_)
 ·have h1:¬n.f0.length=n.f1.length:=Gm c
  clear c
  conv=>whnf
  refine Split.mk (fun _=>?_) (fun e=>jf e)
  conv=>whnf
  refine Split.mk (fun _=>?_) (fun e=>jf e)
  conv=>whnf
  exact aG.mk ⟨rfl,rfl⟩ ⟨rfl,rfl⟩ ⟨bv (fD (decide_eq_false h1) hR),trivial⟩
 have hl:n.f0.length=n.f1.length:=Gl c
 clear c
 replace hR:=dV (decide_eq_true hl) hR
 conv=>whnf
 refine Split.mk (fun c=>?_) (fun c=>?_)
 ·have h1:¬p.length≤6:=Nat.not_le.2 (VD (b:=6) c)
  clear c
  conv=>whnf
  refine Split.mk (fun _=>?_) (fun e=>jf e)
  conv=>whnf
  exact aG.mk ⟨rfl,rfl⟩ ⟨rfl,rfl⟩ ⟨bv (fD (decide_eq_false h1) hR),trivial⟩
 have h6:p.length≤6:=VE (b:=6) c
 clear c
 replace hR:=dV (decide_eq_true h6) hR
 conv=>whnf
 refine aA.mk _ (VB n.f2 hn.l2 (fun x hx=>Nat.le_trans (hn.z2 x hx) (by decide))) ?_
 conv=>whnf
 refine Split.mk (fun c=>?_) (fun c=>?_)
 ·have c1:sJ n.f2=false:=dh c
  clear c
  conv=>whnf
  exact aG.mk ⟨rfl,rfl⟩ ⟨rfl,rfl⟩ ⟨bv (fD c1 hR),trivial⟩
 have c1:sJ n.f2=true:=dA c
 clear c
 replace hR:=dV c1 hR
 conv=>whnf
 refine Vc.cut (α:=Unit) 2 (fun _=>lU p n.f0 none n.f1=R) (fun _=>[(2, .c (.px 0 0)),(1,im 9 p)]) (fun _=>[(0,uj n)]) hT ?_ (fun _ hR=>?_)
 ·conv=>whnf
  refine Split.mk (fun c=>?_) (fun c=>?_)
  ·have h1:0<n.f2.length:=jo c
   clear c
   rw [decide_eq_false (p:=n.f2.length=0) (by omega),Bool.false_or] at hR
   conv=>whnf
   refine aA.mk _ (Oh p (by omega) (rU p hp hz)) ?_
   conv=>whnf
   refine aA.mk _ (BO _ (rU p hp hz)) ?_
   conv=>whnf
   refine Split.mk (fun c=>?_) (fun c=>?_)
   ·have c1:cO (dB p)=false:=dh c
    clear c
    conv=>whnf
    exact aG.mk ⟨rfl,rfl⟩ ⟨rfl,rfl⟩ ⟨bv (fD c1 hR),trivial⟩
   ·have c1:cO (dB p)=true:=dA c
    clear c
    conv=>whnf
    exact kJ.mk ⟨(),dV c1 hR,ay [(0,0)] rfl rfl rfl ⟨⟨rfl,rfl⟩,⟨rfl,rfl⟩,trivial⟩ ⟨⟨rfl,rfl⟩,trivial⟩⟩
  ·have h1:n.f2.length=0:=jq c
   clear c
   replace hR:=dV (by rw [decide_eq_true h1];rfl) hR
   conv=>whnf
   refine Split.mk (fun e=>jy e) (fun _=>?_)
   conv=>whnf
   exact kJ.mk ⟨(),hR,ay [(0,0)] rfl rfl rfl ⟨⟨rfl,rfl⟩,⟨rfl,rfl⟩,trivial⟩ ⟨⟨rfl,rfl⟩,trivial⟩⟩
 refine Vc.of 1 hT ?_
 conv=>whnf
 refine dJ.mk {i:Nat // i≤n.f0.length∧lU p (n.f0.drop i) (jl n.f0 i) (n.f1.drop i)=R} (fun p_=>(1,[(39,i64 p_.1),(38,i64 n.f0.length),(37,im 9 n.f0),(2, .c (.px 0 0)),(1,im 9 p)],[(0,uj n)])) (fun p=>n.f0.length - p.1) ⟨0,Nat.zero_le _,hR⟩ (ay [(0,0)] rfl rfl rfl ⟨⟨rfl,rfl⟩,⟨rfl,rfl⟩,⟨rfl,rfl⟩,⟨rfl,rfl⟩,⟨rfl,rfl⟩,trivial⟩ ⟨⟨rfl,rfl⟩,trivial⟩) ?_
 rename_i hR0
 clear hR hR0
 rintro⟨i,hi,hR⟩
 conv=>whnf
 refine Split.mk (fun c=>?_) (fun c=>?_)
 ·have hk2:i<n.f0.length:=gB c
  clear c
  have hk3:i<n.f1.length:=hl▸hk2
  have hx:=hn.z0 _ (getD_mem (d:=ByteArray.empty) hk2)
  have ihk:=ih h6 _ (getD_mem (d:=zN) hk3) _ hx
  rw [X5 hk2 hk3] at hR
  conv=>whnf
  refine Need.mk (idx hk2) ?_
  conv=>whnf
  refine Need.mk (idx hk3) ?_
  conv=>whnf
  refine Split.mk (fun c=>?_) (fun c=>?_)
  ·have h0:0<i:=jo c
   clear c
   have hl0:=hn.l0
   rw [XW h0 hk2] at hR
   have hpr:=Eb h0 (by omega)
   have hpt:(wrap64 ((i:Int) - 1)).toNat=i - 1:=by rw [hpr];rfl
   conv=>whnf
   refine Need.mk (by rw [hpr];exact idx (show i - 1<n.f0.length by omega)) ?_
   conv=>whnf
   refine Split.mk (fun c=>?_) (fun c=>?_)
   ·have c2:Op.bytesLess (n.f0.getD (i - 1) ByteArray.empty).toList (n.f0.getD i ByteArray.empty).toList=false:=(congrArg (fun j=>Op.bytesLess (n.f0.getD j ByteArray.empty).toList (n.f0.getD i ByteArray.empty).toList) hpt.symm).trans (dh c)
    clear c
    conv=>whnf
    refine Split.mk (fun _=>?_) (fun e=>jf e)
    conv=>whnf
    refine Split.mk (fun _=>?_) (fun e=>jf e)
    conv=>whnf
    exact aG.mk ⟨rfl,rfl⟩ ⟨rfl,rfl⟩ ⟨bv (fD c2 hR),trivial⟩
   ·have c2:Op.bytesLess (n.f0.getD (i - 1) ByteArray.empty).toList (n.f0.getD i ByteArray.empty).toList=true:=(congrArg (fun j=>Op.bytesLess (n.f0.getD j ByteArray.empty).toList (n.f0.getD i ByteArray.empty).toList) hpt.symm).trans (dA c)
    clear c
    replace hR:=dV c2 hR
    conv=>whnf
    refine aA.mk _ (zA _ (Nat.le_trans hx (by decide))) ?_
    conv=>whnf
    refine Split.mk (fun c=>?_) (fun c=>?_)
    ·have c3:¬(um (n.f0.getD i ByteArray.empty)).length≤1:=Nat.not_le.2 (VD (b:=1) c)
     clear c
     conv=>whnf
     refine Split.mk (fun _=>?_) (fun e=>jf e)
     conv=>whnf
     exact aG.mk ⟨rfl,rfl⟩ ⟨rfl,rfl⟩ ⟨bv (fD (decide_eq_false c3) hR),trivial⟩
    ·have c3:(um (n.f0.getD i ByteArray.empty)).length≤1:=VE (b:=1) c
     clear c
     replace hR:=dV (decide_eq_true c3) hR
     conv=>whnf
     refine aA.mk _ (FC _ _ (Nat.le_trans hx (by decide))) ?_
     conv=>whnf
     refine Split.mk (fun c=>?_) (fun c=>?_)
     ·have c4:=dh c
      conv=>whnf
      exact aG.mk ⟨rfl,rfl⟩ ⟨rfl,rfl⟩ ⟨bv (fD c4 hR),trivial⟩
     ·have c4:=dA c
      clear c
      replace hR:=dV c4 hR
      conv=>whnf
      refine Split.mk (fun c=>?_) (fun c=>?_)
      ·have c5:(n.f1.getD i zN).f1.length=0:=yI c
       clear c
       conv=>whnf
       refine Split.mk (fun c=>?_) (fun c=>?_)
       ·have c6:(n.f1.getD i zN).f2.length=0:=yI c
        clear c
        conv=>whnf
        refine aZ.mk ⟨by kernel_rfl,by kernel_rfl⟩ ?_
        conv=>whnf
        refine Split.mk (fun _=>?_) (fun e=>jf e)
        conv=>whnf
        exact aG.mk ⟨rfl,rfl⟩ ⟨rfl,rfl⟩ ⟨bv (no3 c5 c6 hR),trivial⟩
       ·have c6:(n.f1.getD i zN).f2.length≠0:=yJ c
        clear c
        replace hR:=no2 c5 c6 hR
        conv=>whnf
        refine Need.mk ⟨zx,bV (a:=0) (b:=p.length) (by omega) (by decide)⟩ ?_
        conv=>whnf
        refine Need.mk (bV (a:=p.length) (b:=1) (by omega) (by decide)) ?_
        conv=>whnf
        refine aA.mk _ ihk ?_
        conv=>whnf
        refine aZ.mk ⟨by kernel_rfl,by kernel_rfl⟩ ?_
        conv=>whnf
        refine Split.mk (fun c=>?_) (fun c=>?_)
        ·have c9:=dh c
         conv=>whnf
         exact aG.mk ⟨rfl,rfl⟩ ⟨rfl,rfl⟩ ⟨bv (fD c9 hR),trivial⟩
        ·have c9:=dA c
         replace hR:=dV c9 hR
         conv=>whnf
         exact bn.mk ⟨⟨i+1,hk2,hR⟩,Nat.sub_lt_sub_left hk2 (Nat.lt_succ_self i),ay [(0,0)] rfl rfl rfl ⟨⟨rfl,congrArg i64 (dK hk2 (Nat.le_trans hn.l0 (by decide)))⟩,⟨rfl,rfl⟩,⟨rfl,rfl⟩,⟨rfl,rfl⟩,⟨rfl,rfl⟩,trivial⟩ ⟨⟨rfl,rfl⟩,trivial⟩⟩
      ·have c5:(n.f1.getD i zN).f1.length≠0:=yJ c
       clear c
       replace hR:=no1 c5 hR
       conv=>whnf
       refine Split.mk (fun e=>jy e) (fun _=>?_)
       conv=>whnf
       refine Need.mk ⟨zx,bV (a:=0) (b:=p.length) (by omega) (by decide)⟩ ?_
       conv=>whnf
       refine Need.mk (bV (a:=p.length) (b:=1) (by omega) (by decide)) ?_
       conv=>whnf
       refine aA.mk _ ihk ?_
       conv=>whnf
       refine aZ.mk ⟨by kernel_rfl,by kernel_rfl⟩ ?_
       conv=>whnf
       refine Split.mk (fun c=>?_) (fun c=>?_)
       ·have c9:=dh c
        conv=>whnf
        exact aG.mk ⟨rfl,rfl⟩ ⟨rfl,rfl⟩ ⟨bv (fD c9 hR),trivial⟩
       ·have c9:=dA c
        replace hR:=dV c9 hR
        conv=>whnf
        exact bn.mk ⟨⟨i+1,hk2,hR⟩,Nat.sub_lt_sub_left hk2 (Nat.lt_succ_self i),ay [(0,0)] rfl rfl rfl ⟨⟨rfl,congrArg i64 (dK hk2 (Nat.le_trans hn.l0 (by decide)))⟩,⟨rfl,rfl⟩,⟨rfl,rfl⟩,⟨rfl,rfl⟩,⟨rfl,rfl⟩,trivial⟩ ⟨⟨rfl,rfl⟩,trivial⟩⟩
  ·have h0:i=0:=jq c
   clear c
   subst h0
   rw [Ji,Bool.true_and] at hR
   conv=>whnf
   refine Split.mk (fun e=>jy e) (fun _=>?_)
   conv=>whnf
   refine aA.mk _ (zA _ (Nat.le_trans hx (by decide))) ?_
   conv=>whnf
   refine Split.mk (fun c=>?_) (fun c=>?_)
   ·have c3:¬(um (n.f0.getD 0 ByteArray.empty)).length≤1:=Nat.not_le.2 (VD (b:=1) c)
    clear c
    conv=>whnf
    refine Split.mk (fun _=>?_) (fun e=>jf e)
    conv=>whnf
    exact aG.mk ⟨rfl,rfl⟩ ⟨rfl,rfl⟩ ⟨bv (fD (decide_eq_false c3) hR),trivial⟩
   ·have c3:(um (n.f0.getD 0 ByteArray.empty)).length≤1:=VE (b:=1) c
    clear c
    replace hR:=dV (decide_eq_true c3) hR
    conv=>whnf
    refine aA.mk _ (FC _ _ (Nat.le_trans hx (by decide))) ?_
    conv=>whnf
    refine Split.mk (fun c=>?_) (fun c=>?_)
    ·have c4:=dh c
     conv=>whnf
     exact aG.mk ⟨rfl,rfl⟩ ⟨rfl,rfl⟩ ⟨bv (fD c4 hR),trivial⟩
    ·have c4:=dA c
     clear c
     replace hR:=dV c4 hR
     conv=>whnf
     refine Split.mk (fun c=>?_) (fun c=>?_)
     ·have c5:(n.f1.getD 0 zN).f1.length=0:=yI c
      clear c
      conv=>whnf
      refine Split.mk (fun c=>?_) (fun c=>?_)
      ·have c6:(n.f1.getD 0 zN).f2.length=0:=yI c
       clear c
       conv=>whnf
       refine aZ.mk ⟨by kernel_rfl,by kernel_rfl⟩ ?_
       conv=>whnf
       refine Split.mk (fun _=>?_) (fun e=>jf e)
       conv=>whnf
       exact aG.mk ⟨rfl,rfl⟩ ⟨rfl,rfl⟩ ⟨bv (no3 c5 c6 hR),trivial⟩
      ·have c6:(n.f1.getD 0 zN).f2.length≠0:=yJ c
       clear c
       replace hR:=no2 c5 c6 hR
       conv=>whnf
       refine Need.mk ⟨zx,bV (a:=0) (b:=p.length) (by omega) (by decide)⟩ ?_
       conv=>whnf
       refine Need.mk (bV (a:=p.length) (b:=1) (by omega) (by decide)) ?_
       conv=>whnf
       refine aA.mk _ ihk ?_
       conv=>whnf
       refine aZ.mk ⟨by kernel_rfl,by kernel_rfl⟩ ?_
       conv=>whnf
       refine Split.mk (fun c=>?_) (fun c=>?_)
       ·have c9:=dh c
        conv=>whnf
        exact aG.mk ⟨rfl,rfl⟩ ⟨rfl,rfl⟩ ⟨bv (fD c9 hR),trivial⟩
       ·have c9:=dA c
        replace hR:=dV c9 hR
        conv=>whnf
        exact bn.mk ⟨⟨0+1,hk2,hR⟩,Nat.sub_lt_sub_left hk2 (Nat.lt_succ_self 0),ay [(0,0)] rfl rfl rfl ⟨⟨rfl,congrArg i64 (dK hk2 (Nat.le_trans hn.l0 (by decide)))⟩,⟨rfl,rfl⟩,⟨rfl,rfl⟩,⟨rfl,rfl⟩,⟨rfl,rfl⟩,trivial⟩ ⟨⟨rfl,rfl⟩,trivial⟩⟩
     ·have c5:(n.f1.getD 0 zN).f1.length≠0:=yJ c
      clear c
      replace hR:=no1 c5 hR
      conv=>whnf
      refine Split.mk (fun e=>jy e) (fun _=>?_)
      conv=>whnf
      refine Need.mk ⟨zx,bV (a:=0) (b:=p.length) (by omega) (by decide)⟩ ?_
      conv=>whnf
      refine Need.mk (bV (a:=p.length) (b:=1) (by omega) (by decide)) ?_
      conv=>whnf
      refine aA.mk _ ihk ?_
      conv=>whnf
      refine aZ.mk ⟨by kernel_rfl,by kernel_rfl⟩ ?_
      conv=>whnf
      refine Split.mk (fun c=>?_) (fun c=>?_)
      ·have c9:=dh c
       conv=>whnf
       exact aG.mk ⟨rfl,rfl⟩ ⟨rfl,rfl⟩ ⟨bv (fD c9 hR),trivial⟩
      ·have c9:=dA c
       replace hR:=dV c9 hR
       conv=>whnf
       exact bn.mk ⟨⟨0+1,hk2,hR⟩,Nat.sub_lt_sub_left hk2 (Nat.lt_succ_self 0),ay [(0,0)] rfl rfl rfl ⟨⟨rfl,congrArg i64 (dK hk2 (Nat.le_trans hn.l0 (by decide)))⟩,⟨rfl,rfl⟩,⟨rfl,rfl⟩,⟨rfl,rfl⟩,⟨rfl,rfl⟩,trivial⟩ ⟨⟨rfl,rfl⟩,trivial⟩⟩
 ·have hk2:i=n.f0.length:=Nat.le_antisymm hi (gG c)
  subst hk2
  conv=>whnf
  exact aG.mk ⟨rfl,rfl⟩ ⟨rfl,rfl⟩ ⟨bv (hR.symm.trans Zy),trivial⟩
theorem X7:∀(n:SN),Bd n→∀p:List ByteArray,p.length≤7→(∀x∈p,x.size≤1048576)→aC T Tryz.prog 137 [.ag (T.cells eN n), .c (.sl 9 (p))] (.c (.sc (.bool (okI (p) n)))):=fun n hn p hp hz=>
 X6 n p hn hp hz (fun h k hk x hx=>X7 k (hn.kid k hk) (p++[x]) (by rw [List.length_append];show p.length+1≤7;omega) (fun y hy=>(List.mem_append.1 hy).elim (hz y) (fun h=>by rw [List.mem_singleton.1 h];exact hx)))
termination_by n=>SizeOf.sizeOf n
decreasing_by exact mF hk
theorem He (n:SN) (hn:Bd n):aC T Tryz.prog 73 [.ag (T.cells eN n)] (.c (.sc (.bool (gI n)))):=by
 refine aH hT Tryz.func73 (by kernel_rfl) rfl rfl (fun A=>?_)
 conv=>whnf
 refine Split.mk (fun c=>?_) (fun c=>?_)
 ·have h0:n.f2.length=0:=yI c
  clear c
  conv=>whnf
  refine aA.mk _ (La (X7 n hn [] (by decide) (fun x hx=>by cases hx))) ?_
  conv=>whnf
  exact aG.mk ⟨rfl,rfl⟩ ⟨rfl,rfl⟩ ⟨bv (by unfold gI;rw [decide_eq_true h0];rfl),trivial⟩
 ·have h0:n.f2.length≠0:=yJ c
  clear c
  conv=>whnf
  exact aG.mk ⟨rfl,rfl⟩ ⟨rfl,rfl⟩ ⟨bv (by unfold gI;rw [decide_eq_false h0];rfl),trivial⟩
end Go.Proofs.YtcnfgfomholheaaGreatDoor.Q
end
section
namespace Go.Proofs.YtcnfgfomholheaaGreatDoor.Q
open Go.RowKit Go.Proofs.YtcnfgfomholheaaGreatDoor.Z Go.Proofs.YtcnfgfomholheaaGreatDoor.Pure
set_option linter.unusedVariables false
set_option linter.unusedSimpArgs false
set_option maxRecDepth 100000
set_option maxHeartbeats 4000000
theorem Oc (l:List SS) (hl:l.length≤8388608):aC T Tryz.prog 170 [.c (.sl eS l)] (.c (.ow eS l)):=by
 refine aH hT Tryz.func170 (by kernel_rfl) rfl rfl (fun A=>?_)
 conv=>whnf
 refine Need.mk ⟨ZQ,bV (a:=0) (b:=l.length) (by omega) (by decide)⟩ ?_
 conv=>whnf
 exact aG.mk ⟨rfl,rfl⟩ ⟨rfl,rfl⟩ ⟨rfl,trivial⟩
abbrev RD:dG T:= .bx eN [.sc (.slice none 0 0), .sc (.slice none 0 0), .sc (.slice none 0 0)]
theorem getD_in {α:Type} (l:List α) (k:Nat) (d:α) (h:k<l.length):l.getD k d=l[k]:=by simp [h]
theorem take_snoc {l:List SN} {k:Nat} (h:k<l.length):l.take k++[(⟨(bH T eN l k).f0,(bH T eN l k).f1,(bH T eN l k).f2⟩:SN)]=l.take (k+1):=by
 rw [show(⟨(bH T eN l k).f0,(bH T eN l k).f1,(bH T eN l k).f2⟩:SN)=l[k] from(Bz _).trans (getD_in (α:=SN) l k (T.df eN) h),List.take_succ_eq_append_getElem h]
theorem Ro (n:SN) (hn:Bd n) (ih:∀k∈n.f1,aC T Tryz.prog 99 [.ag (T.cells eN k)] (.ag [.ow 9 k.f0, .ow eN k.f1, .ow eS k.f2])):aC T Tryz.prog 99 [.ag (T.cells eN n)] (.ag [.ow 9 n.f0, .ow eN n.f1, .ow eS n.f2]):=by
 refine kM hT Tryz.func99 (by kernel_rfl) rfl rfl (fun A=>?_)
 refine Vc.seq 0 hT ?_
 conv=>whnf
 refine Vc.seq 2 hT ?_
 conv=>whnf
 refine Need.mk ⟨zx,bV (a:=0) (b:=n.f0.length) (by have:=hn.l0;omega) (by decide)⟩ ?_
 conv=>whnf
 refine aA.mk _ (Oc n.f2 (Nat.le_trans hn.l2 (by decide))) ?_
 conv=>whnf
 refine aZ.mk ⟨by kernel_rfl,by kernel_rfl⟩ ?_
 conv=>whnf
 refine Vc.of 10 hT ?_
 conv=>whnf
 refine dJ.mk {k:Nat // k≤n.f1.length} (fun p=>(7,[(17,i64 p.1),(16,i64 n.f1.length),(15,im eN n.f1),(3, .c (.px 5 0)),(2, .c (.px 1 0))],[(5, .bx eN [.hd 3, .hd 6, .hd 4]),(3, .row 3 9 n.f0),(6, .row 6 eN (n.f1.take p.1)),(4, .row 4 eS n.f2),(1,RD)])) (fun p=>n.f1.length - p.1) ⟨0,Nat.zero_le _⟩ ((vO 5 1 20 eN (t:=eN) (cs:=[.hd 3, .sc (.slice none 0 0), .hd 4]) rfl rfl rfl).trans (ay [(5,5),(3,3),(6,20),(4,4),(1,1)] rfl rfl rfl ⟨⟨rfl,rfl⟩,⟨rfl,rfl⟩,⟨rfl,rfl⟩,⟨rfl,rfl⟩,⟨rfl,rfl⟩,trivial⟩ ⟨⟨rfl,rfl⟩,(show bY (T:=T) 9 n.f0 9 n.f0 from gu rfl),(show bY (T:=T) eN (n.f1.take 0) eN (n.f1.take 0) from gu rfl),(show bY (T:=T) eS n.f2 eS n.f2 from gu rfl),⟨rfl,rfl⟩,trivial⟩)) ?_
 rintro⟨k,hk⟩
 conv=>whnf
 refine Split.mk (fun c=>?_) (fun c=>?_)
 ·have hk2:k<n.f1.length:=gB c
  clear c
  have hl1:=hn.l1
  conv=>whnf
  refine Need.mk (idx hk2) ?_
  conv=>whnf
  refine aA.mk _ (ih _ (getD_mem (d:=zN) hk2)) ?_
  conv=>whnf
  refine Need.mk (bV (a:=(n.f1.take k).length) (b:=1) (by rw [List.length_take];omega) (by decide)) ?_
  conv=>whnf
  refine aZ.mk ⟨by kernel_rfl,by kernel_rfl⟩ ?_
  conv=>whnf
  exact bn.mk ⟨⟨k+1,hk2⟩,Nat.sub_lt_sub_left hk2 (Nat.lt_succ_self k),ay [(5,5),(3,3),(6,12),(4,4),(1,1)] rfl rfl rfl ⟨⟨rfl,congrArg i64 (dK hk2 (by omega))⟩,⟨rfl,rfl⟩,⟨rfl,rfl⟩,⟨rfl,rfl⟩,⟨rfl,rfl⟩,trivial⟩ ⟨⟨rfl,rfl⟩,(show bY (T:=T) 9 n.f0 9 n.f0 from gu rfl),(show bY (T:=T) eN (n.f1.take k++[(⟨(bH T eN n.f1 k).f0,(bH T eN n.f1 k).f1,(bH T eN n.f1 k).f2⟩:SN)]) eN (n.f1.take (k+1)) from gu (take_snoc hk2)),(show bY (T:=T) eS n.f2 eS n.f2 from gu rfl),⟨rfl,rfl⟩,trivial⟩⟩
 ·have hk2:k=n.f1.length:=Nat.le_antisymm hk (gG c)
  subst hk2
  conv=>whnf
  exact aG.mk ⟨rfl,rfl⟩ ⟨rfl,rfl⟩ ⟨rfl,gu (List.take_length),rfl,trivial⟩
theorem vM:∀(n:SN),Bd n→aC T Tryz.prog 99 [.ag (T.cells eN n)] (.ag [.ow 9 n.f0, .ow eN n.f1, .ow eS n.f2]):=fun n hn=>
 Ro n hn (fun k hk=>vM k (by cases hn with | mk _ _ _ _ _ _ h=>exact h k hk))
termination_by n=>SizeOf.sizeOf n
decreasing_by exact mF hk
end Go.Proofs.YtcnfgfomholheaaGreatDoor.Q
end
section
namespace Go.Proofs.YtcnfgfomholheaaGreatDoor.Q
open Go.RowKit Go.Proofs.YtcnfgfomholheaaGreatDoor.Z
set_option linter.unusedVariables false
set_option linter.unusedSimpArgs false
set_option maxRecDepth 100000
set_option maxHeartbeats 4000000
def iG {α:Type} (F:α→Int→Int):List α→Int→Int
 | [],x=>x
 | a::l,x=>thenS (F a x) (iG F l)
theorem nZ {α:Type} {F:α→Int→Int} {d:α} {l:List α} {k:Nat} {x:Int} (h:k<l.length):iG F (l.drop k) x=thenS (F (l.getD k d) x) (iG F (l.drop (k+1))):=by
 rw [List.drop_eq_getElem_cons h]
 have:l.getD k d=l[k]:=by simp [h]
 rw [this];rfl
theorem EP {α:Type} {F:α→Int→Int} {l:List α} {x:Int}:iG F (l.drop l.length) x=x:=by rw [List.drop_length];rfl
theorem qw {α:Type} {F:α→Int→Int}:∀{l:List α} {x:Int},(∀a∈l,∀x,0≤x→F a x≤x)→0≤x→iG F l x≤x
 | [],x,_,_=>Int.le_refl _
 | a::l,x,hF,h=>by
   show thenS _ _≤x
   unfold thenS
   split
   ·omega
   ·have h2:=hF a List.mem_cons_self x h
    have:=qw (F:=F) (l:=l) (x:=F a x) (fun b hb=>hF b (List.mem_cons_of_mem _ hb)) (by omega)
    omega
theorem uz {r x:Int} {K:Int→Int} (h0:0≤x) (h1:r≤x) (h2:0≤r→K r≤r):thenS r K≤x:=by
 unfold thenS;split
 ·omega
 ·have:=h2 (by omega);omega
theorem TL {n:Nat} {x:Int} (h0:0≤x) (h1:x≤1048576) (hn:n≤140737488351232) (c:decide (wrap64 (x - (n:Int))<0)=true):dX n x= -1:=W9 h0 (by omega) hn c
theorem TM {n:Nat} {x:Int} (h0:0≤x) (h1:x≤1048576) (hn:n≤140737488351232) (c:decide (wrap64 (x - (n:Int))<0)=false):dX n x=wrap64 (x - (n:Int)):=(Xa h0 (by omega) hn c).1
theorem abj (l:List Int) (x:Int) (h0:0≤x) (h1:x≤1048576) (hl:l.length≤140737488351232):aC T Tryz.prog 215 [.c (.sl 5 l), .c (.sc (.int .i64 x))] (.c (.sc (.int .i64 (dX l.length x)))):=by
 refine aH hT Tryz.func215 (by kernel_rfl) rfl rfl (fun A=>?_)
 conv=>whnf
 refine Split.mk (fun c=>?_) (fun c=>?_)
 ·conv=>whnf
  exact aG.mk ⟨rfl,rfl⟩ ⟨rfl,rfl⟩ ⟨iv (TL h0 h1 hl c),trivial⟩
 ·conv=>whnf
  exact aG.mk ⟨rfl,rfl⟩ ⟨rfl,rfl⟩ ⟨iv (TM h0 h1 hl c),trivial⟩
theorem adG (a:LS) (x:Int) (h0:0≤x) (h1:x≤1048576) (hl:a.f0.size≤140737488351232):aC T Tryz.prog 27 [.ag (T.cells BG a), .c (.sc (.int .i64 x))] (.c (.sc (.int .i64 (dX a.f0.size x)))):=by
 refine aH hT Tryz.func27 (by kernel_rfl) rfl rfl (fun A=>?_)
 conv=>whnf
 refine Split.mk (fun c=>?_) (fun c=>?_)
 ·conv=>whnf
  exact aG.mk ⟨rfl,rfl⟩ ⟨rfl,rfl⟩ ⟨iv (TL h0 h1 hl c),trivial⟩
 ·conv=>whnf
  exact aG.mk ⟨rfl,rfl⟩ ⟨rfl,rfl⟩ ⟨iv (TM h0 h1 hl c),trivial⟩
theorem aez {n:Nat} {x:Int} (c:decide (dX n x<0)=true):dX n x= -1:=by
 have:=JF c
 unfold dX at*
 split<;>simp_all
def o7 (a:LK) (x:Int):Int:=thenS (dX a.f0.size x) (dX a.f1.length)
theorem acP (a:LK) (x:Int) (h0:0≤x) (h1:x≤1048576) (hl:a.f0.size≤140737488351232) (hb:a.f1.length≤140737488351232):aC T Tryz.prog 186 [.ag (T.cells BH a), .c (.sc (.int .i64 x))] (.c (.sc (.int .i64 (o7 a x)))):=by
 refine aH hT Tryz.func186 (by kernel_rfl) rfl rfl (fun A=>?_)
 conv=>whnf
 refine Split.mk (fun c=>?_) (fun c=>?_)
 ·conv=>whnf
  exact aG.mk ⟨rfl,rfl⟩ ⟨rfl,rfl⟩ ⟨iv (Ew h0 (by omega) hl c),trivial⟩
 ·obtain⟨e1,e2,e3⟩:=Ey (K:=dX a.f1.length) h0 (by omega) hl c
  conv=>whnf
  refine aA.mk _ (abj a.f1 _ e2 (Int.le_trans e3 h1) hb) ?_
  conv=>whnf
  refine Split.mk (fun c=>?_) (fun c=>?_)
  ·conv=>whnf
   exact aG.mk ⟨rfl,rfl⟩ ⟨rfl,rfl⟩ ⟨iv (e1.trans (aez c)),trivial⟩
  ·conv=>whnf
   exact aG.mk ⟨rfl,rfl⟩ ⟨rfl,rfl⟩ ⟨iv e1,trivial⟩
theorem Lr (l:List ByteArray) (x:Int) (h0:0≤x) (h1:x≤1048576) (hl:l.length≤140737488351232) (hs:∀y∈l,(y:ByteArray).size≤140737488351232):aC T Tryz.prog 43 [.c (.sl 9 l), .c (.sc (.int .i64 x))] (.c (.sc (.int .i64 (thenS (dX l.length x) (iG (fun y:ByteArray=>dX y.size) l))))):=by
 have h2:x≤4611686018427387904:=by omega
 refine aH hT Tryz.func43 (by kernel_rfl) rfl rfl (fun A=>?_)
 conv=>whnf
 refine Split.mk (fun c=>?_) (fun c=>?_)
 ·conv=>whnf
  exact aG.mk ⟨rfl,rfl⟩ ⟨rfl,rfl⟩ ⟨iv (Ew h0 h2 hl c),trivial⟩
 ·obtain⟨e1,e2,e3⟩:=Ey (K:=iG (fun y:ByteArray=>dX y.size) l) h0 h2 hl c
  rw [e1]
  generalize hR:iG (fun y:ByteArray=>dX y.size) l (wrap64 (x - (l.length:Int)))=R
  conv=>whnf
  refine dJ.mk {p:Nat × Int // p.1≤l.length∧0≤p.2∧p.2≤x∧iG (fun y:ByteArray=>dX y.size) (l.drop p.1) p.2=R} (fun p=>(0,[(5,i64 p.1.1),(1,i64 p.1.2),(0,im 9 l)],[])) (fun p=>l.length - p.1.1) ⟨(0,_),Nat.zero_le _,e2,e3,hR⟩ (ay [] rfl rfl rfl ⟨⟨rfl,rfl⟩,⟨rfl,rfl⟩,⟨rfl,rfl⟩,trivial⟩ trivial) ?_
  rintro⟨⟨k,y⟩,hk,p0,p1,hR⟩
  have p2:y≤4611686018427387904:=Int.le_trans p1 h2
  have p3:y≤1048576:=Int.le_trans p1 h1
  conv=>whnf
  refine Split.mk (fun c=>?_) (fun c=>?_)
  ·have hk2:k<l.length:=gB c
   conv=>whnf
   refine Need.mk (idx hk2) ?_
   conv=>whnf
   refine Split.mk (fun c=>?_) (fun c=>?_)
   ·conv=>whnf
    exact aG.mk ⟨rfl,rfl⟩ ⟨rfl,rfl⟩ ⟨iv ((hR.symm.trans (nZ (F:=fun y:ByteArray=>dX y.size) (d:=(T.df 9)) hk2)).trans (Ew p0 p2 (hs _ (getD_mem hk2)) c)),trivial⟩
   ·obtain⟨g1,g2,g3⟩:=Ey (K:=iG (fun y:ByteArray=>dX y.size) (l.drop (k+1))) p0 p2 (hs _ (getD_mem hk2)) c
    conv=>whnf
    exact bn.mk ⟨⟨(k+1,_),hk2,g2,Int.le_trans g3 p1,(g1.symm.trans (nZ (F:=fun y:ByteArray=>dX y.size) (d:=(T.df 9)) hk2).symm).trans hR⟩,Nat.sub_lt_sub_left hk2 (Nat.lt_succ_self k),ay [] rfl rfl rfl ⟨⟨rfl,congrArg i64 (dK hk2 hl)⟩,⟨rfl,rfl⟩,⟨rfl,rfl⟩,trivial⟩ trivial⟩
  ·have hk2:k=l.length:=Nat.le_antisymm hk (gG c)
   conv=>whnf
   subst hk2
   exact aG.mk ⟨rfl,rfl⟩ ⟨rfl,rfl⟩ ⟨iv (hR.symm.trans EP),trivial⟩
theorem acQ (l:List LS) (x:Int) (h0:0≤x) (h1:x≤1048576) (hl:l.length≤140737488351232) (hs:∀y∈l,(y:LS).f0.size≤140737488351232):aC T Tryz.prog 94 [.c (.sl BG l), .c (.sc (.int .i64 x))] (.c (.sc (.int .i64 (thenS (dX l.length x) (iG (fun y:LS=>dX y.f0.size) l))))):=by
 have h2:x≤4611686018427387904:=by omega
 refine aH hT Tryz.func94 (by kernel_rfl) rfl rfl (fun A=>?_)
 conv=>whnf
 refine Split.mk (fun c=>?_) (fun c=>?_)
 ·conv=>whnf
  exact aG.mk ⟨rfl,rfl⟩ ⟨rfl,rfl⟩ ⟨iv (Ew h0 h2 hl c),trivial⟩
 ·obtain⟨e1,e2,e3⟩:=Ey (K:=iG (fun y:LS=>dX y.f0.size) l) h0 h2 hl c
  rw [e1]
  generalize hR:iG (fun y:LS=>dX y.f0.size) l (wrap64 (x - (l.length:Int)))=R
  conv=>whnf
  refine dJ.mk {p:Nat × Int // p.1≤l.length∧0≤p.2∧p.2≤x∧iG (fun y:LS=>dX y.f0.size) (l.drop p.1) p.2=R} (fun p=>(0,[(5,i64 p.1.1),(1,i64 p.1.2),(0,im BG l)],[])) (fun p=>l.length - p.1.1) ⟨(0,_),Nat.zero_le _,e2,e3,hR⟩ (ay [] rfl rfl rfl ⟨⟨rfl,rfl⟩,⟨rfl,rfl⟩,⟨rfl,rfl⟩,trivial⟩ trivial) ?_
  rintro⟨⟨k,y⟩,hk,p0,p1,hR⟩
  have p2:y≤4611686018427387904:=Int.le_trans p1 h2
  have p3:y≤1048576:=Int.le_trans p1 h1
  conv=>whnf
  refine Split.mk (fun c=>?_) (fun c=>?_)
  ·have hk2:k<l.length:=gB c
   conv=>whnf
   refine Need.mk (idx hk2) ?_
   conv=>whnf
   refine aA.mk _ (adG (l.getD k (T.df BG)) y p0 p3 (hs _ (getD_mem hk2))) ?_
   conv=>whnf
   refine Split.mk (fun c=>?_) (fun c=>?_)
   ·conv=>whnf
    exact aG.mk ⟨rfl,rfl⟩ ⟨rfl,rfl⟩ ⟨iv ((hR.symm.trans (nZ (F:=fun y:LS=>dX y.f0.size) (d:=(T.df BG)) hk2)).trans (D9 c)),trivial⟩
   ·obtain⟨g1,g2⟩:=Ea (K:=iG (fun y:LS=>dX y.f0.size) (l.drop (k+1))) c
    conv=>whnf
    exact bn.mk ⟨⟨(k+1,(fun y:LS=>dX y.f0.size) (l.getD k (T.df BG)) y),hk2,g2,Int.le_trans (jg p0) p1,(g1.symm.trans (nZ (F:=fun y:LS=>dX y.f0.size) (d:=(T.df BG)) hk2).symm).trans hR⟩,Nat.sub_lt_sub_left hk2 (Nat.lt_succ_self k),ay [] rfl rfl rfl ⟨⟨rfl,congrArg i64 (dK hk2 hl)⟩,⟨rfl,rfl⟩,⟨rfl,rfl⟩,trivial⟩ trivial⟩
  ·have hk2:k=l.length:=Nat.le_antisymm hk (gG c)
   conv=>whnf
   subst hk2
   exact aG.mk ⟨rfl,rfl⟩ ⟨rfl,rfl⟩ ⟨iv (hR.symm.trans EP),trivial⟩
theorem JG {a:LK} {x:Int} (h:0≤x):o7 a x≤x:=uz h (jg h) (fun h=>jg h)
theorem aaA (l:List LK) (x:Int) (h0:0≤x) (h1:x≤1048576) (hl:l.length≤140737488351232) (hs:∀y∈l,(y:LK).f0.size≤140737488351232∧(y:LK).f1.length≤140737488351232):aC T Tryz.prog 119 [.c (.sl BH l), .c (.sc (.int .i64 x))] (.c (.sc (.int .i64 (thenS (dX l.length x) (iG (o7) l))))):=by
 have h2:x≤4611686018427387904:=by omega
 refine aH hT Tryz.func119 (by kernel_rfl) rfl rfl (fun A=>?_)
 conv=>whnf
 refine Split.mk (fun c=>?_) (fun c=>?_)
 ·conv=>whnf
  exact aG.mk ⟨rfl,rfl⟩ ⟨rfl,rfl⟩ ⟨iv (Ew h0 h2 hl c),trivial⟩
 ·obtain⟨e1,e2,e3⟩:=Ey (K:=iG (o7) l) h0 h2 hl c
  rw [e1]
  generalize hR:iG (o7) l (wrap64 (x - (l.length:Int)))=R
  conv=>whnf
  refine dJ.mk {p:Nat × Int // p.1≤l.length∧0≤p.2∧p.2≤x∧iG (o7) (l.drop p.1) p.2=R} (fun p=>(0,[(5,i64 p.1.1),(1,i64 p.1.2),(0,im BH l)],[])) (fun p=>l.length - p.1.1) ⟨(0,_),Nat.zero_le _,e2,e3,hR⟩ (ay [] rfl rfl rfl ⟨⟨rfl,rfl⟩,⟨rfl,rfl⟩,⟨rfl,rfl⟩,trivial⟩ trivial) ?_
  rintro⟨⟨k,y⟩,hk,p0,p1,hR⟩
  have p2:y≤4611686018427387904:=Int.le_trans p1 h2
  have p3:y≤1048576:=Int.le_trans p1 h1
  conv=>whnf
  refine Split.mk (fun c=>?_) (fun c=>?_)
  ·have hk2:k<l.length:=gB c
   conv=>whnf
   refine Need.mk (idx hk2) ?_
   conv=>whnf
   refine aA.mk _ (acP (l.getD k (T.df BH)) y p0 p3 (hs _ (getD_mem hk2)).1 (hs _ (getD_mem hk2)).2) ?_
   conv=>whnf
   refine Split.mk (fun c=>?_) (fun c=>?_)
   ·conv=>whnf
    exact aG.mk ⟨rfl,rfl⟩ ⟨rfl,rfl⟩ ⟨iv ((hR.symm.trans (nZ (F:=o7) (d:=(T.df BH)) hk2)).trans (D9 c)),trivial⟩
   ·obtain⟨g1,g2⟩:=Ea (K:=iG (o7) (l.drop (k+1))) c
    conv=>whnf
    exact bn.mk ⟨⟨(k+1,(o7) (l.getD k (T.df BH)) y),hk2,g2,Int.le_trans (JG p0) p1,(g1.symm.trans (nZ (F:=o7) (d:=(T.df BH)) hk2).symm).trans hR⟩,Nat.sub_lt_sub_left hk2 (Nat.lt_succ_self k),ay [] rfl rfl rfl ⟨⟨rfl,congrArg i64 (dK hk2 hl)⟩,⟨rfl,rfl⟩,⟨rfl,rfl⟩,trivial⟩ trivial⟩
  ·have hk2:k=l.length:=Nat.le_antisymm hk (gG c)
   conv=>whnf
   subst hk2
   exact aG.mk ⟨rfl,rfl⟩ ⟨rfl,rfl⟩ ⟨iv (hR.symm.trans EP),trivial⟩
theorem VF (l:List LN) (x:Int) (h0:0≤x) (h1:x≤1048576) (hl:l.length≤140737488351232) (F:LN→Int→Int) (ih:∀a∈l,∀x,0≤x→x≤1048576→aC T Tryz.prog 18 [.ag (T.cells qN a), .c (.sc (.int .i64 x))] (.c (.sc (.int .i64 (F a x))))∧F a x≤x):aC T Tryz.prog 93 [.c (.sl qN l), .c (.sc (.int .i64 x))] (.c (.sc (.int .i64 (thenS (dX l.length x) (iG (F) l))))):=by
 have h2:x≤4611686018427387904:=by omega
 refine aH hT Tryz.func93 (by kernel_rfl) rfl rfl (fun A=>?_)
 conv=>whnf
 refine Split.mk (fun c=>?_) (fun c=>?_)
 ·conv=>whnf
  exact aG.mk ⟨rfl,rfl⟩ ⟨rfl,rfl⟩ ⟨iv (Ew h0 h2 hl c),trivial⟩
 ·obtain⟨e1,e2,e3⟩:=Ey (K:=iG (F) l) h0 h2 hl c
  rw [e1]
  generalize hR:iG (F) l (wrap64 (x - (l.length:Int)))=R
  conv=>whnf
  refine dJ.mk {p:Nat × Int // p.1≤l.length∧0≤p.2∧p.2≤x∧iG (F) (l.drop p.1) p.2=R} (fun p=>(0,[(5,i64 p.1.1),(1,i64 p.1.2),(0,im qN l)],[])) (fun p=>l.length - p.1.1) ⟨(0,_),Nat.zero_le _,e2,e3,hR⟩ (ay [] rfl rfl rfl ⟨⟨rfl,rfl⟩,⟨rfl,rfl⟩,⟨rfl,rfl⟩,trivial⟩ trivial) ?_
  rintro⟨⟨k,y⟩,hk,p0,p1,hR⟩
  have p2:y≤4611686018427387904:=Int.le_trans p1 h2
  have p3:y≤1048576:=Int.le_trans p1 h1
  conv=>whnf
  refine Split.mk (fun c=>?_) (fun c=>?_)
  ·have hk2:k<l.length:=gB c
   conv=>whnf
   refine Need.mk (idx hk2) ?_
   conv=>whnf
   refine aA.mk _ ((ih (l.getD k (T.df qN)) (getD_mem hk2) y p0 p3).1) ?_
   conv=>whnf
   refine Split.mk (fun c=>?_) (fun c=>?_)
   ·conv=>whnf
    exact aG.mk ⟨rfl,rfl⟩ ⟨rfl,rfl⟩ ⟨iv ((hR.symm.trans (nZ (F:=F) (d:=(T.df qN)) hk2)).trans (D9 c)),trivial⟩
   ·obtain⟨g1,g2⟩:=Ea (K:=iG (F) (l.drop (k+1))) c
    conv=>whnf
    exact bn.mk ⟨⟨(k+1,(F) (l.getD k (T.df qN)) y),hk2,g2,Int.le_trans ((ih (l.getD k (T.df qN)) (getD_mem hk2) y p0 p3).2) p1,(g1.symm.trans (nZ (F:=F) (d:=(T.df qN)) hk2).symm).trans hR⟩,Nat.sub_lt_sub_left hk2 (Nat.lt_succ_self k),ay [] rfl rfl rfl ⟨⟨rfl,congrArg i64 (dK hk2 hl)⟩,⟨rfl,rfl⟩,⟨rfl,rfl⟩,trivial⟩ trivial⟩
  ·have hk2:k=l.length:=Nat.le_antisymm hk (gG c)
   conv=>whnf
   subst hk2
   exact aG.mk ⟨rfl,rfl⟩ ⟨rfl,rfl⟩ ⟨iv (hR.symm.trans EP),trivial⟩
theorem JE {α:Type} {F:α→Int→Int} (hF:∀a x,0≤x→F a x<0→F a x= -1):∀{l:List α} {x:Int},0≤x→iG F l x<0→iG F l x= -1
 | [],x,h,h2=>by have:x<0:=h2;omega
 | a::l,x,h,h2=>by
   show thenS _ _= -1
   replace h2:thenS (F a x) (iG F l)<0:=h2
   by_cases hr:F a x<0
   ·unfold thenS;rw [if_pos hr]
   ·unfold thenS at*;rw [if_neg hr] at*;exact JE hF (by omega) h2
theorem RZ {n:Nat} {x:Int} (h:dX n x<0):dX n x= -1:=by unfold dX at*;split<;>simp_all
theorem aeA {l:List LS} {x:Int} (c:decide (thenS (dX l.length x) (iG (fun y:LS=>dX y.f0.size) l)<0)=true):thenS (dX l.length x) (iG (fun y:LS=>dX y.f0.size) l)= -1:=by
 have h:=JF c
 by_cases hr:dX l.length x<0
 ·unfold thenS;rw [if_pos hr]
 ·unfold thenS at*;rw [if_neg hr] at*;exact JE (fun a x _ h=>RZ h) (by omega) h
abbrev EZ (l:List ByteArray) (x:Int):Int:=thenS (dX l.length x) (iG (fun y:ByteArray=>dX y.size) l)
abbrev AU (l:List LS) (x:Int):Int:=thenS (dX l.length x) (iG (fun y:LS=>dX y.f0.size) l)
theorem Oq {l:List ByteArray} {x:Int} (h:0≤x):EZ l x≤x:=uz h (jg h) (fun h=>qw (fun a _ x hx=>jg hx) h)
theorem acR {l:List LS} {x:Int} (h:0≤x):AU l x≤x:=uz h (jg h) (fun h=>qw (fun a _ x hx=>jg hx) h)
mutual
def mG:LN→Int→Int
 | ⟨a,b,c⟩,x=>thenS (EZ a x) fun x=>thenS (thenS (dX b.length x) (Qs b)) fun x=>AU c x
def Qs:List LN→Int→Int
 | [],x=>x
 | a::l,x=>thenS (mG a x) (Qs l)
end
theorem TN:∀l:List LN,Qs l=iG mG l
 | []=>by funext x;rw [Qs];rfl
 | a::l=>by funext x;rw [Qs,TN l];rfl
theorem Oo (n:LN) (x:Int):mG n x=thenS (EZ n.f0 x) fun x=>thenS (thenS (dX n.f1.length x) (iG mG n.f1)) fun x=>AU n.f2 x:=by cases n;rw [mG,TN]
inductive xZ:LN→Prop
 | mk (n:LN) (h0:n.f0.length≤140737488351232) (z0:∀y∈n.f0,(y:ByteArray).size≤140737488351232) (h1:n.f1.length≤140737488351232) (h2:n.f2.length≤140737488351232) (z2:∀y∈n.f2,(y:LS).f0.size≤140737488351232) (hk:∀k∈n.f1,xZ k):xZ n
theorem xZ.kid {n:LN} (h:xZ n):∀k∈n.f1,xZ k:=by cases h;assumption
theorem vP:∀(n:LN) {x:Int},0≤x→mG n x≤x:=fun n x h=>by
 rw [Oo]
 exact uz h (Oq h) (fun h=>uz h (uz h (jg h) (fun h=>qw (fun a ha x hx=>vP a hx) h)) (fun h=>acR h))
termination_by n=>SizeOf.sizeOf n
decreasing_by exact yN ha
theorem X8 (a:LN) (ha:xZ a) (x:Int) (h0:0≤x) (h1:x≤1048576) (ih:∀x,0≤x→x≤1048576→aC T Tryz.prog 93 [.c (.sl qN a.f1), .c (.sc (.int .i64 x))] (.c (.sc (.int .i64 (thenS (dX a.f1.length x) (iG mG a.f1)))))):aC T Tryz.prog 18 [.ag (T.cells qN a), .c (.sc (.int .i64 x))] (.c (.sc (.int .i64 (mG a x)))):=by
 obtain⟨_,l0,z0,l1,l2,z2,_⟩:=ha
 rw [Oo]
 refine aH hT Tryz.func18 (by kernel_rfl) rfl rfl (fun A=>?_)
 conv=>whnf
 refine aA.mk _ (Lr a.f0 x h0 h1 l0 z0) ?_
 conv=>whnf
 refine Split.mk (fun c=>?_) (fun c=>?_)
 ·conv=>whnf
  exact aG.mk ⟨rfl,rfl⟩ ⟨rfl,rfl⟩ ⟨iv (D9 c),trivial⟩
 obtain⟨g1,g2⟩:=Ea (K:=fun x=>thenS (thenS (dX a.f1.length x) (iG mG a.f1)) fun x=>AU a.f2 x) c
 have g3:EZ a.f0 x≤1048576:=Int.le_trans (Oq h0) h1
 rw [g1]
 clear c g1
 conv=>whnf
 refine aA.mk _ (ih _ g2 g3) ?_
 conv=>whnf
 refine Split.mk (fun c=>?_) (fun c=>?_)
 ·conv=>whnf
  exact aG.mk ⟨rfl,rfl⟩ ⟨rfl,rfl⟩ ⟨iv (D9 c),trivial⟩
 obtain⟨g4,g5⟩:=Ea (K:=fun x=>AU a.f2 x) c
 have g6:thenS (dX a.f1.length (EZ a.f0 x)) (iG mG a.f1)≤1048576:=Int.le_trans (uz g2 (jg g2) (fun h=>qw (fun a _ x hx=>vP a hx) h)) g3
 rw [g4]
 clear c g4
 conv=>whnf
 refine aA.mk _ (acQ a.f2 _ g5 g6 l2 z2) ?_
 conv=>whnf
 refine Split.mk (fun c=>?_) (fun c=>?_)
 ·conv=>whnf
  exact aG.mk ⟨rfl,rfl⟩ ⟨rfl,rfl⟩ ⟨iv (aeA c),trivial⟩
 ·conv=>whnf
  exact aG.mk ⟨rfl,rfl⟩ ⟨rfl,rfl⟩ ⟨rfl,trivial⟩
theorem Wp:∀(a:LN),xZ a→∀(x:Int) (h0:0≤x) (h1:x≤1048576),aC T Tryz.prog 18 [.ag (T.cells qN a), .c (.sc (.int .i64 x))] (.c (.sc (.int .i64 (mG a x)))):=fun a ha x h0 h1=>
 X8 a ha x h0 h1 (fun y g0 g1=>VF a.f1 y g0 g1 (by cases ha;assumption) mG (fun k hk z z0 z1=>⟨Wp k (ha.kid k hk) z z0 z1,vP k z0⟩))
termination_by a=>SizeOf.sizeOf a
decreasing_by exact yN hk
end Go.Proofs.YtcnfgfomholheaaGreatDoor.Q
end
