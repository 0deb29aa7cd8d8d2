/- Several texts of this claim in one (a claim holds at most 60 files). -/
import Derived.Test.YtcnfgfomholheaaGreatDoorZT
import Derived.Test.YtcnfgfomholheaaGreatDoorZc
import Derived.Test.YtcnfgfomholheaaGreatDoorT5
import Derived.Test.YtcnfgfomholheaaGreatDoorT7
import Derived.Test.YtcnfgfomholheaaGreatDoorPx8
section
namespace Go.Proofs.YtcnfgfomholheaaGreatDoor.Q
open Go.RowKit Go.Proofs.YtcnfgfomholheaaGreatDoor.Z
set_option linter.unusedVariables false
set_option linter.unusedSimpArgs false
set_option maxRecDepth 100000
set_option maxHeartbeats 4000000
abbrev i64 (n:Int):Slot T:= .c (.sc (.int .i64 n))
abbrev im (e:Nat) (l:List (T.Tb e)):Slot T:= .c (.im none e l)
abbrev eN:Nat:=31
abbrev eS:Nat:=44
abbrev eE:Nat:=96
abbrev qj:Nat:=26
abbrev EC:Nat:=41
abbrev SN:=Af
abbrev SS:=ED
abbrev SE:=G5
abbrev LN:=wH
abbrev LS:=xY
theorem V7 (a b:List ByteArray) (ha:a.length≤140737488351232):aW T Tryz.prog 47 [.c (.sl 9 a), .c (.sl 9 b)] (.c (.sc (.bool (same a b)))):=by
 refine bM hT Tryz.func47 (by kernel_rfl) rfl rfl (fun A=>?_)
 conv=>whnf
 refine Split.mk (fun c=>?_) (fun c=>?_)
 ·conv=>whnf
  exact aV.mk ⟨rfl,rfl⟩ ⟨rfl,rfl⟩ ⟨bv (mQ (fun e=>NY c (congrArg List.length e))),trivial⟩
 ·have hl:a.length=b.length:=NZ c
  conv=>whnf
  refine iO.mk {k:Nat // k≤a.length∧a.take k=b.take k} (fun p=>(0,[(5,i64 p.1),(0,im 9 a),(1,im 9 b)],[])) (fun p=>a.length - p.1) ⟨0,Nat.zero_le _,rfl⟩ (aI [] rfl rfl rfl ⟨⟨rfl,rfl⟩,⟨rfl,rfl⟩,⟨rfl,rfl⟩,trivial⟩ trivial) ?_
  rintro⟨k,hk,ht⟩
  conv=>whnf
  refine Split.mk (fun c=>?_) (fun c=>?_)
  ·have hk2:k<a.length:=jP c
   conv=>whnf
   refine Need.mk (idx hk2) ?_
   conv=>whnf
   refine Need.mk (idx (hl▸hk2)) ?_
   conv=>whnf
   refine dD.mk ⟨by kernel_rfl,by kernel_rfl⟩ ?_
   conv=>whnf
   refine Split.mk (fun c=>?_) (fun c=>?_)
   ·conv=>whnf
    exact aV.mk ⟨rfl,rfl⟩ ⟨rfl,rfl⟩ ⟨bv (mQ (fun e=>Yy c (congrArg (fun l=>l.getD k (T.df 9)) e))),trivial⟩
   ·conv=>whnf
    exact dA.mk ⟨⟨k+1,hk2,AU (d:=(T.df 9)) hk2 (hl▸hk2) ht (abv c)⟩,Nat.sub_lt_sub_left hk2 (Nat.lt_succ_self k),aI [] rfl rfl rfl ⟨⟨rfl,congrArg i64 (iy hk2 ha)⟩,⟨rfl,rfl⟩,⟨rfl,rfl⟩,trivial⟩ trivial⟩
  ·have hk2:k=a.length:=Nat.le_antisymm hk (jQ c)
   conv=>whnf
   subst hk2
   exact aV.mk ⟨rfl,rfl⟩ ⟨rfl,rfl⟩ ⟨bv (AV (Fb hl ht)),trivial⟩
theorem Yz {a b:SS} (h0:a.f0=b.f0) (h1:a.f1=b.f1) (h2:a.f2=b.f2):a=b:=by cases a;cases b;simp_all
theorem acZ (a b:SS):aW T Tryz.prog 117 [.ag (T.cells eS a), .ag (T.cells eS b)] (.c (.sc (.bool (same a b)))):=by
 refine bM hT Tryz.func117 (by kernel_rfl) rfl rfl (fun A=>?_)
 conv=>whnf
 refine Split.mk (fun c=>?_) (fun c=>?_)
 ·conv=>whnf
  exact aV.mk ⟨rfl,rfl⟩ ⟨rfl,rfl⟩ ⟨bv (mQ (fun e=>Yy c (congrArg (fun z:SS=>z.f0) e))),trivial⟩
 have c0:a.f0=b.f0:=abv c
 clear c
 conv=>whnf
 refine Split.mk (fun c=>?_) (fun c=>?_)
 ·conv=>whnf
  exact aV.mk ⟨rfl,rfl⟩ ⟨rfl,rfl⟩ ⟨bv (mQ (fun e=>Ju c (congrArg (fun z:SS=>z.f1) e))),trivial⟩
 have c1:a.f1=b.f1:=abw c
 clear c
 conv=>whnf
 refine Split.mk (fun c=>?_) (fun c=>?_)
 ·conv=>whnf
  exact aV.mk ⟨rfl,rfl⟩ ⟨rfl,rfl⟩ ⟨bv (mQ (fun e=>Ju c (congrArg (fun z:SS=>z.f2) e))),trivial⟩
 have c2:a.f2=b.f2:=abw c
 clear c
 conv=>whnf
 exact aV.mk ⟨rfl,rfl⟩ ⟨rfl,rfl⟩ ⟨bv (AV (Yz c0 c1 c2)),trivial⟩
theorem V8 (a b:List SS) (ha:a.length≤140737488351232):aW T Tryz.prog 33 [.c (.sl eS a), .c (.sl eS b)] (.c (.sc (.bool (same a b)))):=by
 refine bM hT Tryz.func33 (by kernel_rfl) rfl rfl (fun A=>?_)
 conv=>whnf
 refine Split.mk (fun c=>?_) (fun c=>?_)
 ·conv=>whnf
  exact aV.mk ⟨rfl,rfl⟩ ⟨rfl,rfl⟩ ⟨bv (mQ (fun e=>NY c (congrArg List.length e))),trivial⟩
 ·have hl:a.length=b.length:=NZ c
  conv=>whnf
  refine iO.mk {k:Nat // k≤a.length∧a.take k=b.take k} (fun p=>(0,[(5,i64 p.1),(0,im eS a),(1,im eS b)],[])) (fun p=>a.length - p.1) ⟨0,Nat.zero_le _,rfl⟩ (aI [] rfl rfl rfl ⟨⟨rfl,rfl⟩,⟨rfl,rfl⟩,⟨rfl,rfl⟩,trivial⟩ trivial) ?_
  rintro⟨k,hk,ht⟩
  conv=>whnf
  refine Split.mk (fun c=>?_) (fun c=>?_)
  ·have hk2:k<a.length:=jP c
   conv=>whnf
   refine Need.mk (idx hk2) ?_
   conv=>whnf
   refine Need.mk (idx (hl▸hk2)) ?_
   conv=>whnf
   refine aU.mk _ (acZ _ _) ?_
   conv=>whnf
   refine dD.mk ⟨by kernel_rfl,by kernel_rfl⟩ ?_
   conv=>whnf
   refine Split.mk (fun c=>?_) (fun c=>?_)
   ·conv=>whnf
    exact aV.mk ⟨rfl,rfl⟩ ⟨rfl,rfl⟩ ⟨bv (mQ (fun e=>kH (dX c) (congrArg (fun l=>l.getD k (T.df eS)) e))),trivial⟩
   ·conv=>whnf
    exact dA.mk ⟨⟨k+1,hk2,AU (d:=(T.df eS)) hk2 (hl▸hk2) ht (of_same (fH c))⟩,Nat.sub_lt_sub_left hk2 (Nat.lt_succ_self k),aI [] rfl rfl rfl ⟨⟨rfl,congrArg i64 (iy hk2 ha)⟩,⟨rfl,rfl⟩,⟨rfl,rfl⟩,trivial⟩ trivial⟩
  ·have hk2:k=a.length:=Nat.le_antisymm hk (jQ c)
   conv=>whnf
   subst hk2
   exact aV.mk ⟨rfl,rfl⟩ ⟨rfl,rfl⟩ ⟨bv (AV (Fb hl ht)),trivial⟩
inductive Bd:SN→Prop
 | mk (n:SN) (h0:n.f0.length≤2097152) (z0:∀x∈n.f0,x.size≤1048576) (h1:n.f1.length≤2097152) (h2:n.f2.length≤2097152) (z2:∀x∈n.f2,x.f0.size≤1048576) (hk:∀k∈n.f1,Bd k):Bd n
theorem Bd.l0 {n:SN} (h:Bd n):n.f0.length≤2097152:=by cases h;assumption
theorem Bd.z0 {n:SN} (h:Bd n):∀x∈n.f0,x.size≤1048576:=by cases h;assumption
theorem Bd.l1 {n:SN} (h:Bd n):n.f1.length≤2097152:=by cases h;assumption
theorem Bd.l2 {n:SN} (h:Bd n):n.f2.length≤2097152:=by cases h;assumption
theorem Bd.z2 {n:SN} (h:Bd n):∀x∈n.f2,x.f0.size≤1048576:=by cases h;assumption
theorem Bd.kid {n:SN} (h:Bd n):∀k∈n.f1,Bd k:=by cases h;assumption
theorem oN {n k:SN} (h:k∈n.f1):SizeOf.sizeOf k<SizeOf.sizeOf n:=by
 cases n with
 | mk a b c=>
   have h2:=List.sizeOf_lt_of_mem h
   simp only [Af.mk.sizeOf_spec] at h2⊢
   omega
theorem xZ {n k:LN} (h:k∈n.f1):SizeOf.sizeOf k<SizeOf.sizeOf n:=by
 cases n with
 | mk a b c=>
   have h2:=List.sizeOf_lt_of_mem h
   simp only [wH.mk.sizeOf_spec] at h2⊢
   omega
theorem Tv (a b:List SN) (ha:a.length≤140737488351232) (ih:∀k∈a,∀b:SN,aW T Tryz.prog 22 [.ag (T.cells eN k), .ag (T.cells eN b)] (.c (.sc (.bool (same k b))))):aW T Tryz.prog 102 [.c (.sl eN a), .c (.sl eN b)] (.c (.sc (.bool (same a b)))):=by
 refine bM hT Tryz.func102 (by kernel_rfl) rfl rfl (fun A=>?_)
 conv=>whnf
 refine Split.mk (fun c=>?_) (fun c=>?_)
 ·conv=>whnf
  exact aV.mk ⟨rfl,rfl⟩ ⟨rfl,rfl⟩ ⟨bv (mQ (fun e=>NY c (congrArg List.length e))),trivial⟩
 ·have hl:a.length=b.length:=NZ c
  conv=>whnf
  refine iO.mk {k:Nat // k≤a.length∧a.take k=b.take k} (fun p=>(0,[(5,i64 p.1),(0,im eN a),(1,im eN b)],[])) (fun p=>a.length - p.1) ⟨0,Nat.zero_le _,rfl⟩ (aI [] rfl rfl rfl ⟨⟨rfl,rfl⟩,⟨rfl,rfl⟩,⟨rfl,rfl⟩,trivial⟩ trivial) ?_
  rintro⟨k,hk,ht⟩
  conv=>whnf
  refine Split.mk (fun c=>?_) (fun c=>?_)
  ·have hk2:k<a.length:=jP c
   conv=>whnf
   refine Need.mk (idx hk2) ?_
   conv=>whnf
   refine Need.mk (idx (hl▸hk2)) ?_
   conv=>whnf
   refine aU.mk _ (ih _ (getD_mem hk2) _) ?_
   conv=>whnf
   refine dD.mk ⟨by kernel_rfl,by kernel_rfl⟩ ?_
   conv=>whnf
   refine Split.mk (fun c=>?_) (fun c=>?_)
   ·conv=>whnf
    exact aV.mk ⟨rfl,rfl⟩ ⟨rfl,rfl⟩ ⟨bv (mQ (fun e=>kH (dX c) (congrArg (fun l=>l.getD k (T.df eN)) e))),trivial⟩
   ·conv=>whnf
    exact dA.mk ⟨⟨k+1,hk2,AU (d:=(T.df eN)) hk2 (hl▸hk2) ht (of_same (fH c))⟩,Nat.sub_lt_sub_left hk2 (Nat.lt_succ_self k),aI [] rfl rfl rfl ⟨⟨rfl,congrArg i64 (iy hk2 ha)⟩,⟨rfl,rfl⟩,⟨rfl,rfl⟩,trivial⟩ trivial⟩
  ·have hk2:k=a.length:=Nat.le_antisymm hk (jQ c)
   conv=>whnf
   subst hk2
   exact aV.mk ⟨rfl,rfl⟩ ⟨rfl,rfl⟩ ⟨bv (AV (Fb hl ht)),trivial⟩
theorem N7 {a b:SN} (h0:a.f0=b.f0) (h1:a.f1=b.f1) (h2:a.f2=b.f2):a=b:=by cases a;cases b;simp_all
theorem V9 (a b:SN) (ha:Bd a) (ih:∀b:List SN,aW T Tryz.prog 102 [.c (.sl eN a.f1), .c (.sl eN b)] (.c (.sc (.bool (same a.f1 b))))):aW T Tryz.prog 22 [.ag (T.cells eN a), .ag (T.cells eN b)] (.c (.sc (.bool (same a b)))):=by
 refine bM hT Tryz.func22 (by kernel_rfl) rfl rfl (fun A=>?_)
 conv=>whnf
 refine aU.mk _ (V7 a.f0 b.f0 (Nat.le_trans ha.l0 (by decide))) ?_
 conv=>whnf
 refine Split.mk (fun c=>?_) (fun c=>?_)
 ·conv=>whnf
  exact aV.mk ⟨rfl,rfl⟩ ⟨rfl,rfl⟩ ⟨bv (mQ (fun e=>kH (dX c) (congrArg (fun z:SN=>z.f0) e))),trivial⟩
 have c0:a.f0=b.f0:=of_same (fH c)
 clear c
 conv=>whnf
 refine aU.mk _ (ih b.f1) ?_
 conv=>whnf
 refine Split.mk (fun c=>?_) (fun c=>?_)
 ·conv=>whnf
  exact aV.mk ⟨rfl,rfl⟩ ⟨rfl,rfl⟩ ⟨bv (mQ (fun e=>kH (dX c) (congrArg (fun z:SN=>z.f1) e))),trivial⟩
 have c1:a.f1=b.f1:=of_same (fH c)
 clear c
 conv=>whnf
 refine aU.mk _ (V8 a.f2 b.f2 (Nat.le_trans ha.l2 (by decide))) ?_
 conv=>whnf
 refine Split.mk (fun c=>?_) (fun c=>?_)
 ·conv=>whnf
  exact aV.mk ⟨rfl,rfl⟩ ⟨rfl,rfl⟩ ⟨bv (mQ (fun e=>kH (dX c) (congrArg (fun z:SN=>z.f2) e))),trivial⟩
 have c2:a.f2=b.f2:=of_same (fH c)
 clear c
 conv=>whnf
 exact aV.mk ⟨rfl,rfl⟩ ⟨rfl,rfl⟩ ⟨bv (AV (N7 c0 c1 c2)),trivial⟩
theorem Wh:∀(a:SN),Bd a→∀b:SN,aW T Tryz.prog 22 [.ag (T.cells eN a), .ag (T.cells eN b)] (.c (.sc (.bool (same a b)))):=fun a ha b=>
 V9 a b ha (fun c=>Tv a.f1 c (Nat.le_trans ha.l1 (by decide)) (fun k hk=>Wh k (ha.kid k hk)))
termination_by a=>SizeOf.sizeOf a
decreasing_by exact oN hk
theorem Wi (a:List ByteArray) (ha:a.length≤1048576):aW T Tryz.prog 45 [.c (.sl 9 a)] (.c (.ow 9 a)):=by
 refine bM hT Tryz.func45 (by kernel_rfl) rfl rfl (fun A=>?_)
 conv=>whnf
 refine Need.mk (mk_ (by decide) ha) ?_
 conv=>whnf
 refine iO.mk {k:Nat // k≤a.length} (fun p=>(2,[(4,i64 p.1),(3, .c (.hd 0)),(0,im 9 a)],[(0, .row 1 9 (fill (fun x=>x) (⟨#[]⟩:ByteArray) a p.1))])) (fun p=>a.length - p.1) ⟨0,Nat.zero_le _⟩ (aI [(0,0)] rfl rfl rfl ⟨⟨rfl,rfl⟩,⟨rfl,rfl⟩,⟨rfl,rfl⟩,trivial⟩ ⟨kV AX.symm,trivial⟩) ?_
 rintro⟨k,hk⟩
 conv=>whnf
 refine Split.mk (fun c=>?_) (fun c=>?_)
 ·have hk2:k<a.length:=jP c
  conv=>whnf
  refine Need.mk (idx hk2) ?_
  conv=>whnf
  refine Need.mk (idx (Nat.lt_of_lt_of_eq hk2 (Fe hk).symm)) ?_
  conv=>whnf
  exact dA.mk ⟨⟨k+1,hk2⟩,Nat.sub_lt_sub_left hk2 (Nat.lt_succ_self k),aI [(0,0)] rfl rfl rfl ⟨⟨rfl,congrArg i64 (iy hk2 (Nat.le_trans ha (by decide)))⟩,⟨rfl,rfl⟩,⟨rfl,rfl⟩,trivial⟩ ⟨kV (Fg hk2),trivial⟩⟩
 ·have hk2:k=a.length:=Nat.le_antisymm hk (jQ c)
  conv=>whnf
  subst hk2
  exact aV.mk ⟨rfl,rfl⟩ ⟨rfl,rfl⟩ ⟨kV (Fh.trans ac0),trivial⟩
def tS (x:LS):SS:=⟨x.f0,x.f1,x.f2⟩
theorem toSub (a:LS):aW T Tryz.prog 29 [.ag (T.cells EC a)] (.ag [.sc (.string a.f0), .sc (.int .i64 a.f1), .sc (.int .i64 a.f2)]):=by
 refine bM hT Tryz.func29 (by kernel_rfl) rfl rfl (fun A=>?_)
 conv=>whnf
 exact aV.mk ⟨rfl,rfl⟩ ⟨rfl,rfl⟩ ⟨rfl,rfl,rfl,trivial⟩
theorem abx (a:List LS) (ha:a.length≤1048576):aW T Tryz.prog 98 [.c (.sl EC a)] (.c (.ow eS (a.map tS))):=by
 refine bM hT Tryz.func98 (by kernel_rfl) rfl rfl (fun A=>?_)
 conv=>whnf
 refine Need.mk (mk_ (by decide) ha) ?_
 conv=>whnf
 refine iO.mk {k:Nat // k≤a.length} (fun p=>(2,[(4,i64 p.1),(3, .c (.hd 0)),(0,im EC a)],[(0, .row 1 eS (fill (tS) z44 a p.1))])) (fun p=>a.length - p.1) ⟨0,Nat.zero_le _⟩ (aI [(0,0)] rfl rfl rfl ⟨⟨rfl,rfl⟩,⟨rfl,rfl⟩,⟨rfl,rfl⟩,trivial⟩ ⟨kV AX.symm,trivial⟩) ?_
 rintro⟨k,hk⟩
 conv=>whnf
 refine Split.mk (fun c=>?_) (fun c=>?_)
 ·have hk2:k<a.length:=jP c
  conv=>whnf
  refine Need.mk (idx hk2) ?_
  conv=>whnf
  refine aU.mk _ (toSub _) ?_
  conv=>whnf
  refine Need.mk (idx (Nat.lt_of_lt_of_eq hk2 (Fe hk).symm)) ?_
  conv=>whnf
  exact dA.mk ⟨⟨k+1,hk2⟩,Nat.sub_lt_sub_left hk2 (Nat.lt_succ_self k),aI [(0,0)] rfl rfl rfl ⟨⟨rfl,congrArg i64 (iy hk2 (Nat.le_trans ha (by decide)))⟩,⟨rfl,rfl⟩,⟨rfl,rfl⟩,trivial⟩ ⟨kV (Fg hk2),trivial⟩⟩
 ·have hk2:k=a.length:=Nat.le_antisymm hk (jQ c)
  conv=>whnf
  subst hk2
  exact aV.mk ⟨rfl,rfl⟩ ⟨rfl,rfl⟩ ⟨kV (Fh),trivial⟩
mutual
def tN:LN→SN
 | ⟨a,b,c⟩=>⟨a,ZJ b,c.map tS⟩
def ZJ:List LN→List SN
 | []=>[]
 | x::r=>tN x::ZJ r
end
theorem Ri:∀l:List LN,ZJ l=l.map tN
 | []=>rfl
 | x::r=>by rw [ZJ,Ri r,List.map_cons]
theorem adV (n:SN):(⟨n.f0,n.f1,n.f2⟩:SN)=n:=by cases n;rfl
theorem Tz (n:LN):tN n=⟨n.f0,n.f1.map tN,n.f2.map tS⟩:=by cases n;rw [tN,Ri]
theorem TA (a:List LN) (ha:a.length≤1048576) (ih:∀k∈a,aW T Tryz.prog 20 [.ag (T.cells qj k)] (.ag [.ow 9 (tN k).f0, .ow eN (tN k).f1, .ow eS (tN k).f2])):aW T Tryz.prog 97 [.c (.sl qj a)] (.c (.ow eN (a.map tN))):=by
 refine bM hT Tryz.func97 (by kernel_rfl) rfl rfl (fun A=>?_)
 conv=>whnf
 refine Need.mk (mk_ (by decide) ha) ?_
 conv=>whnf
 refine iO.mk {k:Nat // k≤a.length} (fun p=>(2,[(4,i64 p.1),(3, .c (.hd 0)),(0,im qj a)],[(0, .row 1 eN (fill (tN) z31 a p.1))])) (fun p=>a.length - p.1) ⟨0,Nat.zero_le _⟩ (aI [(0,0)] rfl rfl rfl ⟨⟨rfl,rfl⟩,⟨rfl,rfl⟩,⟨rfl,rfl⟩,trivial⟩ ⟨kV AX.symm,trivial⟩) ?_
 rintro⟨k,hk⟩
 conv=>whnf
 refine Split.mk (fun c=>?_) (fun c=>?_)
 ·have hk2:k<a.length:=jP c
  conv=>whnf
  refine Need.mk (idx hk2) ?_
  conv=>whnf
  refine aU.mk _ (ih _ (getD_mem hk2)) ?_
  conv=>whnf
  refine Need.mk (idx (Nat.lt_of_lt_of_eq hk2 (Fe hk).symm)) ?_
  conv=>whnf
  exact dA.mk ⟨⟨k+1,hk2⟩,Nat.sub_lt_sub_left hk2 (Nat.lt_succ_self k),aI [(0,0)] rfl rfl rfl ⟨⟨rfl,congrArg i64 (iy hk2 (Nat.le_trans ha (by decide)))⟩,⟨rfl,rfl⟩,⟨rfl,rfl⟩,trivial⟩ ⟨kV ((congrArg (List.set _ _) (adV _)).trans (Fg hk2)),trivial⟩⟩
 ·have hk2:k=a.length:=Nat.le_antisymm hk (jQ c)
  conv=>whnf
  subst hk2
  exact aV.mk ⟨rfl,rfl⟩ ⟨rfl,rfl⟩ ⟨kV (Fh),trivial⟩
theorem Wj (a:LN) (h0:a.f0.length≤1048576) (h2:a.f2.length≤1048576) (ih:aW T Tryz.prog 97 [.c (.sl qj a.f1)] (.c (.ow eN (a.f1.map tN)))):aW T Tryz.prog 20 [.ag (T.cells qj a)] (.ag [.ow 9 a.f0, .ow eN (a.f1.map tN), .ow eS (a.f2.map tS)]):=by
 refine bM hT Tryz.func20 (by kernel_rfl) rfl rfl (fun A=>?_)
 conv=>whnf
 refine aU.mk _ (Wi a.f0 h0) ?_
 conv=>whnf
 refine aU.mk _ (ih) ?_
 conv=>whnf
 refine aU.mk _ (abx a.f2 h2) ?_
 conv=>whnf
 exact aV.mk ⟨rfl,rfl⟩ ⟨rfl,rfl⟩ ⟨rfl,rfl,rfl,trivial⟩
inductive Wn:LN→Prop
 | mk (n:LN) (h0:n.f0.length≤1048576) (h1:n.f1.length≤1048576) (h2:n.f2.length≤1048576) (hk:∀k∈n.f1,Wn k):Wn n
theorem Wp:∀(a:LN),Wn a→aW T Tryz.prog 20 [.ag (T.cells qj a)] (.ag [.ow 9 (tN a).f0, .ow eN (tN a).f1, .ow eS (tN a).f2]):=fun a ha=>by
 rw [Tz]
 exact Wj a (by cases ha;assumption) (by cases ha;assumption) (TA a.f1 (by cases ha;assumption) (fun k hk=>Wp k (by cases ha with | mk _ _ _ _ h=>exact h k hk)))
termination_by a=>SizeOf.sizeOf a
decreasing_by exact xZ hk
end Go.Proofs.YtcnfgfomholheaaGreatDoor.Q
end
section
namespace Go.Proofs.YtcnfgfomholheaaGreatDoor.Q
open Go.RowKit Go.Proofs.YtcnfgfomholheaaGreatDoor.Z
set_option linter.unusedVariables false
set_option linter.unusedSimpArgs false
set_option maxRecDepth 100000
set_option maxHeartbeats 4000000
def jl {α:Type} (F:α→Int→Int):List α→Int→Int
 | [],x=>x
 | a::l,x=>thenS (F a x) (jl F l)
theorem rD {α:Type} {F:α→Int→Int} {d:α} {l:List α} {k:Nat} {x:Int} (h:k<l.length):jl F (l.drop k) x=thenS (F (l.getD k d) x) (jl F (l.drop (k+1))):=by
 rw [List.drop_eq_getElem_cons h]
 have:l.getD k d=l[k]:=by simp [h]
 rw [this];rfl
theorem Jv {α:Type} {F:α→Int→Int} {l:List α} {x:Int}:jl F (l.drop l.length) x=x:=by rw [List.drop_length];rfl
theorem sS {α:Type} {F:α→Int→Int}:∀{l:List α} {x:Int},(∀a∈l,∀x,0≤x→F a x≤x)→0≤x→jl F l x≤x
 | [],x,_,_=>Int.le_refl _
 | a::l,x,hF,h=>by
   show thenS _ _≤x
   unfold thenS
   split
   ·omega
   ·have h2:=hF a List.mem_cons_self x h
    have:=sS (F:=F) (l:=l) (x:=F a x) (fun b hb=>hF b (List.mem_cons_of_mem _ hb)) (by omega)
    omega
theorem DF {r x:Int} {K:Int→Int} (h0:0≤x) (h1:r≤x) (h2:0≤r→K r≤r):thenS r K≤x:=by
 unfold thenS;split
 ·omega
 ·have:=h2 (by omega);omega
theorem aax {n:Nat} {x:Int} (h0:0≤x) (h1:x≤1048576) (hn:n≤140737488351232) (c:decide (wrap64 (x - (n:Int))<0)=true):fP n x= -1:=Wq h0 (by omega) hn c
theorem aay {n:Nat} {x:Int} (h0:0≤x) (h1:x≤1048576) (hn:n≤140737488351232) (c:decide (wrap64 (x - (n:Int))<0)=false):fP n x=wrap64 (x - (n:Int)):=(Ws h0 (by omega) hn c).1
theorem ac1 (a:LS) (x:Int) (h0:0≤x) (h1:x≤1048576) (hl:a.f0.size≤140737488351232):aW T Tryz.prog 27 [.ag (T.cells EC a), .c (.sc (.int .i64 x))] (.c (.sc (.int .i64 (fP a.f0.size x)))):=by
 refine bM hT Tryz.func27 (by kernel_rfl) rfl rfl (fun A=>?_)
 conv=>whnf
 refine Split.mk (fun c=>?_) (fun c=>?_)
 ·conv=>whnf
  exact aV.mk ⟨rfl,rfl⟩ ⟨rfl,rfl⟩ ⟨iv (aax h0 h1 hl c),trivial⟩
 ·conv=>whnf
  exact aV.mk ⟨rfl,rfl⟩ ⟨rfl,rfl⟩ ⟨iv (aay h0 h1 hl c),trivial⟩
theorem Wu (l:List ByteArray) (x:Int) (h0:0≤x) (h1:x≤1048576) (hl:l.length≤140737488351232) (hs:∀y∈l,(y:ByteArray).size≤140737488351232):aW T Tryz.prog 43 [.c (.sl 9 l), .c (.sc (.int .i64 x))] (.c (.sc (.int .i64 (thenS (fP l.length x) (jl (fun y:ByteArray=>fP y.size) l))))):=by
 have h2:x≤4611686018427387904:=by omega
 refine bM hT Tryz.func43 (by kernel_rfl) rfl rfl (fun A=>?_)
 conv=>whnf
 refine Split.mk (fun c=>?_) (fun c=>?_)
 ·conv=>whnf
  exact aV.mk ⟨rfl,rfl⟩ ⟨rfl,rfl⟩ ⟨iv (MQ h0 h2 hl c),trivial⟩
 ·obtain⟨e1,e2,e3⟩:=MR (K:=jl (fun y:ByteArray=>fP y.size) l) h0 h2 hl c
  rw [e1]
  generalize hR:jl (fun y:ByteArray=>fP y.size) l (wrap64 (x - (l.length:Int)))=R
  conv=>whnf
  refine iO.mk {p:Nat × Int // p.1≤l.length∧0≤p.2∧p.2≤x∧jl (fun y:ByteArray=>fP y.size) (l.drop p.1) p.2=R} (fun p=>(0,[(5,i64 p.1.1),(1,i64 p.1.2),(0,im 9 l)],[])) (fun p=>l.length - p.1.1) ⟨(0,_),Nat.zero_le _,e2,e3,hR⟩ (aI [] rfl rfl rfl ⟨⟨rfl,rfl⟩,⟨rfl,rfl⟩,⟨rfl,rfl⟩,trivial⟩ trivial) ?_
  rintro⟨⟨k,y⟩,hk,p0,p1,hR⟩
  have p2:y≤4611686018427387904:=Int.le_trans p1 h2
  have p3:y≤1048576:=Int.le_trans p1 h1
  conv=>whnf
  refine Split.mk (fun c=>?_) (fun c=>?_)
  ·have hk2:k<l.length:=jP c
   conv=>whnf
   refine Need.mk (idx hk2) ?_
   conv=>whnf
   refine Split.mk (fun c=>?_) (fun c=>?_)
   ·conv=>whnf
    exact aV.mk ⟨rfl,rfl⟩ ⟨rfl,rfl⟩ ⟨iv ((hR.symm.trans (rD (F:=fun y:ByteArray=>fP y.size) (d:=(T.df 9)) hk2)).trans (MQ p0 p2 (hs _ (getD_mem hk2)) c)),trivial⟩
   ·obtain⟨g1,g2,g3⟩:=MR (K:=jl (fun y:ByteArray=>fP y.size) (l.drop (k+1))) p0 p2 (hs _ (getD_mem hk2)) c
    conv=>whnf
    exact dA.mk ⟨⟨(k+1,_),hk2,g2,Int.le_trans g3 p1,(g1.symm.trans (rD (F:=fun y:ByteArray=>fP y.size) (d:=(T.df 9)) hk2).symm).trans hR⟩,Nat.sub_lt_sub_left hk2 (Nat.lt_succ_self k),aI [] rfl rfl rfl ⟨⟨rfl,congrArg i64 (iy hk2 hl)⟩,⟨rfl,rfl⟩,⟨rfl,rfl⟩,trivial⟩ trivial⟩
  ·have hk2:k=l.length:=Nat.le_antisymm hk (jQ c)
   conv=>whnf
   subst hk2
   exact aV.mk ⟨rfl,rfl⟩ ⟨rfl,rfl⟩ ⟨iv (hR.symm.trans Jv),trivial⟩
theorem aby (l:List LS) (x:Int) (h0:0≤x) (h1:x≤1048576) (hl:l.length≤140737488351232) (hs:∀y∈l,(y:LS).f0.size≤140737488351232):aW T Tryz.prog 94 [.c (.sl EC l), .c (.sc (.int .i64 x))] (.c (.sc (.int .i64 (thenS (fP l.length x) (jl (fun y:LS=>fP y.f0.size) l))))):=by
 have h2:x≤4611686018427387904:=by omega
 refine bM hT Tryz.func94 (by kernel_rfl) rfl rfl (fun A=>?_)
 conv=>whnf
 refine Split.mk (fun c=>?_) (fun c=>?_)
 ·conv=>whnf
  exact aV.mk ⟨rfl,rfl⟩ ⟨rfl,rfl⟩ ⟨iv (MQ h0 h2 hl c),trivial⟩
 ·obtain⟨e1,e2,e3⟩:=MR (K:=jl (fun y:LS=>fP y.f0.size) l) h0 h2 hl c
  rw [e1]
  generalize hR:jl (fun y:LS=>fP y.f0.size) l (wrap64 (x - (l.length:Int)))=R
  conv=>whnf
  refine iO.mk {p:Nat × Int // p.1≤l.length∧0≤p.2∧p.2≤x∧jl (fun y:LS=>fP y.f0.size) (l.drop p.1) p.2=R} (fun p=>(0,[(5,i64 p.1.1),(1,i64 p.1.2),(0,im EC l)],[])) (fun p=>l.length - p.1.1) ⟨(0,_),Nat.zero_le _,e2,e3,hR⟩ (aI [] rfl rfl rfl ⟨⟨rfl,rfl⟩,⟨rfl,rfl⟩,⟨rfl,rfl⟩,trivial⟩ trivial) ?_
  rintro⟨⟨k,y⟩,hk,p0,p1,hR⟩
  have p2:y≤4611686018427387904:=Int.le_trans p1 h2
  have p3:y≤1048576:=Int.le_trans p1 h1
  conv=>whnf
  refine Split.mk (fun c=>?_) (fun c=>?_)
  ·have hk2:k<l.length:=jP c
   conv=>whnf
   refine Need.mk (idx hk2) ?_
   conv=>whnf
   refine aU.mk _ (ac1 (l.getD k (T.df EC)) y p0 p3 (hs _ (getD_mem hk2))) ?_
   conv=>whnf
   refine Split.mk (fun c=>?_) (fun c=>?_)
   ·conv=>whnf
    exact aV.mk ⟨rfl,rfl⟩ ⟨rfl,rfl⟩ ⟨iv ((hR.symm.trans (rD (F:=fun y:LS=>fP y.f0.size) (d:=(T.df EC)) hk2)).trans (MS c)),trivial⟩
   ·obtain⟨g1,g2⟩:=MV (K:=jl (fun y:LS=>fP y.f0.size) (l.drop (k+1))) c
    conv=>whnf
    exact dA.mk ⟨⟨(k+1,(fun y:LS=>fP y.f0.size) (l.getD k (T.df EC)) y),hk2,g2,Int.le_trans (kJ p0) p1,(g1.symm.trans (rD (F:=fun y:LS=>fP y.f0.size) (d:=(T.df EC)) hk2).symm).trans hR⟩,Nat.sub_lt_sub_left hk2 (Nat.lt_succ_self k),aI [] rfl rfl rfl ⟨⟨rfl,congrArg i64 (iy hk2 hl)⟩,⟨rfl,rfl⟩,⟨rfl,rfl⟩,trivial⟩ trivial⟩
  ·have hk2:k=l.length:=Nat.le_antisymm hk (jQ c)
   conv=>whnf
   subst hk2
   exact aV.mk ⟨rfl,rfl⟩ ⟨rfl,rfl⟩ ⟨iv (hR.symm.trans Jv),trivial⟩
theorem TB (l:List LN) (x:Int) (h0:0≤x) (h1:x≤1048576) (hl:l.length≤140737488351232) (F:LN→Int→Int) (ih:∀a∈l,∀x,0≤x→x≤1048576→aW T Tryz.prog 18 [.ag (T.cells qj a), .c (.sc (.int .i64 x))] (.c (.sc (.int .i64 (F a x))))∧F a x≤x):aW T Tryz.prog 93 [.c (.sl qj l), .c (.sc (.int .i64 x))] (.c (.sc (.int .i64 (thenS (fP l.length x) (jl (F) l))))):=by
 have h2:x≤4611686018427387904:=by omega
 refine bM hT Tryz.func93 (by kernel_rfl) rfl rfl (fun A=>?_)
 conv=>whnf
 refine Split.mk (fun c=>?_) (fun c=>?_)
 ·conv=>whnf
  exact aV.mk ⟨rfl,rfl⟩ ⟨rfl,rfl⟩ ⟨iv (MQ h0 h2 hl c),trivial⟩
 ·obtain⟨e1,e2,e3⟩:=MR (K:=jl (F) l) h0 h2 hl c
  rw [e1]
  generalize hR:jl (F) l (wrap64 (x - (l.length:Int)))=R
  conv=>whnf
  refine iO.mk {p:Nat × Int // p.1≤l.length∧0≤p.2∧p.2≤x∧jl (F) (l.drop p.1) p.2=R} (fun p=>(0,[(5,i64 p.1.1),(1,i64 p.1.2),(0,im qj l)],[])) (fun p=>l.length - p.1.1) ⟨(0,_),Nat.zero_le _,e2,e3,hR⟩ (aI [] rfl rfl rfl ⟨⟨rfl,rfl⟩,⟨rfl,rfl⟩,⟨rfl,rfl⟩,trivial⟩ trivial) ?_
  rintro⟨⟨k,y⟩,hk,p0,p1,hR⟩
  have p2:y≤4611686018427387904:=Int.le_trans p1 h2
  have p3:y≤1048576:=Int.le_trans p1 h1
  conv=>whnf
  refine Split.mk (fun c=>?_) (fun c=>?_)
  ·have hk2:k<l.length:=jP c
   conv=>whnf
   refine Need.mk (idx hk2) ?_
   conv=>whnf
   refine aU.mk _ ((ih (l.getD k (T.df qj)) (getD_mem hk2) y p0 p3).1) ?_
   conv=>whnf
   refine Split.mk (fun c=>?_) (fun c=>?_)
   ·conv=>whnf
    exact aV.mk ⟨rfl,rfl⟩ ⟨rfl,rfl⟩ ⟨iv ((hR.symm.trans (rD (F:=F) (d:=(T.df qj)) hk2)).trans (MS c)),trivial⟩
   ·obtain⟨g1,g2⟩:=MV (K:=jl (F) (l.drop (k+1))) c
    conv=>whnf
    exact dA.mk ⟨⟨(k+1,(F) (l.getD k (T.df qj)) y),hk2,g2,Int.le_trans ((ih (l.getD k (T.df qj)) (getD_mem hk2) y p0 p3).2) p1,(g1.symm.trans (rD (F:=F) (d:=(T.df qj)) hk2).symm).trans hR⟩,Nat.sub_lt_sub_left hk2 (Nat.lt_succ_self k),aI [] rfl rfl rfl ⟨⟨rfl,congrArg i64 (iy hk2 hl)⟩,⟨rfl,rfl⟩,⟨rfl,rfl⟩,trivial⟩ trivial⟩
  ·have hk2:k=l.length:=Nat.le_antisymm hk (jQ c)
   conv=>whnf
   subst hk2
   exact aV.mk ⟨rfl,rfl⟩ ⟨rfl,rfl⟩ ⟨iv (hR.symm.trans Jv),trivial⟩
theorem Rj {α:Type} {F:α→Int→Int} (hF:∀a x,0≤x→F a x<0→F a x= -1):∀{l:List α} {x:Int},0≤x→jl F l x<0→jl F l x= -1
 | [],x,h,h2=>by have:x<0:=h2;omega
 | a::l,x,h,h2=>by
   show thenS _ _= -1
   replace h2:thenS (F a x) (jl F l)<0:=h2
   by_cases hr:F a x<0
   ·unfold thenS;rw [if_pos hr]
   ·unfold thenS at*;rw [if_neg hr] at*;exact Rj hF (by omega) h2
theorem aaz {n:Nat} {x:Int} (h:fP n x<0):fP n x= -1:=by unfold fP at*;split<;>simp_all
theorem adW {l:List LS} {x:Int} (c:decide (thenS (fP l.length x) (jl (fun y:LS=>fP y.f0.size) l)<0)=true):thenS (fP l.length x) (jl (fun y:LS=>fP y.f0.size) l)= -1:=by
 have h:=TD c
 by_cases hr:fP l.length x<0
 ·unfold thenS;rw [if_pos hr]
 ·unfold thenS at*;rw [if_neg hr] at*;exact Rj (fun a x _ h=>aaz h) (by omega) h
abbrev EF (l:List ByteArray) (x:Int):Int:=thenS (fP l.length x) (jl (fun y:ByteArray=>fP y.size) l)
abbrev Ag (l:List LS) (x:Int):Int:=thenS (fP l.length x) (jl (fun y:LS=>fP y.f0.size) l)
theorem N8 {l:List ByteArray} {x:Int} (h:0≤x):EF l x≤x:=DF h (kJ h) (fun h=>sS (fun a _ x hx=>kJ hx) h)
theorem abz {l:List LS} {x:Int} (h:0≤x):Ag l x≤x:=DF h (kJ h) (fun h=>sS (fun a _ x hx=>kJ hx) h)
mutual
def nT:LN→Int→Int
 | ⟨a,b,c⟩,x=>thenS (EF a x) fun x=>thenS (thenS (fP b.length x) (N9 b)) fun x=>Ag c x
def N9:List LN→Int→Int
 | [],x=>x
 | a::l,x=>thenS (nT a x) (N9 l)
end
theorem Rk:∀l:List LN,N9 l=jl nT l
 | []=>by funext x;rw [N9];rfl
 | a::l=>by funext x;rw [N9,Rk l];rfl
theorem Oa (n:LN) (x:Int):nT n x=thenS (EF n.f0 x) fun x=>thenS (thenS (fP n.f1.length x) (jl nT n.f1)) fun x=>Ag n.f2 x:=by cases n;rw [nT,Rk]
inductive yS:LN→Prop
 | mk (n:LN) (h0:n.f0.length≤140737488351232) (z0:∀y∈n.f0,(y:ByteArray).size≤140737488351232) (h1:n.f1.length≤140737488351232) (h2:n.f2.length≤140737488351232) (z2:∀y∈n.f2,(y:LS).f0.size≤140737488351232) (hk:∀k∈n.f1,yS k):yS n
theorem yS.kid {n:LN} (h:yS n):∀k∈n.f1,yS k:=by cases h;assumption
theorem AY:∀(n:LN) {x:Int},0≤x→nT n x≤x:=fun n x h=>by
 rw [Oa]
 exact DF h (N8 h) (fun h=>DF h (DF h (kJ h) (fun h=>sS (fun a ha x hx=>AY a hx) h)) (fun h=>abz h))
termination_by n=>SizeOf.sizeOf n
decreasing_by exact xZ ha
theorem Wv (a:LN) (ha:yS a) (x:Int) (h0:0≤x) (h1:x≤1048576) (ih:∀x,0≤x→x≤1048576→aW T Tryz.prog 93 [.c (.sl qj a.f1), .c (.sc (.int .i64 x))] (.c (.sc (.int .i64 (thenS (fP a.f1.length x) (jl nT a.f1)))))):aW T Tryz.prog 18 [.ag (T.cells qj a), .c (.sc (.int .i64 x))] (.c (.sc (.int .i64 (nT a x)))):=by
 obtain⟨_,l0,z0,l1,l2,z2,_⟩:=ha
 rw [Oa]
 refine bM hT Tryz.func18 (by kernel_rfl) rfl rfl (fun A=>?_)
 conv=>whnf
 refine aU.mk _ (Wu a.f0 x h0 h1 l0 z0) ?_
 conv=>whnf
 refine Split.mk (fun c=>?_) (fun c=>?_)
 ·conv=>whnf
  exact aV.mk ⟨rfl,rfl⟩ ⟨rfl,rfl⟩ ⟨iv (MS c),trivial⟩
 obtain⟨g1,g2⟩:=MV (K:=fun x=>thenS (thenS (fP a.f1.length x) (jl nT a.f1)) fun x=>Ag a.f2 x) c
 have g3:EF a.f0 x≤1048576:=Int.le_trans (N8 h0) h1
 rw [g1]
 clear c g1
 conv=>whnf
 refine aU.mk _ (ih _ g2 g3) ?_
 conv=>whnf
 refine Split.mk (fun c=>?_) (fun c=>?_)
 ·conv=>whnf
  exact aV.mk ⟨rfl,rfl⟩ ⟨rfl,rfl⟩ ⟨iv (MS c),trivial⟩
 obtain⟨g4,g5⟩:=MV (K:=fun x=>Ag a.f2 x) c
 have g6:thenS (fP a.f1.length (EF a.f0 x)) (jl nT a.f1)≤1048576:=Int.le_trans (DF g2 (kJ g2) (fun h=>sS (fun a _ x hx=>AY a hx) h)) g3
 rw [g4]
 clear c g4
 conv=>whnf
 refine aU.mk _ (aby a.f2 _ g5 g6 l2 z2) ?_
 conv=>whnf
 refine Split.mk (fun c=>?_) (fun c=>?_)
 ·conv=>whnf
  exact aV.mk ⟨rfl,rfl⟩ ⟨rfl,rfl⟩ ⟨iv (adW c),trivial⟩
 ·conv=>whnf
  exact aV.mk ⟨rfl,rfl⟩ ⟨rfl,rfl⟩ ⟨rfl,trivial⟩
theorem Wx:∀(a:LN),yS a→∀(x:Int) (h0:0≤x) (h1:x≤1048576),aW T Tryz.prog 18 [.ag (T.cells qj a), .c (.sc (.int .i64 x))] (.c (.sc (.int .i64 (nT a x)))):=fun a ha x h0 h1=>
 Wv a ha x h0 h1 (fun y g0 g1=>TB a.f1 y g0 g1 (by cases ha;assumption) nT (fun k hk z z0 z1=>⟨Wx k (ha.kid k hk) z z0 z1,AY k z0⟩))
termination_by a=>SizeOf.sizeOf a
decreasing_by exact xZ hk
end Go.Proofs.YtcnfgfomholheaaGreatDoor.Q
end
section
namespace Go.Proofs.YtcnfgfomholheaaGreatDoor.Q
open Go.RowKit Go.Proofs.YtcnfgfomholheaaGreatDoor.Z
set_option linter.unusedVariables false
set_option linter.unusedSimpArgs false
set_option maxRecDepth 100000
set_option maxHeartbeats 4000000
def KP (k:Nat) (out:ByteArray):ByteArray:=if h:k=0 then out else KP (k / 10) (strOfNums [IntKind.u8.wrap (wrap64 (48+((k % 10:Nat):Int)))]++out)
termination_by k
decreasing_by omega
def markT (k:Nat):ByteArray:=(⟨#[109]⟩:ByteArray)++KP k (⟨#[]⟩:ByteArray)
theorem Wy (n:Int):(strOfNums [n]).size=1:=rfl
theorem rY (a b:ByteArray):(a++b).size=a.size+b.size:=ByteArray.size_append
theorem ac2 (k:Nat):((k:Int).tmod 10)=((k % 10:Nat):Int):=by rw [Int.tmod_eq_emod_of_nonneg (by omega)];omega
theorem ac3 {k:Nat} (h:k≤4611686018427387904):IntKind.i64.wrap ((k:Int).tdiv 10)=((k / 10:Nat):Int):=by
 rw [Int.tdiv_eq_ediv_of_nonneg (by omega),wrap_i64]
 simp only [wrap64];omega
theorem adX (x:Int):strOfNums (List.map (numOf T 5) [x])=strOfNums [x]:=rfl
theorem abA (n:Nat):strOfNums (List.map (numOf T 5) [IntKind.u8.wrap (wrap64 (48+(n:Int).tmod 10))])=strOfNums [IntKind.u8.wrap (wrap64 (48+((n % 10:Nat):Int)))]:=by rw [ac2,adX]
theorem adY (out:ByteArray):KP 0 out=out:=by unfold KP;rfl
theorem tx {x y:ByteArray} (h:y=x):Value.string x=Value.string y:=by rw [h]
abbrev tx_ (s:ByteArray):Slot T:= .c (.sc (.string s))
theorem Fj (k:Nat) (h0:0<k) (h1:k≤4611686018427387904):aW T Tryz.prog 118 [.c (.sc (.int .i64 (k:Int)))] (.c (.sc (.string (markT k)))):=by
 refine bM hT Tryz.func118 (by kernel_rfl) rfl rfl (fun A=>?_)
 conv=>whnf
 refine Split.mk (fun c=>?_) (fun c=>?_)
 ·exact absurd c (by simp;omega)
 clear c
 conv=>whnf
 refine iO.mk {p:Nat × ByteArray // p.1≤k∧p.2.size+p.1≤k∧KP p.1 p.2=KP k (⟨#[]⟩:ByteArray)} (fun p=>(0,[(0,i64 p.1.1),(3,tx_ p.1.2)],[])) (fun p=>p.1.1) ⟨(k,⟨#[]⟩),Nat.le_refl _,by show(0:Nat)+k≤k;omega,rfl⟩ (aI [] rfl rfl rfl ⟨⟨rfl,rfl⟩,⟨rfl,rfl⟩,trivial⟩ trivial) ?_
 rintro⟨⟨n,out⟩,g1,g2,g3⟩
 dsimp only at g1 g2 g3
 conv=>whnf
 refine Split.mk (fun c=>?_) (fun c=>?_)
 ·have hn:n≠0:=by simp at c;omega
  clear c
  conv=>whnf
  refine Need.mk (fun _=>rfl) ?_
  conv=>whnf
  refine Need.mk (show 1+ByteArray.size out≤9223372036854775807 by omega) ?_
  conv=>whnf
  refine dA.mk ⟨⟨(n / 10,strOfNums [IntKind.u8.wrap (wrap64 (48+((n % 10:Nat):Int)))]++out),by omega,by rw [rY,Wy];omega,?_⟩,Nat.div_lt_self (by omega) (by decide),aI [] rfl rfl rfl ⟨⟨rfl,congrArg i64 (ac3 (by omega)).symm⟩,⟨rfl,?_⟩,trivial⟩ trivial⟩
  ·rw [←g3]
   conv=>rhs;unfold KP
   rw [dif_neg hn]
  ·exact congrArg (fun x:ByteArray=>tx_ (x++out)) (abA n).symm
 ·have hn:n=0:=by simp at c;omega
  subst hn
  clear c
  have g4:out=KP k (⟨#[]⟩:ByteArray):=(adY out).symm.trans g3
  conv=>whnf
  refine Need.mk (show 1+ByteArray.size out≤9223372036854775807 by omega) ?_
  conv=>whnf
  exact aV.mk ⟨rfl,rfl⟩ ⟨rfl,rfl⟩ ⟨tx (congrArg (fun x:ByteArray=>(⟨#[109]⟩:ByteArray)++x) g4.symm),trivial⟩
def ql {β:Type} (s:Nat) (f:Nat→β) (k n:Nat):List β:=(List.range n).map (fun j=>f (k+s*j))
def yc {β:Type} (s:Nat) (f:Nat→β) (k:Nat) (a:List β) (i:Nat):List β:=ql s f k i++a.drop i
section
variable {β:Type} {s:Nat} {f:Nat→β} {k i n:Nat} {a:List β}
theorem Jw:(ql s f k n).length=n:=by simp [ql]
theorem Jy (h:i≤a.length):(yc s f k a i).length=a.length:=by simp [yc,Jw];omega
theorem abB (hi:i≤a.length) (h:i<a.length):i<(yc s f k a i).length:=by rw [Jy hi];exact h
theorem YA:a=yc s f k a 0:=by simp [yc,ql]
theorem aaA:yc s f k a a.length=ql s f k a.length:=by simp [yc]
theorem aaB (h:i<a.length):(yc s f k a i).set i (f (k+s*i))=yc s f k a (i+1):=by
 unfold yc
 rw [List.set_append_right _ _ (by simp [Jw]),Jw,Nat.sub_self,List.drop_eq_getElem_cons h,List.set_cons_zero]
 simp [ql,List.range_succ]
end
theorem WA {k n:Nat} (h:k+n≤4611686018427387904) (hn:0<n):((k+1:Nat):Int)=wrap64 ((k:Int)+1):=by simp only [wrap64];omega
theorem ZK {m n:Nat} (h:decide ((m:Int)<(n:Int))=true) {l:Nat} (hl:n=l):m<l:=hl▸jP h
theorem TF {m n:Nat} (h:decide ((m:Int)<(n:Int))=false) {l:Nat} (hl:n=l):l≤m:=hl▸jQ h
def fB (n:Nat):Int:=IntKind.u8.wrap (n:Int)
def fS (n:Nat):ByteArray:=markT n
abbrev hd0:Slot T:= .c (.hd 1000)
theorem gs_ {e:Nat} {l:List (T.Tb e)} {i:Nat} {x:T.Tb e} (h:i<l.length):dw T e (l.set i x) i=x:=by simp [dw,h]
theorem EG (a:List ByteArray) (k:Nat) (hl:a.length≤140737488351232) (h0:0<k) (hk:k+1*a.length≤4611686018427387904):CallWOb T Tryz.prog 48 [.c (.ow 9 a 9 (ql 1 fS k a.length)), .c (.c (.sc (.int .i64 (k:Int))))] (.c (.sc (.int .i64 ((k+1*a.length:Nat):Int)))):=by
 refine EH hT Tryz.func48 (by kernel_rfl) rfl rfl (fun A=>?_)
 conv=>whnf
 refine iO.mk {i:Nat // i≤a.length} (fun p=>(1,[(5,i64 p.1),(1,i64 (k+1*p.1:Nat)),(0,hd0)],[(1000, .row 0 9 (yc 1 fS k a p.1))])) (fun p=>a.length - p.1) ⟨0,Nat.zero_le _⟩ (aI [] rfl rfl rfl ⟨⟨rfl,rfl⟩,⟨rfl,rfl⟩,⟨rfl,rfl⟩,trivial⟩ ⟨show dW (T:=T) 9 a 9 (yc 1 fS k a 0) from kV YA,trivial⟩) ?_
 rintro⟨i,hi⟩
 conv=>whnf
 refine Split.mk (fun c=>?_) (fun c=>?_)
 ·have hk2:i<a.length:=ZK c (Jy hi)
  clear c
  have hb:k+1*i+1≤4611686018427387904:=by omega
  conv=>whnf
  refine aU.mk _ (Fj (k+1*i) (by omega) (by omega)) ?_
  conv=>whnf
  refine Need.mk (idx (abB hi hk2)) ?_
  conv=>whnf
  exact dA.mk ⟨⟨i+1,hk2⟩,Nat.sub_lt_sub_left hk2 (Nat.lt_succ_self i),aI [] rfl rfl rfl ⟨⟨rfl,congrArg i64 (iy hk2 hl)⟩,⟨rfl,congrArg i64 (WA (k:=k+1*i) (n:=1) (by omega) (by decide))⟩,⟨rfl,rfl⟩,trivial⟩ ⟨kV (aaB (s:=1) (f:=fS) hk2),trivial⟩⟩
 ·have hk2:i=a.length:=Nat.le_antisymm hi (TF c (Jy hi))
  clear c
  conv=>whnf
  subst hk2
  exact G6.mk ⟨rfl,rfl⟩ ⟨⟨rfl,rfl⟩,rfl⟩ ⟨rfl,trivial⟩ ⟨show dW (T:=T) 9 (yc 1 fS k a a.length) 9 (ql 1 fS k a.length) from kV aaA,trivial⟩
end Go.Proofs.YtcnfgfomholheaaGreatDoor.Q
end
section
namespace Go.Proofs.YtcnfgfomholheaaGreatDoor.Q
open Go.RowKit Go.Proofs.YtcnfgfomholheaaGreatDoor.Z
set_option linter.unusedVariables false
set_option linter.unusedSimpArgs false
set_option maxRecDepth 100000
set_option maxHeartbeats 4000000
def bZ {β:Type} (f:β→Nat→β × Nat):List β→Nat→List β × Nat
 | [],k=>([],k)
 | p::l,k=>((f p k).1::(bZ f l (f p k).2).1,(bZ f l (f p k).2).2)
def lC {β:Type} (f:β→Nat→β × Nat) (a:List β) (k i:Nat):List β:=(bZ f (a.take i) k).1++a.drop i
section
variable {β:Type} {f:β→Nat→β × Nat} {a:List β} {k i:Nat} {d:β}
theorem DI:∀(l m:List β) (k:Nat),bZ f (l++m) k=((bZ f l k).1++(bZ f m (bZ f l k).2).1,(bZ f m (bZ f l k).2).2)
 | [],_,_=>rfl
 | p::l,m,k=>by simp only [List.cons_append,bZ,DI l m]
theorem yg:∀(l:List β) (k:Nat),(bZ f l k).1.length=l.length
 | [],_=>rfl
 | p::l,k=>by simp only [bZ,List.length_cons,yg l]
theorem yT (h:i<a.length):bZ f (a.take (i+1)) k=((bZ f (a.take i) k).1++[(f (a.getD i d) (bZ f (a.take i) k).2).1],(f (a.getD i d) (bZ f (a.take i) k).2).2):=by
 have e:a.getD i d=a[i]:=by simp [h]
 rw [List.take_succ_eq_append_getElem h,DI,e];rfl
theorem mV (hf:∀p k,k≤(f p k).2):∀(l:List β) (k:Nat),k≤(bZ f l k).2
 | [],k=>Nat.le_refl _
 | p::l,k=>Nat.le_trans (hf p k) (mV hf l _)
theorem Fp (hf:∀p k,k≤(f p k).2) (i:Nat):(bZ f (a.take i) k).2≤(bZ f a k).2:=by
 have h:=DI (f:=f) (a.take i) (a.drop i) k
 rw [List.take_append_drop] at h
 rw [h];exact mV hf _ _
theorem Ob (h:i≤a.length):(lC f a k i).length=a.length:=by
 rw [lC,List.length_append,yg,List.length_take,List.length_drop];omega
theorem Oc (h:i<a.length) (x:β):(lC f a k i).set i x=(bZ f (a.take i) k).1++x::a.drop (i+1):=by
 have hl:(bZ f (a.take i) k).1.length=i:=by rw [yg,List.length_take];omega
 rw [lC,List.set_append_right _ _ (by omega),hl,Nat.sub_self,List.drop_eq_getElem_cons h];rfl
theorem KQ (h:i<a.length):lC f a k i=(lC f a k i).set i (a.getD i d):=by
 rw [Oc h,lC,List.drop_eq_getElem_cons h];simp [h]
theorem KR (h:i<a.length):(lC f a k i).set i (f (a.getD i d) (bZ f (a.take i) k).2).1=lC f a k (i+1):=by
 rw [Oc h,lC,yT (d:=d) h,List.append_assoc];rfl
theorem Oe:lC f a k a.length=(bZ f a k).1:=by rw [lC,List.take_length,List.drop_length,List.append_nil]
theorem AB {e:Nat} {R:List (T.Tb e)} {i:Nat} (h:i<R.length) (x:T.Tb e) (g:T.Tb e→T.Tb e):(R.set i x).set i (g (dw T e (R.set i x) i))=R.set i (g x):=by
 rw [gs_ h,List.set_set]
theorem ge_ {e:Nat} {R:List (T.Tb e)} {i:Nat} (h:i<R.length) (x:T.Tb e) (C:T.Tb e→Prop) (hc:C x):C (dw T e (R.set i x) i):=by
 rw [gs_ h];exact hc
end
def dK (p:SS) (k:Nat):SS × Nat:=(⟨markT k,((k+1:Nat):Int),((k+2:Nat):Int)⟩,k+3)
mutual
def dS:SN→Nat→SN × Nat
 | ⟨a,b,c⟩,k=>(⟨ql 1 fS k a.length,(rE b (k+1*a.length)).1,(bZ dK c (rE b (k+1*a.length)).2).1⟩,(bZ dK c (rE b (k+1*a.length)).2).2)
def rE:List SN→Nat→List SN × Nat
 | [],k=>([],k)
 | p::l,k=>((dS p k).1::(rE l (dS p k).2).1,(rE l (dS p k).2).2)
end
theorem Rl:∀l:List SN,rE l=bZ dS l
 | []=>by funext k;rw [rE];rfl
 | p::l=>by funext k;rw [rE,Rl l];rfl
theorem AZ (n:SN) (k:Nat):dS n k=(⟨ql 1 fS k n.f0.length,(bZ dS n.f1 (k+1*n.f0.length)).1,(bZ dK n.f2 (bZ dS n.f1 (k+1*n.f0.length)).2).1⟩,(bZ dK n.f2 (bZ dS n.f1 (k+1*n.f0.length)).2).2):=by cases n;rw [dS,Rl]
theorem qm (p:SS) (k:Nat):k≤(dK p k).2:=by show k≤k+3;omega
theorem Rn {β:Type} {f:β→Nat→β × Nat}:∀(l:List β) (k:Nat),(∀p∈l,∀k,k≤(f p k).2)→k≤(bZ f l k).2
 | [],k,_=>Nat.le_refl _
 | p::l,k,h=>Nat.le_trans (h p List.mem_cons_self k) (Rn l _ (fun q hq=>h q (List.mem_cons_of_mem _ hq)))
theorem yh:∀(n:SN) (k:Nat),k≤(dS n k).2:=fun n k=>by
 rw [AZ]
 exact Nat.le_trans (Nat.le_trans (Nat.le_add_right _ _) (Rn n.f1 _ (fun p hp k=>yh p k))) (mV qm _ _)
termination_by n=>SizeOf.sizeOf n
decreasing_by exact oN hp
theorem Fq (a:List SS) (k:Nat) (ha:a.length≤2097152) (h0:0<k) (hk:(bZ (β:=SS) dK a k).2≤4611686018427387904):CallWOb T Tryz.prog 34 [.c (.ow eS a eS (bZ (β:=SS) dK a k).1), .c (.c (.sc (.int .i64 (k:Int))))] (.c (.sc (.int .i64 ((bZ (β:=SS) dK a k).2:Int)))):=by
 refine xu hT Tryz.func34 (by kernel_rfl) rfl rfl (fun A=>?_)
 refine Vc.seq 0 hT ?_
 conv=>whnf
 refine Vc.TG ?_
 refine Vc.seq 0 hT ?_
 conv=>whnf
 refine Vc.block ?_
 refine Vc.loop (α:={i:Nat // i≤a.length}) (fun s=>([(5,i64 s.1),(1,i64 ((bZ (β:=SS) dK (a.take s.1) k).2:Nat)),(0,hd0)],[(1000, .row 0 eS (lC (β:=SS) dK a k s.1))])) (fun s=>a.length - s.1) ⟨0,Nat.zero_le _⟩ (aI [] rfl rfl rfl ⟨⟨rfl,rfl⟩,⟨rfl,rfl⟩,⟨rfl,rfl⟩,trivial⟩ ⟨show dW (T:=T) eS a eS (lC (β:=SS) dK a k 0) from kV rfl,trivial⟩) ?_
 rintro⟨i,hi⟩
 have hR:=Ob (β:=SS) (f:=dK) (k:=k) hi
 refine Vc.seq 1 hT ?_
 conv=>whnf
 refine Split.mk (fun c=>?_) (fun c=>?_)
 ·have hk2:i<a.length:=ZK c hR
  clear c
  have hq:=mV (β:=SS) qm (a.take i) k
  have hself:=KQ (β:=SS) (f:=dK) (k:=k) (d:=T.df eS) hk2
  have hnext:=KR (β:=SS) (f:=dK) (k:=k) (d:=T.df eS) hk2
  have hmk:=yT (β:=SS) (f:=dK) (k:=k) (d:=T.df eS) hk2
  have hkp:=Nat.le_trans (Fp (β:=SS) (f:=dK) (a:=a) (k:=k) qm (i+1)) hk
  rw [hmk] at hkp
  replace hmk:=congrArg Prod.snd hmk
  have hp:=getD_mem (α:=SS) (d:=T.df eS) hk2
  generalize lC (β:=SS) dK a k i=R at hself hnext hR⊢
  generalize (bZ (β:=SS) dK (a.take i) k).2=k at hq hnext hmk hkp⊢
  generalize a.getD i (T.df eS)=p at hself hnext hmk hkp hp⊢
  have hlt:i<R.length:=by omega
  have hk1:0<k:=by omega
  have hkb:(dK p k).2≤4611686018427387904:=hkp
  conv=>whnf
  refine Vc.imp (tm':=[(5,i64 i),(1,i64 (k:Nat)),(0,hd0)]) (rs':=[(1000, .row 0 eS (R.set i p))]) (aI [] rfl rfl rfl ⟨⟨rfl,rfl⟩,⟨rfl,rfl⟩,⟨rfl,rfl⟩,trivial⟩ ⟨show dW (T:=T) eS R eS (R.set i p) from kV hself,trivial⟩) ?_
  clear hself
  refine Vc.TG ?_
  refine Vc.block ?_
  refine Vc.seq 1 hT ?_
  conv=>whnf
  refine aU.mk _ (Fj k (by omega) (by simp only [dK] at hkb;omega)) ?_
  conv=>whnf
  refine Need.mk (idx (Nat.lt_of_lt_of_eq hlt List.length_set.symm)) ?_
  conv=>whnf
  refine Vc.cut (α:=Unit) 50 (fun _=>True) (fun _=>[(5,i64 i),(1,i64 ((k+1):Nat)),(0,hd0)]) (fun _=>[(1000, .row 0 eS (R.set i (⟨markT k,p.f1,p.f2⟩:SS)))]) hT ?_ (fun _ _=>?_)
  ·conv=>whnf
   exact nG.mk ⟨(),trivial,aI [] rfl rfl rfl ⟨⟨rfl,rfl⟩,⟨rfl,congrArg i64 (WA (k:=k) (n:=1) (by simp only [dK] at hkb;omega) (by decide))⟩,⟨rfl,rfl⟩,trivial⟩ ⟨kV (AB (e:=eS) hlt (p:SS) (fun q:T.Tb eS=>(⟨markT k,q.f1,q.f2⟩:SS))),trivial⟩⟩
  refine Vc.seq 1 hT ?_
  conv=>whnf
  refine Need.mk (idx (Nat.lt_of_lt_of_eq hlt List.length_set.symm)) ?_
  conv=>whnf
  refine Vc.cut (α:=Unit) 50 (fun _=>True) (fun _=>[(5,i64 i),(1,i64 (((k+1)+1):Nat)),(0,hd0)]) (fun _=>[(1000, .row 0 eS (R.set i (⟨markT k,(((k+1):Nat):Int),p.f2⟩:SS)))]) hT ?_ (fun _ _=>?_)
  ·conv=>whnf
   exact nG.mk ⟨(),trivial,aI [] rfl rfl rfl ⟨⟨rfl,rfl⟩,⟨rfl,congrArg i64 (WA (k:=(k+1)) (n:=1) (by simp only [dK] at hkb;omega) (by decide))⟩,⟨rfl,rfl⟩,trivial⟩ ⟨kV (AB (e:=eS) hlt (⟨markT k,p.f1,p.f2⟩:SS) (fun q:T.Tb eS=>(⟨q.f0,(((k+1):Nat):Int),q.f2⟩:SS))),trivial⟩⟩
  refine Vc.seq 1 hT ?_
  conv=>whnf
  refine Need.mk (idx (Nat.lt_of_lt_of_eq hlt List.length_set.symm)) ?_
  conv=>whnf
  refine Vc.of 1 hT ?_
  conv=>whnf
  refine Vc.of 1 hT ?_
  conv=>whnf
  exact dA.mk ⟨⟨i+1,hk2⟩,Nat.sub_lt_sub_left hk2 (Nat.lt_succ_self i),aI [] rfl rfl rfl ⟨⟨rfl,congrArg i64 (iy hk2 (by omega))⟩,⟨rfl,congrArg i64 ((congrArg (fun x:Nat=>(x:Int)) (hmk)).trans (WA (k:=((k+1)+1)) (n:=1) (by simp only [dK] at hkb;omega) (by decide)))⟩,⟨rfl,rfl⟩,trivial⟩ ⟨kV ((AB (e:=eS) hlt (⟨markT k,(((k+1):Nat):Int),p.f2⟩:SS) (fun q:T.Tb eS=>(⟨q.f0,q.f1,((((k+1)+1):Nat):Int)⟩:SS))).trans hnext),trivial⟩⟩
 ·have hk2:i=a.length:=Nat.le_antisymm hi (TF c hR)
  clear c hR
  subst hk2
  conv=>whnf
  refine Vc.of 1 hT ?_
  conv=>whnf
  exact G6.mk ⟨rfl,rfl⟩ ⟨⟨rfl,rfl⟩,rfl⟩ ⟨iv (by rw [List.take_length]),trivial⟩ ⟨show dW (T:=T) eS (lC (β:=SS) dK a k a.length) eS (bZ (β:=SS) dK a k).1 from kV Oe,trivial⟩
theorem Og (a:List SN) (k:Nat) (ha:a.length≤2097152) (hy:∀y∈a,Bd y∧∀k,0<k→(bZ dS y.f1 k).2≤4611686018427387904→CallWOb T Tryz.prog 103 [.c (.ow eN y.f1 eN (bZ dS y.f1 k).1), .c (.c (.sc (.int .i64 (k:Int))))] (.c (.sc (.int .i64 ((bZ dS y.f1 k).2:Int))))) (h0:0<k) (hk:(bZ (β:=SN) dS a k).2≤4611686018427387904):CallWOb T Tryz.prog 103 [.c (.ow eN a eN (bZ (β:=SN) dS a k).1), .c (.c (.sc (.int .i64 (k:Int))))] (.c (.sc (.int .i64 ((bZ (β:=SN) dS a k).2:Int)))):=by
 refine xu hT Tryz.func103 (by kernel_rfl) rfl rfl (fun A=>?_)
 refine Vc.seq 0 hT ?_
 conv=>whnf
 refine Vc.TG ?_
 refine Vc.seq 0 hT ?_
 conv=>whnf
 refine Vc.block ?_
 refine Vc.loop (α:={i:Nat // i≤a.length}) (fun s=>([(5,i64 s.1),(1,i64 ((bZ (β:=SN) dS (a.take s.1) k).2:Nat)),(0,hd0)],[(1000, .row 0 eN (lC (β:=SN) dS a k s.1))])) (fun s=>a.length - s.1) ⟨0,Nat.zero_le _⟩ (aI [] rfl rfl rfl ⟨⟨rfl,rfl⟩,⟨rfl,rfl⟩,⟨rfl,rfl⟩,trivial⟩ ⟨show dW (T:=T) eN a eN (lC (β:=SN) dS a k 0) from kV rfl,trivial⟩) ?_
 rintro⟨i,hi⟩
 have hR:=Ob (β:=SN) (f:=dS) (k:=k) hi
 refine Vc.seq 1 hT ?_
 conv=>whnf
 refine Split.mk (fun c=>?_) (fun c=>?_)
 ·have hk2:i<a.length:=ZK c hR
  clear c
  have hq:=mV (β:=SN) yh (a.take i) k
  have hself:=KQ (β:=SN) (f:=dS) (k:=k) (d:=T.df eN) hk2
  have hnext:=KR (β:=SN) (f:=dS) (k:=k) (d:=T.df eN) hk2
  have hmk:=yT (β:=SN) (f:=dS) (k:=k) (d:=T.df eN) hk2
  have hkp:=Nat.le_trans (Fp (β:=SN) (f:=dS) (a:=a) (k:=k) yh (i+1)) hk
  rw [hmk] at hkp
  replace hmk:=congrArg Prod.snd hmk
  have hp:=getD_mem (α:=SN) (d:=T.df eN) hk2
  have hpb:=hy _ hp
  rw [AZ] at hkp
  generalize lC (β:=SN) dS a k i=R at hself hnext hR⊢
  generalize (bZ (β:=SN) dS (a.take i) k).2=k at hq hnext hmk hkp⊢
  generalize a.getD i (T.df eN)=p at hself hnext hmk hkp hp hpb⊢
  have hlt:i<R.length:=by omega
  have hk1:0<k:=by omega
  have hkb:(bZ dK p.f2 (bZ dS p.f1 (k+1*p.f0.length)).2).2≤4611686018427387904:=hkp
  conv=>whnf
  refine Vc.imp (tm':=[(5,i64 i),(1,i64 (k:Nat)),(0,hd0)]) (rs':=[(1000, .row 0 eN (R.set i p))]) (aI [] rfl rfl rfl ⟨⟨rfl,rfl⟩,⟨rfl,rfl⟩,⟨rfl,rfl⟩,trivial⟩ ⟨show dW (T:=T) eN R eN (R.set i p) from kV hself,trivial⟩) ?_
  clear hself
  refine Vc.TG ?_
  refine Vc.block ?_
  refine Vc.cut (α:=Unit) 50 (fun _=>True) (fun _=>[(5,i64 i),(1,i64 ((k+1*p.f0.length):Nat)),(0,hd0)]) (fun _=>[(1000, .row 0 eN (R.set i (⟨ql 1 fS k p.f0.length,p.f1,p.f2⟩:SN)))]) hT ?_ (fun _ _=>?_)
  ·conv=>whnf
   refine Need.mk (idx (Nat.lt_of_lt_of_eq hlt List.length_set.symm)) ?_
   conv=>whnf
   refine aU.wr [[NW.wr 9 (ql 1 fS k p.f0.length)],[NW.rd]] (.c (.sc (.int .i64 (((k+1*p.f0.length):Nat):Int)))) ?_
   conv=>whnf
   refine kK.mk (ge_ (e:=eN) hlt (p:SN) (fun q=>CallWOb T Tryz.prog 48 [.c (.ow 9 q.f0 9 (ql 1 fS k p.f0.length)), .c (.c (.sc (.int .i64 ((k:Nat):Int))))] (.c (.sc (.int .i64 (((k+1*p.f0.length):Nat):Int))))) (EG p.f0 (k) (Nat.le_trans hpb.1.l0 (by decide)) (by omega) (Nat.le_trans (Nat.le_trans (mV yh p.f1 _) (mV qm p.f2 _)) hkb))) ?_
   conv=>whnf
   exact nG.mk ⟨(),trivial,aI [] rfl rfl rfl ⟨⟨rfl,rfl⟩,⟨rfl,rfl⟩,⟨rfl,rfl⟩,trivial⟩ ⟨kV (AB (e:=eN) hlt (p:SN) (fun q:T.Tb eN=>(⟨ql 1 fS k p.f0.length,q.f1,q.f2⟩:SN))),trivial⟩⟩
  refine Vc.cut (α:=Unit) 50 (fun _=>True) (fun _=>[(5,i64 i),(1,i64 ((bZ dS p.f1 (k+1*p.f0.length)).2:Nat)),(0,hd0)]) (fun _=>[(1000, .row 0 eN (R.set i (⟨ql 1 fS k p.f0.length,(bZ dS p.f1 (k+1*p.f0.length)).1,p.f2⟩:SN)))]) hT ?_ (fun _ _=>?_)
  ·conv=>whnf
   refine Need.mk (idx (Nat.lt_of_lt_of_eq hlt List.length_set.symm)) ?_
   conv=>whnf
   refine aU.wr [[NW.wr eN ((bZ dS p.f1 (k+1*p.f0.length)).1)],[NW.rd]] (.c (.sc (.int .i64 (((bZ dS p.f1 (k+1*p.f0.length)).2:Nat):Int)))) ?_
   conv=>whnf
   refine kK.mk (ge_ (e:=eN) hlt (⟨ql 1 fS k p.f0.length,p.f1,p.f2⟩:SN) (fun q=>CallWOb T Tryz.prog 103 [.c (.ow eN q.f1 eN ((bZ dS p.f1 (k+1*p.f0.length)).1)), .c (.c (.sc (.int .i64 (((k+1*p.f0.length):Nat):Int))))] (.c (.sc (.int .i64 (((bZ dS p.f1 (k+1*p.f0.length)).2:Nat):Int))))) (hpb.2 ((k+1*p.f0.length)) (by omega) (Nat.le_trans (mV qm p.f2 _) hkb))) ?_
   conv=>whnf
   exact nG.mk ⟨(),trivial,aI [] rfl rfl rfl ⟨⟨rfl,rfl⟩,⟨rfl,rfl⟩,⟨rfl,rfl⟩,trivial⟩ ⟨kV (AB (e:=eN) hlt (⟨ql 1 fS k p.f0.length,p.f1,p.f2⟩:SN) (fun q:T.Tb eN=>(⟨q.f0,(bZ dS p.f1 (k+1*p.f0.length)).1,q.f2⟩:SN))),trivial⟩⟩
  refine Vc.of 1 hT ?_
  conv=>whnf
  refine Need.mk (idx (Nat.lt_of_lt_of_eq hlt List.length_set.symm)) ?_
  conv=>whnf
  refine aU.wr [[NW.wr eS ((bZ dK p.f2 (bZ dS p.f1 (k+1*p.f0.length)).2).1)],[NW.rd]] (.c (.sc (.int .i64 (((bZ dK p.f2 (bZ dS p.f1 (k+1*p.f0.length)).2).2:Nat):Int)))) ?_
  conv=>whnf
  refine kK.mk (ge_ (e:=eN) hlt (⟨ql 1 fS k p.f0.length,(bZ dS p.f1 (k+1*p.f0.length)).1,p.f2⟩:SN) (fun q=>CallWOb T Tryz.prog 34 [.c (.ow eS q.f2 eS ((bZ dK p.f2 (bZ dS p.f1 (k+1*p.f0.length)).2).1)), .c (.c (.sc (.int .i64 (((bZ dS p.f1 (k+1*p.f0.length)).2:Nat):Int))))] (.c (.sc (.int .i64 (((bZ dK p.f2 (bZ dS p.f1 (k+1*p.f0.length)).2).2:Nat):Int))))) (Fq p.f2 ((bZ dS p.f1 (k+1*p.f0.length)).2) hpb.1.l2 (Nat.lt_of_lt_of_le (show 0<k+1*p.f0.length by omega) (mV yh _ _)) hkb)) ?_
  conv=>whnf
  refine Vc.of 1 hT ?_
  conv=>whnf
  exact dA.mk ⟨⟨i+1,hk2⟩,Nat.sub_lt_sub_left hk2 (Nat.lt_succ_self i),aI [] rfl rfl rfl ⟨⟨rfl,congrArg i64 (iy hk2 (by omega))⟩,⟨rfl,congrArg i64 ((congrArg (fun x:Nat=>(x:Int)) (hmk.trans (show(dS p k).2=_ from congrArg Prod.snd (AZ p k)))).trans (rfl))⟩,⟨rfl,rfl⟩,trivial⟩ ⟨kV ((AB (e:=eN) hlt (⟨ql 1 fS k p.f0.length,(bZ dS p.f1 (k+1*p.f0.length)).1,p.f2⟩:SN) (fun q:T.Tb eN=>(⟨q.f0,q.f1,(bZ dK p.f2 (bZ dS p.f1 (k+1*p.f0.length)).2).1⟩:SN))).trans (Eq.trans (congrArg (fun z:SN × Nat=>List.set R i z.1) (AZ p k).symm) hnext)),trivial⟩⟩
 ·have hk2:i=a.length:=Nat.le_antisymm hi (TF c hR)
  clear c hR
  subst hk2
  conv=>whnf
  refine Vc.of 1 hT ?_
  conv=>whnf
  exact G6.mk ⟨rfl,rfl⟩ ⟨⟨rfl,rfl⟩,rfl⟩ ⟨iv (by rw [List.take_length]),trivial⟩ ⟨show dW (T:=T) eN (lC (β:=SN) dS a k a.length) eN (bZ (β:=SN) dS a k).1 from kV Oe,trivial⟩
theorem KT:∀(n:SN),Bd n→∀k,0<k→(bZ dS n.f1 k).2≤4611686018427387904→CallWOb T Tryz.prog 103 [.c (.ow eN n.f1 eN (bZ dS n.f1 k).1), .c (.c (.sc (.int .i64 (k:Int))))] (.c (.sc (.int .i64 ((bZ dS n.f1 k).2:Int)))):=fun n hn k h0 hk=>
 Og n.f1 k hn.l1 (fun y hy=>⟨hn.kid y hy,KT y (hn.kid y hy)⟩) h0 hk
termination_by n=>SizeOf.sizeOf n
decreasing_by exact oN hy
theorem YB (n:SN) (k:Nat) (hn:Bd n) (h0:0<k) (hk:(dS n k).2≤4611686018427387904):CallWOb T Tryz.prog 23 [.ag [.ow 9 n.f0 9 (dS n k).1.f0, .ow eN n.f1 eN (dS n k).1.f1, .ow eS n.f2 eS (dS n k).1.f2], .c (.c (.sc (.int .i64 (k:Int))))] (.c (.sc (.int .i64 ((dS n k).2:Int)))):=by
 rw [AZ] at hk⊢
 have g1:=mV yh n.f1 (k+1*n.f0.length)
 have g2:=mV qm n.f2 (bZ dS n.f1 (k+1*n.f0.length)).2
 have h1:=EG n.f0 k (Nat.le_trans hn.l0 (by decide)) h0 (Nat.le_trans (Nat.le_trans g1 g2) hk)
 have h2:=KT n hn (k+1*n.f0.length) (by omega) (Nat.le_trans g2 hk)
 have h3:=Fq n.f2 (bZ dS n.f1 (k+1*n.f0.length)).2 hn.l2 (by omega) hk
 refine EH hT Tryz.func23 (by kernel_rfl) rfl rfl (fun A=>?_)
 conv=>whnf
 refine aU.wr [[NW.wr 9 (ql 1 fS k n.f0.length)],[NW.rd]] (.c (.sc (.int .i64 ((k+1*n.f0.length:Nat):Int)))) ?_
 conv=>whnf
 refine kK.mk h1 ?_
 conv=>whnf
 refine aU.wr [[NW.wr eN (bZ dS n.f1 (k+1*n.f0.length)).1],[NW.rd]] (.c (.sc (.int .i64 ((bZ dS n.f1 (k+1*n.f0.length)).2:Int)))) ?_
 conv=>whnf
 refine kK.mk h2 ?_
 conv=>whnf
 refine aU.wr [[NW.wr eS (bZ dK n.f2 (bZ dS n.f1 (k+1*n.f0.length)).2).1],[NW.rd]] (.c (.sc (.int .i64 ((bZ dK n.f2 (bZ dS n.f1 (k+1*n.f0.length)).2).2:Int)))) ?_
 conv=>whnf
 refine kK.mk h3 ?_
 conv=>whnf
 exact G6.mk ⟨rfl,rfl⟩ ⟨⟨rfl,rfl⟩,rfl⟩ ⟨rfl,trivial⟩ ⟨rfl,rfl,rfl,trivial⟩
end Go.Proofs.YtcnfgfomholheaaGreatDoor.Q
end
section
namespace Go.Proofs.YtcnfgfomholheaaGreatDoor.Q
open Go.RowKit Go.Proofs.YtcnfgfomholheaaGreatDoor.Z
set_option linter.unusedVariables false
set_option linter.unusedSimpArgs false
set_option maxRecDepth 100000
set_option maxHeartbeats 4000000
theorem ZL {n:Nat} {q:Prop} (c:decide ((n:Int)<0)=true):q:=by have:=TD c;omega
theorem aaC {β:Type} {f:β→Nat→β × Nat} {a:List β} {k i:Nat} {d:β} (h:i<a.length):(bZ f a k).1.getD i d=(f (a.getD i d) (bZ f (a.take i) k).2).1:=by
 have e:a.getD i d=a[i]:=by simp [h]
 have h1:=DI (f:=f) (a.take i) (a.drop i) k
 rw [List.take_append_drop,List.drop_eq_getElem_cons h] at h1
 have hl:(bZ f (a.take i) k).1.length=i:=by rw [yg,List.length_take];omega
 rw [h1,List.getD_eq_getElem?_getD,List.getElem?_append_right (by omega),hl,Nat.sub_self,e]
 rfl
theorem k3_ {k:Nat} (h:k+3≤4611686018427387904):((k+3:Nat):Int)=wrap64 (wrap64 (wrap64 ((k:Int)+1)+1)+1):=by simp only [wrap64];omega
theorem adZ {k:Nat} (h:k+2≤4611686018427387904):((k+2:Nat):Int)=wrap64 (wrap64 ((k:Int)+1)+1):=by simp only [wrap64];omega
theorem YC (a:List SS) (k:Nat) (ha:a.length≤2097152) (h0:0<k) (hk:(bZ (β:=SS) dK a k).2≤4611686018427387904):aW T Tryz.prog 35 [.c (.sl eS (bZ (β:=SS) dK a k).1), .c (.sc (.int .i64 (k:Int)))] (.c (.sc (.int .i64 ((bZ (β:=SS) dK a k).2:Int)))):=by
 refine bM hT Tryz.func35 (by kernel_rfl) rfl rfl (fun A=>?_)
 conv=>whnf
 refine iO.mk {i:Nat // i≤a.length} (fun p=>(0,[(5,i64 p.1),(1,i64 ((bZ (β:=SS) dK (a.take p.1) k).2:Nat)),(0,im eS (bZ (β:=SS) dK a k).1)],[])) (fun p=>a.length - p.1) ⟨0,Nat.zero_le _⟩ (aI [] rfl rfl rfl ⟨⟨rfl,rfl⟩,⟨rfl,rfl⟩,⟨rfl,rfl⟩,trivial⟩ trivial) ?_
 rintro⟨i,hi⟩
 have hR:=yg (f:=dK) a k
 conv=>whnf
 refine Split.mk (fun c=>?_) (fun c=>?_)
 ·have hk2:i<a.length:=ZK c hR
  clear c
  have hq:=mV (β:=SS) qm (a.take i) k
  have hg:=aaC (β:=SS) (f:=dK) (k:=k) (d:=T.df eS) hk2
  have hmk:=congrArg Prod.snd (yT (β:=SS) (f:=dK) (k:=k) (d:=T.df eS) hk2)
  have hkb:=Nat.le_trans (Fp (β:=SS) (f:=dK) (a:=a) (k:=k) qm (i+1)) hk
  rw [hmk] at hkb
  have hp:=getD_mem (α:=SS) (d:=T.df eS) hk2
  dsimp only at hkb
  generalize (bZ (β:=SS) dK (a.take i) k).2=k2 at hq hg hmk hkb⊢
  generalize a.getD i (T.df eS)=p at hg hmk hkb hp⊢
  have hk1:0<k2:=by omega
  generalize hrw:(bZ (β:=SS) dK a k).1=R at hg hR⊢
  have hlt:i<R.length:=by omega
  conv=>whnf
  refine Need.mk (idx hlt) ?_
  conv=>whnf
  refine aU.mk _ (Fj k2 (by omega) (by simp only [dK] at hkb;omega)) ?_
  conv=>whnf
  refine dD.mk ⟨by kernel_rfl,by kernel_rfl⟩ ?_
  conv=>whnf
  refine Split.mk (fun c=>(Yy c (congrArg (fun z:SS=>z.f0) hg)).elim) (fun c=>?_)
  clear c
  conv=>whnf
  refine Need.mk (idx hlt) ?_
  conv=>whnf
  refine Split.mk (fun c=>(Ju c ((congrArg (fun z:SS=>z.f1) hg).trans (WA (k:=k2) (n:=1) (by simp only [dK] at hkb;omega) (by decide)))).elim) (fun c=>?_)
  clear c
  conv=>whnf
  refine Need.mk (idx hlt) ?_
  conv=>whnf
  refine Split.mk (fun c=>(Ju c ((congrArg (fun z:SS=>z.f2) hg).trans (adZ (k:=k2) (by simp only [dK] at hkb;omega)))).elim) (fun c=>?_)
  clear c
  conv=>whnf
  exact dA.mk ⟨⟨i+1,hk2⟩,Nat.sub_lt_sub_left hk2 (Nat.lt_succ_self i),aI [] rfl rfl rfl ⟨⟨rfl,congrArg i64 (iy hk2 (by omega))⟩,⟨rfl,congrArg i64 ((congrArg (fun x:Nat=>(x:Int)) (hmk)).trans (k3_ (k:=k2) (by simp only [dK] at hkb;omega)))⟩,⟨rfl,rfl⟩,trivial⟩ trivial⟩
 ·have hk2:i=a.length:=Nat.le_antisymm hi (TF c hR)
  clear c
  conv=>whnf
  subst hk2
  exact aV.mk ⟨rfl,rfl⟩ ⟨rfl,rfl⟩ ⟨iv (by rw [List.take_length]),trivial⟩
end Go.Proofs.YtcnfgfomholheaaGreatDoor.Q
end
section
namespace Go.Proofs.YtcnfgfomholheaaGreatDoor.Q
open Go.RowKit Go.Proofs.YtcnfgfomholheaaGreatDoor.Z Go.Proofs.YtcnfgfomholheaaGreatDoor.X Go.Proofs.YtcnfgfomholheaaGreatDoor.Pure
set_option linter.unusedVariables false
set_option linter.unusedSimpArgs false
abbrev NI:=SN
abbrev SI:=SS
abbrev EI:=SE
theorem YD (b:Nat) (h:Lib.firstT b % 8=2∨Lib.firstT b % 8=3∨Lib.firstT b % 8=4):128≤Lib.accLo (Lib.firstT b / 16):=by
 unfold Lib.firstT at h⊢
 unfold Lib.accLo
 repeat' split at h
 all_goals first | (exfalso;omega) | (simp [*];done) | (simp [*];omega)
theorem Oh (a b:List UInt8) (i:Nat) (h:i<a.length):(a++47::b).getD i 0=a.getD i 0:=by
 rw [List.getD_eq_getElem?_getD,List.getD_eq_getElem?_getD,List.getElem?_append_left h]
theorem Oi (a b:List UInt8) (i:Nat) (h:i=a.length):(a++47::b).getD i 0=47:=by
 subst h
 rw [List.getD_eq_getElem?_getD,List.getElem?_append_right (Nat.le_refl _)]
 simp
theorem YE (a b:List UInt8) (k:Nat) (h:k≤a.length):(a++47::b).drop k=a.drop k++47::b:=List.drop_append_of_le_length h
theorem WB (a b:List UInt8) (h0:0<a.length) (sz lo hi k:Nat) (hlo:sz=2∨sz=3∨sz=4→128≤lo)
  (h:Lib.checkN (a++47::b).length ((a++47::b).getD 1 0).toNat ((a++47::b).getD 2 0).toNat ((a++47::b).getD 3 0).toNat sz lo hi=some k):
  k≤a.length∧1≤k∧Lib.checkN a.length (a.getD 1 0).toNat (a.getD 2 0).toNat (a.getD 3 0).toNat sz lo hi=some k:=by
 have e47:(47:UInt8).toNat=47:=rfl
 have at1:a.length=1→((a++47::b).getD 1 0).toNat=47:=fun e=>by rw [Oi a b 1 e.symm];rfl
 have at2:a.length=2→((a++47::b).getD 2 0).toNat=47:=fun e=>by rw [Oi a b 2 e.symm];rfl
 have at3:a.length=3→((a++47::b).getD 3 0).toNat=47:=fun e=>by rw [Oi a b 3 e.symm];rfl
 have in1:1<a.length→(a++47::b).getD 1 0=a.getD 1 0:=fun e=>Oh a b 1 e
 have in2:2<a.length→(a++47::b).getD 2 0=a.getD 2 0:=fun e=>Oh a b 2 e
 have in3:3<a.length→(a++47::b).getD 3 0=a.getD 3 0:=fun e=>Oh a b 3 e
 unfold Lib.checkN at h⊢
 by_cases c1:sz=2
 ·have hlo:=hlo (.inl c1)
  rw [if_pos c1] at h⊢
  split at h
  ·cases h
  ·rename_i q
   obtain rfl:k=2:=by injection h with h;exact h.symm
   have l1:a.length≠1:=fun e=>by have:=at1 e;omega
   have:=in1 (by omega)
   rw [this] at q
   refine⟨by omega,by omega,?_⟩
   rw [if_neg (by omega)]
 rw [if_neg c1] at h⊢
 by_cases c2:sz=3
 ·have hlo:=hlo (.inr (.inl c2))
  rw [if_pos c2] at h⊢
  split at h
  ·cases h
  ·rename_i q
   obtain rfl:k=3:=by injection h with h;exact h.symm
   have l1:a.length≠1:=fun e=>by have:=at1 e;omega
   have l2:a.length≠2:=fun e=>by have:=at2 e;omega
   have e1:=in1 (by omega)
   have e2:=in2 (by omega)
   rw [e1,e2] at q
   refine⟨by omega,by omega,?_⟩
   rw [if_neg (by omega)]
 rw [if_neg c2] at h⊢
 by_cases c3:sz=4
 ·have hlo:=hlo (.inr (.inr c3))
  rw [if_pos c3] at h⊢
  split at h
  ·cases h
  ·rename_i q
   obtain rfl:k=4:=by injection h with h;exact h.symm
   have l1:a.length≠1:=fun e=>by have:=at1 e;omega
   have l2:a.length≠2:=fun e=>by have:=at2 e;omega
   have l3:a.length≠3:=fun e=>by have:=at3 e;omega
   have e1:=in1 (by omega)
   have e2:=in2 (by omega)
   have e3:=in3 (by omega)
   rw [e1,e2,e3] at q
   refine⟨by omega,by omega,?_⟩
   rw [if_neg (by omega)]
 ·rw [if_neg c3] at h
  cases h
theorem Ba:∀(n:Nat) (a b:List UInt8),a.length≤n→Lib.validD (a++47::b)=true→Lib.validD a=true∧Lib.validD b=true
 | n,[],b,_,h=>⟨rfl,by rw [←Lib.validD_cons 47 b (by decide)];exact h⟩
 | 0,x::t,b,hn,h=>by simp at hn
 | n+1,x::t,b,hn,h=>by
   have hn':t.length≤n:=by simpa using hn
   by_cases hx:x.toNat<128
   ·rw [List.cons_append,Lib.validD_cons x _ hx] at h
    rw [Lib.validD_cons x t hx]
    exact Ba n t b hn' h
   ·have h128:128≤(((x::t)++47::b).getD 0 0).toNat:=by show 128≤x.toNat;omega
    have h128':128≤((x::t).getD 0 0).toNat:=by show 128≤x.toNat;omega
    have hg:((x::t)++47::b).getD 0 0=(x::t).getD 0 0:=rfl
    rw [Lib.validD_lead _ (by simp) h128,hg] at h
    split at h
    ·cases h
    ·rename_i k hk
     obtain⟨hk1,hk2,hk3⟩:=WB (x::t) b (by simp) _ _ _ k (YD _) hk
     rw [YE _ _ _ hk1] at h
     have hl:((x::t).drop k).length≤n:=by rw [List.length_drop,List.length_cons];omega
     obtain⟨i1,i2⟩:=Ba n ((x::t).drop k) b hl h
     refine⟨?_,i2⟩
     rw [Lib.validD_lead _ (by simp) h128',hk3]
     exact i1
theorem YF (n b0 b1 b2 b3:Nat):(Lib.decodeN n b0 b1 b2 b3).1=0↔b0=0:=by
 unfold Lib.decodeN
 repeat' split
 all_goals first | (simp only [];omega) | (constructor<;>intro h<;>first | omega | (simp at h;omega))
theorem YG (n b0 b1 b2 b3:Nat):1≤(Lib.decodeN n b0 b1 b2 b3).2∧(Lib.decodeN n b0 b1 b2 b3).2≤4∧(2≤(Lib.decodeN n b0 b1 b2 b3).2→128≤b1)∧(3≤(Lib.decodeN n b0 b1 b2 b3).2→128≤b2)∧(4≤(Lib.decodeN n b0 b1 b2 b3).2→128≤b3):=by
 unfold Lib.decodeN
 repeat' split
 all_goals (refine⟨?_,?_,?_,?_,?_⟩<;>simp only []<;>omega)
theorem G7 (s:ByteArray):∀(b pos:Nat),s.size≤pos+b→(kL s b pos=true↔∀j,pos≤j→j<s.size→(s.get! j).toNat≠0)
 | 0,pos,h=>by
   constructor
   ·intro _ j h1 h2
    omega
   ·intro _
    rfl
 | b+1,pos,h=>by
   unfold kL
   by_cases hp:pos<s.size
   ·rw [if_pos hp]
    have e:=Lib.decode_at s pos
    have hz:=YF (s.size - pos) (s.get! pos).toNat (s.get! (pos+1)).toNat (s.get! (pos+2)).toNat (s.get! (pos+3)).toNat
    obtain⟨w1,w4,t1,t2,t3⟩:=YG (s.size - pos) (s.get! pos).toNat (s.get! (pos+1)).toNat (s.get! (pos+2)).toNat (s.get! (pos+3)).toNat
    rw [←e] at hz w1 w4 t1 t2 t3
    by_cases h0:(Utf8.decode s pos).1=0
    ·rw [if_pos h0]
     constructor
     ·intro q
      cases q
     ·intro q
      exact absurd (hz.1 h0) (q pos (Nat.le_refl _) hp)
    ·rw [if_neg h0,G7 s b _ (by omega)]
     constructor
     ·intro q j h1 h2
      by_cases hj:pos+(Utf8.decode s pos).2≤j
      ·exact q j hj h2
      ·have:j=pos∨j=pos+1∨j=pos+2∨j=pos+3:=by omega
       rcases this with rfl | rfl | rfl | rfl
       ·exact fun hh=>h0 (hz.2 hh)
       ·have:=t1 (by omega);omega
       ·have:=t2 (by omega);omega
       ·have:=t3 (by omega);omega
     ·intro q j h1 h2
      exact q j (by omega) h2
   ·rw [if_neg hp]
    constructor
    ·intro _ j h1 h2
     omega
    ·intro _
     rfl
theorem tail_cons (y:List UInt8) (r:List (List UInt8)):Lib.joinTail [47] (y::r)=47::(y++Lib.joinTail [47] r):=by simp [Lib.joinTail]
theorem G8:∀(t:List (List UInt8)) (x:List UInt8),Lib.validD (x++Lib.joinTail [47] t)=true→∀y∈x::t,Lib.validD y=true
 | [],x,h,y,hy=>by
   have:y=x:=by simpa using hy
   subst this
   simpa [Lib.joinTail] using h
 | z::t,x,h,y,hy=>by
   rw [tail_cons] at h
   obtain⟨h1,h2⟩:=Ba _ x _ (Nat.le_refl _) h
   rcases List.mem_cons.1 hy with rfl | hy
   ·exact h1
   ·exact G8 t z h2 y hy
theorem Oj:∀(t:List (List UInt8)) (x:List UInt8) (b:UInt8),∀y∈x::t,b∈y→b∈x++Lib.joinTail [47] t
 | [],x,b,y,hy,hb=>by
   have:y=x:=by simpa using hy
   subst this
   simp [hb]
 | z::t,x,b,y,hy,hb=>by
   rw [tail_cons]
   rcases List.mem_cons.1 hy with rfl | hy
   ·simp [hb]
   ·have:=Oj t z b y hy hb
    simp only [List.mem_append,List.mem_cons] at this⊢
    exact .inr (.inr this)
theorem KU:∀(t:List (List UInt8)) (x:List UInt8),∀y∈x::t,y.length≤(x++Lib.joinTail [47] t).length
 | [],x,y,hy=>by
   have:y=x:=by simpa using hy
   subst this
   simp
 | z::t,x,y,hy=>by
   rw [tail_cons]
   rcases List.mem_cons.1 hy with rfl | hy
   ·simp
   ·have:=KU t z y hy
    simp only [List.length_append,List.length_cons] at this⊢
    omega
theorem uj (s:ByteArray):fE s=true↔(0:UInt8)∉dl s∧Lib.validD (dl s)=true∧s.size≤60:=by
 unfold fE
 rw [Bool.and_eq_true,Bool.and_eq_true,decide_eq_true_eq,G7 s s.size 0 (by omega)]
 have e:(∀j,0≤j→j<s.size→(s.get! j).toNat≠0)↔(0:UInt8)∉dl s:=by
  have g:∀(j:Nat) (h:j<(dl s).length),s.get! j=(dl s)[j]:=by
   intro j h
   have h2:j<s.data.size:=by rw [jc] at h;exact h
   show s.data[j]! =_
   rw [getElem!_pos s.data j h2]
   rfl
  constructor
  ·intro h m
   obtain⟨j,hj,e⟩:=List.mem_iff_getElem.1 m
   refine h j (Nat.zero_le _) (by rw [jc] at hj;exact hj) ?_
   rw [g j hj,e]
   rfl
  ·intro h j _ hj hz
   have hj':j<(dl s).length:=by rw [jc];exact hj
   rw [g j hj'] at hz
   refine h ?_
   have:(dl s)[j]=0:=UInt8.toNat_inj.1 hz
   rw [←this]
   exact List.getElem_mem hj'
 rw [e]
def dF (p:List ByteArray):ByteArray:=⟨(Lib.join (p.map dl) [47]).toArray⟩
theorem uV (p:List ByteArray):dl (dF p)=Lib.join (p.map dl) [47]:=rfl
theorem G9 (p:List ByteArray):(dF p).size=(Lib.join (p.map dl) [47]).length:=by rw [←jc,uV]
theorem Ol (p:List ByteArray) (h:fE (dF p)=true):∀x∈p,fE x=true:=by
 intro x hx
 obtain⟨h1,h2,h3⟩:=(uj _).1 h
 cases p with
 | nil=>cases hx
 | cons y t=>
   rw [uV,List.map_cons,Lib.join_cons] at h1 h2
   rw [G9,List.map_cons,Lib.join_cons] at h3
   have hm:dl x∈dl y::t.map dl:=by rw [←List.map_cons];exact List.mem_map_of_mem hx
   refine(uj x).2 ⟨fun m=>h1 (Oj _ _ 0 _ hm m),G8 _ _ h2 _ hm,?_⟩
   have:=KU (t.map dl) (dl y) _ hm
   rw [jc] at this
   omega
theorem WC (x:ByteArray):dF [x]=x:=by
 refine Go.WideShapes.bytes_inj ?_
 show dl (dF [x])=dl x
 rw [uV]
 exact Lib.join_one _ _
theorem TJ (p:List ByteArray) (hp:p≠[]) (x:ByteArray):dF (p++[x])=(dF p++(⟨#[47]⟩:ByteArray))++x:=by
 refine Go.WideShapes.bytes_inj ?_
 show dl (dF (p++[x]))=dl ((dF p++(⟨#[47]⟩:ByteArray))++x)
 have ap:∀a b:ByteArray,dl (a++b)=dl a++dl b:=fun a b=>by
  unfold dl
  rw [ByteArray.data_append,Array.toList_append]
 rw [ap,ap,uV,uV]
 cases p with
 | nil=>exact absurd rfl hp
 | cons y t=>
   rw [List.cons_append,List.map_cons,List.map_append,Lib.join_cons,show(y::t).map dl=dl y::t.map dl from rfl,Lib.join_cons]
   have e:∀l:List (List UInt8),Lib.joinTail [47] (l++[dl x])=Lib.joinTail [47] l++[47]++dl x:=fun l=>by simp [Lib.joinTail]
   show dl y++Lib.joinTail [47] (t.map dl++[dl x])=_
   rw [e]
   simp [List.append_assoc]
   rfl
theorem YH (m:Nat):∀(p:List ByteArray),(∀x∈p,x.size≤m)→(dF p).size≤p.length*(m+1):=by
 intro p h
 rw [G9]
 cases p with
 | nil=>simp [Lib.join_nil]
 | cons y t=>
   have aux:∀(t:List ByteArray),(∀x∈t,x.size≤m)→(Lib.joinTail [47] (t.map dl)).length≤t.length*(m+1):=by
    intro t
    induction t with
    | nil=>intro _;simp [Lib.joinTail]
    | cons z t ih=>
      intro h
      have h1:=h z List.mem_cons_self
      have h2:=ih (fun x hx=>h x (List.mem_cons_of_mem _ hx))
      rw [List.map_cons,tail_cons,List.length_cons,List.length_append,jc,List.length_cons,Nat.succ_mul]
      omega
   have h1:=h y List.mem_cons_self
   have h2:=aux t (fun x hx=>h x (List.mem_cons_of_mem _ hx))
   rw [List.map_cons,Lib.join_cons,List.length_append,jc,List.length_cons,Nat.succ_mul]
   omega
mutual
def cnt:NI→Nat
 | ⟨a,b,c⟩=>a.length+c.length+tJ b
def tJ:List NI→Nat
 | []=>0
 | k::r=>cnt k+tJ r
end
theorem abC (n:NI):cnt n=n.f0.length+n.f2.length+tJ n.f1:=by cases n;rw [cnt]
def nameP (s:ByteArray):Bool:=fE s && !(dl s).isEmpty
def lY (x:SI):Bool:=nameP x.f0 && ((decide (0≤x.f1) && decide (x.f1≤2)) && decide (x.f2≥0))
def lD (x:ByteArray):Bool:=(eu x && !(dl x).contains 47) || (dl x).isEmpty
def nJ:Option ByteArray→ByteArray→Bool
 | none,_=>true
 | some y,x=>Op.bytesLess y.toList x.toList
def wI:Option ByteArray→List SI→Bool
 | _,[]=>true
 | y,s::r=>lY s && (nJ y s.f0 && wI (some s.f0) r)
def rZ (l:List SI):Bool:=wI none l
def kY (x:ByteArray):Bool:=decide (x.toList=([35]:List UInt8))
mutual
def okS:Nat→NI→Bool
 | d,⟨ns,ks,ss⟩=>decide (ns.length=ks.length) && (!(decide (0<ns.length) && decide (d=6)) && (rZ ss && lZ d ns none ks))
def lZ:Nat→List ByteArray→Option ByteArray→List NI→Bool
 | d,x::r,p,k::q=>lD x && (nJ p x && (!(decide (k.f0.length=0) && decide (k.f2.length=0)) && (!(kY x && !decide (k.f0.length=0)) && (okS (d+1) k && lZ d r (some x) q))))
 | _,_,_,_=>true
end
theorem He (d:Nat) (n:NI):okS d n=(decide (n.f0.length=n.f1.length) && (!(decide (0<n.f0.length) && decide (d=6)) && (rZ n.f2 && lZ d n.f0 none n.f1))):=by
 cases n;rw [okS]
mutual
def yj:Nat→ByteArray→NI→Bool
 | d,a,⟨ns,ks,ss⟩=>!(decide (0<d) && (decide (0<ss.length) && !eu a)) && pJ d a ns ks
def pJ:Nat→ByteArray→List ByteArray→List NI→Bool
 | d,a,x::r,k::q=>yj (d+1) (if 0<d then (a++(⟨#[47]⟩:ByteArray))++x else x) k && pJ d a r q
 | _,_,_,_=>true
end
theorem WE (d:Nat) (a:ByteArray) (n:NI):yj d a n=(!(decide (0<d) && (decide (0<n.f2.length) && !eu a)) && pJ d a n.f0 n.f1):=by
 cases n;rw [yj]
theorem abD (s:ByteArray):(s.toList==([]:List UInt8))=(dl s).isEmpty:=by
 rw [Bool.eq_iff_iff,beq_iff_eq]
 exact qE s
def Jz (x:ByteArray) (k:NI):Bool:=decide ((fQ (dl x)).length≤1) && jL (dl x) (decide (k.f1.length=0))
mutual
def okI:List ByteArray→NI→Bool
 | p,⟨ns,ks,ss⟩=>decide (ns.length=ks.length) && (decide (p.length≤6) && (rZ ss && ((decide (ss.length=0) || eu (dF p)) && l7 p ns none ks)))
def l7:List ByteArray→List ByteArray→Option ByteArray→List NI→Bool
 | p,x::r,y,k::q=>nJ y x && (Jz x k && (!(decide (k.f1.length=0) && decide (k.f2.length=0)) && (okI (p++[x]) k && l7 p r (some x) q)))
 | _,_,_,_=>true
end
theorem WG (p:List ByteArray) (n:NI):okI p n=(decide (n.f0.length=n.f1.length) && (decide (p.length≤6) && (rZ n.f2 && ((decide (n.f2.length=0) || eu (dF p)) && l7 p n.f0 none n.f1)))):=by
 cases n;rw [okI]
theorem Om (d:Nat):∀(ns:List ByteArray) (pr:Option ByteArray) (ks:List NI),ns.length=ks.length→lZ d ns pr ks=true→∀k∈ks,okS (d+1) k=true
 | [],pr,[],_,_,k,hk=>by cases hk
 | [],pr,_::_,e,_,k,hk=>by simp at e
 | _::_,pr,[],e,_,k,hk=>by cases hk
 | x::r,pr,y::q,e,h,k,hk=>by
   rw [lZ] at h
   simp only [Bool.and_eq_true] at h
   obtain⟨_,_,_,_,h1,h2⟩:=h
   rcases List.mem_cons.1 hk with rfl | hk
   ·exact h1
   ·exact Om d r (some x) q (by simpa using e) h2 k hk
theorem sU {d:Nat} {n:NI} (h:okS d n=true):n.f0.length=n.f1.length∧(0<n.f0.length→d≠6)∧rZ n.f2=true∧lZ d n.f0 none n.f1=true:=by
 rw [He] at h
 simp only [Bool.and_eq_true,decide_eq_true_eq,Bool.not_eq_true',Bool.and_eq_false_iff,decide_eq_false_iff_not] at h
 obtain⟨h1,h2,h3,h4⟩:=h
 exact⟨h1,fun q=>by rcases h2 with h2 | h2<;>omega,h3,h4⟩
theorem qo {p:List ByteArray} {n:NI}:okI p n=true↔n.f0.length=n.f1.length∧p.length≤6∧rZ n.f2=true∧(n.f2.length=0∨eu (dF p)=true)∧l7 p n.f0 none n.f1=true:=by
 rw [WG]
 simp only [Bool.and_eq_true,decide_eq_true_eq,Bool.or_eq_true]
theorem KW (a b:Nat):((!(decide (a=0) && decide (b=0)))=true)↔(a≠0∨b≠0):=by
 by_cases h:a=0<;>by_cases k:b=0<;>simp [h,k]
theorem WH (c:Bool) (a:Nat):((!(c && !decide (a=0)))=true)↔(c=false∨a=0):=by
 cases c<;>by_cases h:a=0<;>simp [h]
theorem sV {p:List ByteArray} {x:ByteArray} {r:List ByteArray} {y:Option ByteArray} {k:NI} {q:List NI}:l7 p (x::r) y (k::q)=true↔nJ y x=true∧Jz x k=true∧(k.f1.length≠0∨k.f2.length≠0)∧okI (p++[x]) k=true∧l7 p r (some x) q=true:=by
 rw [l7,Bool.and_eq_true,Bool.and_eq_true,Bool.and_eq_true,Bool.and_eq_true,KW]
theorem WI {d:Nat} {x:ByteArray} {r:List ByteArray} {y:Option ByteArray} {k:NI} {q:List NI}:lZ d (x::r) y (k::q)=true↔lD x=true∧nJ y x=true∧(k.f0.length≠0∨k.f2.length≠0)∧(kY x=false∨k.f0.length=0)∧okS (d+1) k=true∧lZ d r (some x) q=true:=by
 rw [lZ,Bool.and_eq_true,Bool.and_eq_true,Bool.and_eq_true,Bool.and_eq_true,Bool.and_eq_true,KW,WH]
theorem abE {n:NI} (hn:Bd n):∀p:List ByteArray,okI p n=true→(n.f1.length≠0∨n.f2.length≠0)→∃ext,eu (dF (p++ext))=true:=by
 induction hn with
 | mk n h0 z0 h1 h2 z2 hk ih=>
   intro p h hne
   obtain⟨e1,e2,e3,e4,e5⟩:=qo.1 h
   by_cases c:n.f2.length=0
   ·have c1:n.f1.length≠0:=by omega
    cases hk0:n.f1 with
    | nil=>rw [hk0] at c1;simp at c1
    | cons k q=>
      cases hx0:n.f0 with
      | nil=>rw [hx0,hk0] at e1;simp at e1
      | cons x r=>
        rw [hx0,hk0] at e5
        obtain⟨_,_,f1,f2,_⟩:=sV.1 e5
        obtain⟨ext,he⟩:=ih k (by rw [hk0];exact List.mem_cons_self) (p++[x]) f2 f1
        exact⟨x::ext,by rw [List.append_assoc] at he;exact he⟩
   ·refine⟨[],?_⟩
    rw [List.append_nil]
    rcases e4 with e4 | e4
    ·exact absurd e4 c
    ·exact e4
theorem YI (l:List UInt8):allL [l]=jL l true:=by
 rw [allL,allL,Bool.and_true]
 rfl
theorem TL (l:List UInt8):(fQ l).length≤1↔(47:UInt8)∉l:=by
 constructor
 ·intro h
  obtain⟨a,r,e⟩:=rF l
  rw [e,List.length_cons] at h
  have:r=[]:=List.length_eq_zero_iff.1 (by omega)
  subst this
  have e2:=Fv l
  rw [e,Lib.join_one] at e2
  rw [←e2]
  exact Ro l a (by rw [e];exact List.mem_cons_self)
 ·intro h
  rw [Fz l h]
  exact Nat.le_refl _
theorem WJ {l:List UInt8} {b:Bool} (h:jL l b=true):jL l true=true:=by
 unfold jL at h⊢
 cases b
 ·simp only [Bool.and_false,Bool.or_false] at h
  rw [h,Bool.true_or]
 ·exact h
theorem filter_one {x:ByteArray} (h:(47:UInt8)∉dl x):eu x=(jL (dl x) true && fE x && !(dl x).isEmpty):=by
 unfold eu
 rw [Fz _ h,YI]
 simp
theorem Rq (x:ByteArray):kY x=true↔dl x=[35]:=by
 unfold kY
 rw [decide_eq_true_eq,Lib.toList_data]
theorem level_hash {b:Bool} (h:jL [35] b=true):b=true:=by
 cases b
 ·exact absurd h (by decide)
 ·rfl
theorem TM {l:List UInt8} (h:l≠[35]) (a b:Bool):jL l a=jL l b:=by
 unfold jL
 have:(l==[35])=false:=beq_eq_false_iff_ne.2 h
 rw [this,Bool.false_and,Bool.false_and]
theorem KX {p:List ByteArray} {x:ByteArray} {k:NI} (hb:Bd k) (he:k.f0.length=k.f1.length) (ht:fE x=true):Jz x k=true↔lD x=true∧(kY x=false∨k.f0.length=0):=by
 unfold Jz lD
 rw [Bool.and_eq_true,decide_eq_true_eq,TL]
 constructor
 ·rintro⟨h1,h2⟩
  refine⟨?_,?_⟩
  ·rw [filter_one h1,WJ h2,ht]
   have:(dl x).contains 47=false:=by
    rw [Bool.eq_false_iff]
    intro m
    exact h1 (List.contains_iff_mem.1 m)
   rw [this]
   cases (dl x).isEmpty<;>rfl
  ·by_cases q:kY x=true
   ·right
    rw [(Rq x).1 q] at h2
    have:=level_hash h2
    rw [decide_eq_true_eq] at this
    omega
   ·exact .inl (Bool.eq_false_iff.2 q)
 ·rintro⟨h1,h2⟩
  rw [Bool.or_eq_true] at h1
  rcases h1 with h1 | h1
  ·rw [Bool.and_eq_true,Bool.not_eq_true'] at h1
   obtain⟨f1,f2⟩:=h1
   have n47:(47:UInt8)∉dl x:=fun m=>by
    rw [List.contains_iff_mem.2 m] at f2
    cases f2
   refine⟨n47,?_⟩
   rw [filter_one n47,Bool.and_eq_true,Bool.and_eq_true] at f1
   by_cases q:dl x=[35]
   ·rcases h2 with h2 | h2
    ·rw [(Rq x).2 q] at h2;cases h2
    ·rw [show decide (k.f1.length=0)=true from decide_eq_true (by omega)]
     exact f1.1.1
   ·rw [TM q _ true]
    exact f1.1.1
  ·rw [List.isEmpty_iff] at h1
   rw [h1]
   refine⟨by simp,?_⟩
   rfl
theorem QC {x:ByteArray} (h:lD x=true):fE x=true:=by
 unfold lD at h
 rw [Bool.or_eq_true] at h
 rcases h with h | h
 ·rw [Bool.and_eq_true] at h
  have h:=h.1
  unfold eu at h
  rw [Bool.and_eq_true,Bool.and_eq_true,Bool.and_eq_true] at h
  exact h.1.1.2
 ·rw [List.isEmpty_iff] at h
  refine(uj x).2 ⟨by rw [h];simp,by rw [h];rfl,?_⟩
  have:(dl x).length=0:=by rw [h];rfl
  rw [jc] at this
  omega
theorem EJ {s:ByteArray} (h:eu s=true):fE s=true:=by
 unfold eu at h
 rw [Bool.and_eq_true,Bool.and_eq_true,Bool.and_eq_true] at h
 exact h.1.1.2
theorem Bc (p:List ByteArray) (d:Nat) (hp:p.length=d) (x:ByteArray):(if 0<d then (dF p++(⟨#[47]⟩:ByteArray))++x else x)=dF (p++[x]):=by
 cases p with
 | nil=>
   rw [if_neg (by simp at hp;omega)]
   exact(WC x).symm
 | cons y t=>
   rw [if_pos (by simp at hp;omega),TJ _ (by simp)]
theorem Oo (p:List ByteArray) (d:Nat) (hp:p.length=d) (hd:d<6):∀(ns:List ByteArray) (ks:List NI) (y:Option ByteArray),ns.length=ks.length→(∀k∈ks,Bd k)→
  (∀k∈ks,∀x:ByteArray,(okI (p++[x]) k=true↔okS (d+1) k=true∧yj (d+1) (dF (p++[x])) k=true))→
  (l7 p ns y ks=true↔lZ d ns y ks=true∧pJ d (dF p) ns ks=true)
 | [],[],y,_,_,_=>by
   rw [l7,lZ,pJ]
   ·simp
   all_goals (intro x1 x2 x3 x4 e;cases e)
 | [],_::_,y,e,_,_=>by simp at e
 | _::_,[],y,e,_,_=>by simp at e
 | x::r,k::q,y,e,hb,ih=>by
   have ih2:=Oo p d hp hd r q (some x) (by simpa using e) (fun k hk=>hb k (List.mem_cons_of_mem _ hk)) (fun k hk=>ih k (List.mem_cons_of_mem _ hk))
   have hk:=hb k List.mem_cons_self
   have ihk:=ih k List.mem_cons_self x
   rw [sV,WI,pJ,Bool.and_eq_true,Bc p d hp x,ih2]
   constructor
   ·rintro⟨a1,a2,a3,a4,a5,a6⟩
    obtain⟨b1,b2⟩:=ihk.1 a4
    obtain⟨e1,_,_,_⟩:=sU b1
    obtain⟨ext,he⟩:=abE hk (p++[x]) a4 a3
    have ht:fE x=true:=Ol _ (EJ he) x (by simp)
    obtain⟨c1,c2⟩:=(KX (p:=p) hk e1 ht).1 a2
    exact⟨⟨c1,a1,by omega,c2,b1,a5⟩,b2,a6⟩
   ·rintro⟨⟨c1,a1,a3,c2,b1,a5⟩,b2,a6⟩
    obtain⟨e1,_,_,_⟩:=sU b1
    exact⟨a1,(KX (p:=p) hk e1 (QC c1)).2 ⟨c1,c2⟩,by omega,ihk.2 ⟨b1,b2⟩,a5,a6⟩
theorem WL {n:NI} (hn:Bd n):∀(p:List ByteArray) (d:Nat),p.length=d→d≤6→(d=0→n.f2.length=0)→(okI p n=true↔okS d n=true∧yj d (dF p) n=true):=by
 induction hn with
 | mk n h0 z0 h1 h2 z2 hk ih=>
   intro p d hp hd h00
   have ihk:d<6→∀k∈n.f1,∀x:ByteArray,(okI (p++[x]) k=true↔okS (d+1) k=true∧yj (d+1) (dF (p++[x])) k=true):=fun hd2 k hk2 x=>
    ih k hk2 (p++[x]) (d+1) (by simp only [List.length_append,List.length_cons,List.length_nil];omega) (by omega) (fun z=>by omega)
   have tx:yj d (dF p) n=true↔(n.f2.length=0∨eu (dF p)=true)∧pJ d (dF p) n.f0 n.f1=true:=by
    rw [WE,Bool.and_eq_true]
    simp only [Bool.not_eq_true',Bool.and_eq_false_iff,decide_eq_false_iff_not,Bool.not_eq_false']
    constructor
    ·rintro⟨a,b⟩
     refine⟨?_,b⟩
     rcases a with a | a | a
     ·exact .inl (h00 (by omega))
     ·exact .inl (by omega)
     ·exact .inr a
    ·rintro⟨a,b⟩
     refine⟨?_,b⟩
     rcases a with a | a
     ·exact .inr (.inl (by omega))
     ·exact .inr (.inr a)
   rw [qo,tx]
   constructor
   ·rintro⟨e1,e2,e3,e4,e5⟩
    by_cases c:n.f0.length=0
    ·have c0:n.f0=[]:=List.length_eq_zero_iff.1 c
     have c1:n.f1=[]:=List.length_eq_zero_iff.1 (by omega)
     refine⟨?_,e4,?_⟩
     ·rw [He,e3,c0,c1]
      rw [lZ]
      ·simp
      ·intro x1 x2 x3 x4 e;cases e
     ·rw [c0,c1,pJ]
      intro x1 x2 x3 x4 e;cases e
    ·have hd2:d<6:=by
      cases hx0:n.f0 with
      | nil=>rw [hx0] at c;simp at c
      | cons x r=>
        cases hk0:n.f1 with
        | nil=>rw [hx0,hk0] at e1;simp at e1
        | cons k q=>
          rw [hx0,hk0] at e5
          obtain⟨_,_,_,f2,_⟩:=sV.1 e5
          obtain⟨_,g2,_⟩:=qo.1 f2
          simp only [List.length_append,List.length_cons,List.length_nil] at g2
          omega
     obtain⟨a,b⟩:=(Oo p d hp hd2 n.f0 n.f1 none e1 hk (ihk hd2)).1 e5
     refine⟨?_,e4,b⟩
     rw [He,e3,a,decide_eq_true e1,show decide (d=6)=false from decide_eq_false (by omega),Bool.and_false]
     rfl
   ·rintro⟨h,e4,b⟩
    obtain⟨e1,e2,e3,a⟩:=sU h
    refine⟨e1,by omega,e3,e4,?_⟩
    by_cases c:n.f0.length=0
    ·have c0:n.f0=[]:=List.length_eq_zero_iff.1 c
     rw [c0,l7]
     intro x1 x2 x3 x4 e;cases e
    ·have hd2:d<6:=by have:=e2 (by omega);omega
     exact(Oo p d hp hd2 n.f0 n.f1 none e1 hk (ihk hd2)).2 ⟨a,b⟩
def jJ (n:NI):Bool:=decide (n.f2.length=0) && okI [] n
mutual
def iK:List ByteArray→NI→List EI
 | p,⟨ns,ks,ss⟩=>ss.map (fun s=>⟨dF p,s.f0,s.f1,s.f2⟩)++dV p ns ks
def dV:List ByteArray→List ByteArray→List NI→List EI
 | p,x::r,k::q=>iK (p++[x]) k++dV p r q
 | _,[],_=>[]
 | _,_::_,[]=>[]
end
theorem aaD (p:List ByteArray) (n:NI):iK p n=n.f2.map (fun s=>⟨dF p,s.f0,s.f1,s.f2⟩)++dV p n.f0 n.f1:=by cases n;rw [iK]
mutual
theorem Rt:∀(p:List ByteArray) (n:NI),(iK p n).length≤cnt n
 | p,⟨ns,ks,ss⟩=>by
   rw [iK,cnt,List.length_append,List.length_map]
   have:=Oq p ns ks
   omega
theorem Oq:∀(p:List ByteArray) (ns:List ByteArray) (ks:List NI),(dV p ns ks).length≤tJ ks
 | p,x::r,k::q=>by
   rw [dV,tJ,List.length_append]
   have:=Rt (p++[x]) k
   have:=Oq p r q
   omega
 | _,[],_=>by rw [dV];exact Nat.zero_le _
 | _,_::_,[]=>by rw [dV];exact Nat.zero_le _
end
theorem su (p:List ByteArray) (hp:p.length≤7) (hz:∀x∈p,x.size≤1048576):(dF p).size≤1073741824:=by
 have h3:=YH 1048576 p hz
 have h4:p.length*(1048576+1)≤7*(1048576+1):=Nat.mul_le_mul_right _ hp
 omega
def gX (n:NI):List EI:=if jJ n=true then iK [] n else []
theorem YJ (n:NI):(gX n).length≤cnt n:=by
 unfold gX
 split
 ·exact Rt [] n
 ·exact Nat.zero_le _
end Go.Proofs.YtcnfgfomholheaaGreatDoor.Q
end
section
namespace Go.Proofs.YtcnfgfomholheaaGreatDoor.Q
open Go.RowKit Go.Proofs.YtcnfgfomholheaaGreatDoor.Z
set_option linter.unusedVariables false
theorem YK {r:List (T.Tb 9)} {j:Nat} {l:List V} (h:(r.map (T.enc 9))[j]? =some l):∃s:ByteArray,r[j]? =some s∧l=[.sc (.string s)]:=by
 rw [List.getElem?_map] at h
 obtain⟨s,hs,rfl⟩:=Option.map_eq_some_iff.1 h
 exact⟨s,hs,rfl⟩
theorem aaE {r:List (T.Tb 9)} {j:Nat} {s:ByteArray} (h:r[j]? =some s):(r.map (T.enc 9))[j]? =some [.sc (.string s)]:=by
 rw [List.getElem?_map,h];rfl
open Go.Proofs.YtcnfgfomholheaaGreatDoorW.PrintWords in
theorem abG {w:World} {base:Nat} {v:Value} {r:List (T.Tb 9)} (h:Kd.R Kd.string 9 w base (fun _=>True) v r):Ow T.sz w (fun k=>base≤k∧k<w.heap.size) (.sl 9 (r.map (T.enc 9))) v:=by
 obtain⟨_,inner,ho,hr⟩:=h
 have hone:∀(j:Nat) (s:ByteArray),r[j]? =some s→inner[j]? =some (.string s):=fun j s hj=>by
  have h2:(inner.drop (j*1)).take 1=[.string s]:=hr.2 j s hj
  have h3:((inner.drop (j*1)).take 1)[0]? =some (.string s):=by rw [h2];rfl
  rw [List.getElem?_take_of_lt (by decide),List.getElem?_drop] at h3
  simpa using h3
 have hlen:(r.map (T.enc 9)).length=r.length:=List.length_map ..
 have hget:∀{j:Nat} {l:List V},(r.map (T.enc 9))[j]? =some l→∃s:ByteArray,r[j]? =some s∧l=[.sc (.string s)]:=fun h=>YK h
 generalize r.map (T.enc 9)=xs at hlen hget
 have ho2:w.ownsRow 0 9 (T.sz 9) v xs.length inner:=by
  rw [hlen]
  exact GX ho (Nat.zero_le _)
 refine DJ ho2 (fun j _=>inner.getD j undef) (fun _ _ _=>False) (fun j l hj=>?_) (fun j l q x hj hq=>?_) (fun _ _ _ h=>h.elim) (fun _ _ _ _ _ h=>h.elim) (fun g hg=>⟨own_base ho g hg,fF ho g hg⟩)
 ·obtain⟨s,_,rfl⟩:=hget hj
  rfl
 ·obtain⟨s,hs,rfl⟩:=hget hj
  have hq0:q=0:=by have:=(List.getElem?_eq_some_iff.1 hq).1;simp at this;exact this
  subst hq0
  have hx:x= .sc (.string s):=(Option.some.inj hq).symm
  subst hx
  have h1:=hone j s hs
  have e:j*T.sz 9+0=j:=Nat.mul_one j
  rw [e]
  refine⟨by rw [List.getD_eq_getElem?_getD,h1];rfl,?_⟩
  rw [List.getD_eq_getElem?_getD,h1]
  exact .sc _ _ rfl
open Go.Proofs.YtcnfgfomholheaaGreatDoorW.PrintWords in
theorem ac4 {w:World} {S:Nat→Prop} {v:Value} {l:List (T.Tb 9)} (h:Rd T.sz w S (.sl 9 (l.map (T.enc 9))) v) (hl:l.length≤9223372036854775807):∃A c,v= .slice A l.length c∧l.length≤c∧Kd.C Kd.string w A l.length l:=by
 have hlen:(l.map (T.enc 9)).length=l.length:=List.length_map ..
 have hat:∀{j:Nat} {s:ByteArray},l[j]? =some s→(l.map (T.enc 9))[j]? =some [.sc (.string s)]:=fun h=>aaE h
 generalize l.map (T.enc 9)=xs at hlen hat h
 obtain⟨A,c,e,hc⟩:=h.slice
 rw [hlen] at e hc
 subst e
 refine⟨A,c,rfl,hc,rfl,hl,fun h0=>?_⟩
 have hj0:=hat (List.getElem?_eq_getElem h0)
 obtain⟨ad,c',e,_⟩:=h.elem hj0
 have eA:A=some ad:=(Value.slice.inj e).1
 subst eA
 refine⟨ad,rfl,fun j s hj=>⟨[.string s],rfl,rfl,fun i u hi=>?_⟩⟩
 have hi0:i=0:=by have:=(List.getElem?_eq_some_iff.1 hi).1;simp at this;exact this
 subst hi0
 have hu:u= .string s:=(Option.some.inj hi).symm
 subst hu
 obtain⟨ad',c'',e',_,_,_,_,hx⟩:=h.elem (hat hj)
 have:ad'=ad:=(Option.some.inj (Value.slice.inj e').1).symm
 subst this
 obtain⟨u,h1,h2⟩:=hx 0 (.sc (.string s)) rfl
 have e3:u= .string s:=by cases h2;rfl
 rw [e3] at h1
 exact h1
theorem DK {f:FuncId} {fn:Func} {c:Code} (hf:Tryz.prog.funcs[f]? =some fn) (hname:(fn.name== "runtime.NumGoroutine")=false) (hb:fn.body=some c) {s:ByteArray} {b:Bool}
  (h:∀w,Go.Proofs.YtcnfgfomholheaaGreatDoor.X.Tabs w→Calls Tryz.prog f #[.string s] w fun e w'=>e= .returned (.bool b)∧Below w.heap.size w w'):aW T Tryz.prog f [.c (.sc (.string s))] (.c (.sc (.bool b))):=by
 refine⟨⟨fn,hf,hname,by rw [hb];rfl⟩,fun w vs S hj ha=>?_⟩
 obtain⟨v,r,rfl,⟨rfl,_⟩,rfl⟩:=ha
 refine(h w hj).mono ?_
 rintro e w' ⟨rfl,hb⟩
 exact⟨.bool b,fun _ _=>False,rfl,hb,fun _ _ h=>h.elim,fun _ _ _ h=>h.elim,[.bool b],rfl,[],rfl,rfl,rfl⟩
theorem Hf {f:FuncId} {fn:Func} {c:Code} (hf:Tryz.prog.funcs[f]? =some fn) (hname:(fn.name== "runtime.NumGoroutine")=false) (hb:fn.body=some c) {s t:Value} {b:Bool}
  (h:∀w,Go.Proofs.YtcnfgfomholheaaGreatDoor.X.Tabs w→Calls Tryz.prog f #[s,t] w fun e w'=>e= .returned (.bool b)∧Below w.heap.size w w'):aW T Tryz.prog f [.c (.sc s), .c (.sc t)] (.c (.sc (.bool b))):=by
 refine⟨⟨fn,hf,hname,by rw [hb];rfl⟩,fun w vs S hj ha=>?_⟩
 obtain⟨v,r,rfl,⟨rfl,_⟩,v2,r2,rfl,⟨rfl,_⟩,rfl⟩:=ha
 refine(h w hj).mono ?_
 rintro e w' ⟨rfl,hb⟩
 exact⟨.bool b,fun _ _=>False,rfl,hb,fun _ _ h=>h.elim,fun _ _ _ h=>h.elim,[.bool b],rfl,[],rfl,rfl,rfl⟩
theorem abH {f:FuncId} {fn:Func} {c:Code} (hf:Tryz.prog.funcs[f]? =some fn) (hname:(fn.name== "runtime.NumGoroutine")=false) (hb:fn.body=some c) {s:ByteArray} {r:List (T.Tb 9)}
  (h:∀w,Go.Proofs.YtcnfgfomholheaaGreatDoor.X.Tabs w→Calls Tryz.prog f #[.string s] w fun e w'=>∃Bf:Value,e= .returned (Bf)∧Go.Proofs.YtcnfgfomholheaaGreatDoorW.PrintWords.Kd.R Go.Proofs.YtcnfgfomholheaaGreatDoorW.PrintWords.Kd.string 9 w' w.heap.size (fun _=>True) Bf r∧Below w.heap.size w w'):aW T Tryz.prog f [.c (.sc (.string s))] (.c (.ow 9 r)):=by
 refine⟨⟨fn,hf,hname,by rw [hb];rfl⟩,fun w vs S hj ha=>?_⟩
 obtain⟨v,q,rfl,⟨rfl,_⟩,rfl⟩:=ha
 refine(h w hj).mono ?_
 rintro e w' ⟨v,rfl,hr,hb⟩
 exact⟨v,fun i k=>i=0∧w.heap.size≤k∧k<w'.heap.size,rfl,hb,fun i k hk=>hk.2,fun i j k h1 h2=>h1.1.trans h2.1.symm,[v],rfl,v,[],rfl,(abG hr).mono (fun k hk=>⟨rfl,hk⟩),rfl⟩
theorem TN (s:ByteArray) (hs:s.size≤140737488351232):aW T Tryz.prog 147 [.c (.sc (.string s))] (.c (.sc (.bool (X.fE s)))):=
 DK Tryz.func147 (by kernel_rfl) rfl (fun w hT=>X.eP.calls s _ w hT (Pure.tK s hs))
theorem TP (s:ByteArray):aW T Tryz.prog 177 [.c (.sc (.string s))] (.c (.sc (.bool (X.fE s)))):=by
 obtain⟨k,h⟩:=(Pure.tV s)
 exact DK Tryz.func177 (by kernel_rfl) rfl (fun w hT=>P.eU.calls _ s _ w (h k (Nat.le_refl _)))
theorem Ot (s:ByteArray) (hs:s.size≤1073741824):aW T Tryz.prog 77 [.c (.sc (.string s))] (.c (.sc (.bool (Pure.eu s)))):=by
 obtain⟨k,h⟩:=(Pure.wJ s hs)
 exact DK Tryz.func77 (by kernel_rfl) rfl (fun w hT=>P.bQ.calls _ s _ w hT (h k (Nat.le_refl _)))
theorem Bg (s:ByteArray) (hs:s.size≤1073741824):aW T Tryz.prog 106 [.c (.sc (.string s))] (.c (.sc (.bool (Pure.eu s)))):=by
 obtain⟨k,h⟩:=(Pure.wK s hs)
 exact DK Tryz.func106 (by kernel_rfl) rfl (fun w hT=>P.aN.calls _ s _ w (h k (Nat.le_refl _)))
theorem WM (f t:ByteArray) (hf:f.size≤1073741824) (ht:t.size≤1073741824):aW T Tryz.prog 80 [.c (.sc (.string f)), .c (.sc (.string t))] (.c (.sc (.bool (Pure.lF f t)))):=by
 obtain⟨k,h⟩:=(Pure.Ou f t hf ht)
 exact Hf Tryz.func80 (by kernel_rfl) rfl (fun w hT=>P.bH.calls _ f t _ w hT (h k (Nat.le_refl _)))
theorem WO (f t:ByteArray) (hf:f.size≤1073741824) (ht:t.size≤1073741824):aW T Tryz.prog 113 [.c (.sc (.string f)), .c (.sc (.string t))] (.c (.sc (.bool (Pure.lF f t)))):=by
 obtain⟨k,h⟩:=(Pure.Ov f t hf ht)
 exact Hf Tryz.func113 (by kernel_rfl) rfl (fun w hT=>P.bI.calls _ f t _ w (h k (Nat.le_refl _)))
abbrev Hg (s:ByteArray):List ByteArray:=X.pieces s Pure.stroke
theorem Hl (s:ByteArray) (hs:s.size≤1073741824):aW T Tryz.prog 101 [.c (.sc (.string s))] (.c (.ow 9 (Hg s))):=
 abH Tryz.func101 (by kernel_rfl) rfl (fun w hT=>P.dB.calls s _ w hT (Pure.mW s hs))
theorem EK (s:ByteArray) (b:Bool) (hs:s.size≤1073741824):aW T Tryz.prog 146 [.c (.sc (.string s)), .c (.sc (.bool b))] (.c (.sc (.bool (Pure.jL (Pure.dl s) b)))):=
 Hf Tryz.func146 (by kernel_rfl) rfl (fun w hT=>P.jE.calls s b _ w (Pure.Ho s b hs))
theorem YL (s:ByteArray) (hs:s.size≤1073741824):Go.Proofs.YtcnfgfomholheaaGreatDoorW.PrintWords.Ev (fun k=>P.aG.f k s 47) ((Pure.dl s).contains 47):=by
 unfold P.aG.f
 exact Pure.MW s 47 hs s.size 0 (by omega)
theorem WQ (s:ByteArray) (hs:s.size≤1073741824):aW T Tryz.prog 176 [.c (.sc (.string s)), .c (.sc (.int .u8 47))] (.c (.sc (.bool ((Pure.dl s).contains 47)))):=by
 obtain⟨k,h⟩:=(YL s hs)
 exact Hf Tryz.func176 (by kernel_rfl) rfl (fun w hT=>(P.aG.calls _ s _ _ w (h k (Nat.le_refl _))).mono (fun e w' h=>⟨h.1,h.2.below⟩))
theorem QD (p:List ByteArray) (h:p.length≤1048576) (hs:(dF p).size≤1073741824):P.sW.f p=some (dF p):=by
 unfold P.sW.f X.strings_Join.f
 have e:dF p=⟨(Lib.join (p.map (fun x=>x.data.toList)) [47]).toArray⟩:=rfl
 have hs2:(Lib.join (p.map (fun x=>x.data.toList)) [47]).length≤1073741824:=by rw [e] at hs;simpa [ByteArray.size] using hs
 rw [if_pos ⟨by omega,Nat.le_trans hs2 (by decide)⟩]
 rfl
theorem Ox (p:List ByteArray) (hp:p.length≤1048576) (hs:(dF p).size≤1073741824):aW T Tryz.prog 189 [.c (.sl 9 p)] (.c (.sc (.string (dF p)))):=by
 refine⟨⟨_,Tryz.func189,(by kernel_rfl),rfl⟩,fun w vs S hj ha=>?_⟩
 obtain⟨v,r,rfl,hv,rfl⟩:=ha
 obtain⟨A,c,rfl,hc,hC⟩:=ac4 hv (Nat.le_trans hp (by decide))
 refine(P.sW.calls A c p _ w hC hc (QD p hp hs)).mono ?_
 rintro e w' ⟨rfl,hb⟩
 exact⟨.string (dF p),fun _ _=>False,rfl,hb,fun _ _ h=>h.elim,fun _ _ _ h=>h.elim,[.string (dF p)],rfl,[],rfl,rfl,rfl⟩
end Go.Proofs.YtcnfgfomholheaaGreatDoor.Q
end
section
namespace Go.Proofs.YtcnfgfomholheaaGreatDoor.Q
open Go.RowKit Go.Proofs.YtcnfgfomholheaaGreatDoor.Z Go.Proofs.YtcnfgfomholheaaGreatDoor.Pure
set_option linter.unusedVariables false
set_option linter.unusedSimpArgs false
set_option maxRecDepth 100000
set_option maxHeartbeats 4000000
abbrev zS:SS:=z44
abbrev zN:SN:=z31
abbrev abI (s:ByteArray):Slot T:= .c (.sc (.string s))
theorem yt (s:ByteArray):(s.toList==(⟨#[]⟩:ByteArray).toList)=(dl s).isEmpty:=by
 rw [show(⟨#[]⟩:ByteArray).toList=[] by simp [ByteArray.toList_eq]];exact abD s
theorem TQ (s:ByteArray) (hs:s.size≤1073741824):aW T Tryz.prog 127 [.c (.sc (.string s))] (.c (.sc (.bool (nameP s)))):=by
 refine bM hT Tryz.func127 (by kernel_rfl) rfl rfl (fun A=>?_)
 conv=>whnf
 refine aU.mk _ (TN s (Nat.le_trans hs (by decide))) ?_
 conv=>whnf
 refine Split.mk (fun c=>?_) (fun c=>?_)
 ·conv=>whnf
  exact aV.mk ⟨rfl,rfl⟩ ⟨rfl,rfl⟩ ⟨bv (by rw [yt];unfold nameP;rw [c];rfl),trivial⟩
 ·conv=>whnf
  exact aV.mk ⟨rfl,rfl⟩ ⟨rfl,rfl⟩ ⟨bv (by unfold nameP;rw [c];rfl),trivial⟩
theorem TR (a lo hi:Int):aW T Tryz.prog 161 [.c (.sc (.int .i64 a)), .c (.sc (.int .i64 lo)), .c (.sc (.int .i64 hi))] (.c (.sc (.bool (decide (lo≤a) && decide (a≤hi))))):=by
 refine bM hT Tryz.func161 (by kernel_rfl) rfl rfl (fun A=>?_)
 conv=>whnf
 refine Split.mk (fun c=>?_) (fun c=>?_)
 ·conv=>whnf
  exact aV.mk ⟨rfl,rfl⟩ ⟨rfl,rfl⟩ ⟨bv (by rw [show decide (lo≤a)=true from c];rfl),trivial⟩
 ·conv=>whnf
  exact aV.mk ⟨rfl,rfl⟩ ⟨rfl,rfl⟩ ⟨bv (by rw [show decide (lo≤a)=false from c];rfl),trivial⟩
theorem abJ (a lo hi:Int):aW T Tryz.prog 159 [.c (.sc (.int .i64 a)), .c (.sc (.int .i64 lo)), .c (.sc (.int .i64 hi))] (.c (.sc (.bool (decide (lo≤a) && decide (a≤hi))))):=by
 refine bM hT Tryz.func159 (by kernel_rfl) rfl rfl (fun A=>?_)
 conv=>whnf
 refine Split.mk (fun c=>?_) (fun c=>?_)
 ·conv=>whnf
  exact aV.mk ⟨rfl,rfl⟩ ⟨rfl,rfl⟩ ⟨bv (by rw [show decide (lo≤a)=true from c];rfl),trivial⟩
 ·conv=>whnf
  exact aV.mk ⟨rfl,rfl⟩ ⟨rfl,rfl⟩ ⟨bv (by rw [show decide (lo≤a)=false from c];rfl),trivial⟩
theorem WR (a:Int):aW T Tryz.prog 128 [.c (.sc (.int .i64 a))] (.c (.sc (.bool (decide (0≤a) && decide (a≤2))))):=by
 refine bM hT Tryz.func128 (by kernel_rfl) rfl rfl (fun A=>?_)
 conv=>whnf
 refine aU.mk _ (TR a 0 2) ?_
 conv=>whnf
 exact aV.mk ⟨rfl,rfl⟩ ⟨rfl,rfl⟩ ⟨rfl,trivial⟩
theorem WS (x:SS) (hs:x.f0.size≤1073741824):aW T Tryz.prog 111 [.ag (T.cells eS x)] (.c (.sc (.bool (lY x)))):=by
 refine bM hT Tryz.func111 (by kernel_rfl) rfl rfl (fun A=>?_)
 conv=>whnf
 refine aU.mk _ (TQ x.f0 hs) ?_
 conv=>whnf
 refine Split.mk (fun c=>?_) (fun c=>?_)
 ·conv=>whnf
  refine aU.mk _ (WR x.f1) ?_
  conv=>whnf
  refine Split.mk (fun d=>?_) (fun d=>?_)
  ·conv=>whnf
   exact aV.mk ⟨rfl,rfl⟩ ⟨rfl,rfl⟩ ⟨bv (by unfold lY;rw [c,d];rfl),trivial⟩
  ·conv=>whnf
   exact aV.mk ⟨rfl,rfl⟩ ⟨rfl,rfl⟩ ⟨bv (by unfold lY;rw [c,d];rfl),trivial⟩
 ·conv=>whnf
  refine Split.mk (fun d=>mX d) (fun d=>?_)
  conv=>whnf
  exact aV.mk ⟨rfl,rfl⟩ ⟨rfl,rfl⟩ ⟨bv (by unfold lY;rw [c];rfl),trivial⟩
theorem WT (x:SS):aW T Tryz.prog 109 [.ag (T.cells eS x)] (.c (.sc (.bool (lY x)))):=by
 refine bM hT Tryz.func109 (by kernel_rfl) rfl rfl (fun A=>?_)
 conv=>whnf
 refine aU.mk _ (TP x.f0) ?_
 conv=>whnf
 refine Split.mk (fun c=>?_) (fun c=>?_)
 ·conv=>whnf
  refine Split.mk (fun d=>?_) (fun d=>?_)
  ·conv=>whnf
   refine aU.mk _ (abJ x.f1 0 2) ?_
   conv=>whnf
   refine Split.mk (fun e=>?_) (fun e=>?_)
   ·conv=>whnf
    exact aV.mk ⟨rfl,rfl⟩ ⟨rfl,rfl⟩ ⟨bv (by rw [yt] at d;unfold lY nameP;rw [c,d,e];rfl),trivial⟩
   ·conv=>whnf
    exact aV.mk ⟨rfl,rfl⟩ ⟨rfl,rfl⟩ ⟨bv (by rw [yt] at d;unfold lY nameP;rw [c,d,e];rfl),trivial⟩
  ·conv=>whnf
   refine Split.mk (fun e=>mX e) (fun e=>?_)
   conv=>whnf
   exact aV.mk ⟨rfl,rfl⟩ ⟨rfl,rfl⟩ ⟨bv (by rw [yt] at d;unfold lY nameP;rw [c,d];rfl),trivial⟩
 ·conv=>whnf
  repeat (refine Split.mk (fun e=>mX e) (fun e=>?_);conv=>whnf)
  exact aV.mk ⟨rfl,rfl⟩ ⟨rfl,rfl⟩ ⟨bv (by unfold lY nameP;rw [c];rfl),trivial⟩
theorem WU (x:ByteArray) (hs:x.size≤1073741824):aW T Tryz.prog 192 [.c (.sc (.string x))] (.c (.sc (.bool (lD x)))):=by
 refine bM hT Tryz.func192 (by kernel_rfl) rfl rfl (fun A=>?_)
 conv=>whnf
 refine aU.mk _ (Bg x hs) ?_
 conv=>whnf
 refine Split.mk (fun c=>?_) (fun c=>?_)
 ·conv=>whnf
  refine aU.mk _ (WQ x hs) ?_
  conv=>whnf
  refine Split.mk (fun d=>?_) (fun d=>?_)
  ·conv=>whnf
   exact aV.mk ⟨rfl,rfl⟩ ⟨rfl,rfl⟩ ⟨bv (by unfold lD;rw [c,d];rfl),trivial⟩
  ·conv=>whnf
   exact aV.mk ⟨rfl,rfl⟩ ⟨rfl,rfl⟩ ⟨bv (by rw [yt];unfold lD;rw [c,d];rfl),trivial⟩
 ·conv=>whnf
  refine Split.mk (fun d=>mX d) (fun d=>?_)
  conv=>whnf
  exact aV.mk ⟨rfl,rfl⟩ ⟨rfl,rfl⟩ ⟨bv (by rw [yt];unfold lD;rw [c];rfl),trivial⟩
def jd (l:List ByteArray) (i:Nat):Option ByteArray:=if i=0 then none else l[i - 1]?
theorem xw {l:List ByteArray} {i:Nat} (h:i<l.length):jd l (i+1)=some (l.getD i ByteArray.empty):=by
 unfold jd;rw [if_neg (by omega)];simp [h]
def nm (l:List SS):List ByteArray:=l.map (fun s=>s.f0)
theorem Hq {l:List SS} {i:Nat} (h:i<l.length):wI (jd (nm l) i) (l.drop i)=(lY (l.getD i zS) && (nJ (jd (nm l) i) (l.getD i zS).f0 && wI (jd (nm l) (i+1)) (l.drop (i+1)))):=by
 have e:l.getD i zS=l[i]:=by simp [h]
 rw [List.drop_eq_getElem_cons h,wI,e,xw (by simpa [nm] using h)]
 simp [nm,h]
theorem KY {l:List SS} {p:Option ByteArray}:wI p (l.drop l.length)=true:=by rw [List.drop_length];cases p<;>rfl
theorem Hr {l:List ByteArray} {x:ByteArray}:nJ (jd l 0) x=true:=rfl
theorem Ru {l:List SS} {i:Nat} (h0:0<i) (h:i<l.length) {x:ByteArray}:nJ (jd (nm l) i) x=Op.bytesLess (l.getD (i - 1) zS).f0.toList x.toList:=by
 unfold jd
 rw [if_neg (by omega)]
 have h1:i - 1<l.length:=by omega
 simp [nm,h1,nJ]
theorem MX {i:Nat} (h0:0<i) (hi:i≤140737488351232):wrap64 ((i:Int) - 1)=((i - 1:Nat):Int):=by simp only [wrap64];omega
theorem nK {i:Nat} (c:decide ((i:Int)>0)=true):0<i:=by simp at c;omega
theorem nM {i:Nat} (c:decide ((i:Int)>0)=false):i=0:=by simp at c;omega
theorem TS (l:List SS) (hl:l.length≤2097152) (hs:∀x∈l,x.f0.size≤1073741824):aW T Tryz.prog 190 [.c (.sl eS l)] (.c (.sc (.bool (rZ l)))):=by
 refine bM hT Tryz.func190 (by kernel_rfl) rfl rfl (fun A=>?_)
 generalize hR:rZ l=R
 conv=>whnf
 refine iO.mk {i:Nat // i≤l.length∧wI (jd (nm l) i) (l.drop i)=R} (fun p=>(0,[(7,i64 p.1),(6,i64 l.length),(5,im eS l),(0,im eS l)],[])) (fun p=>l.length - p.1) ⟨0,Nat.zero_le _,hR⟩ (aI [] rfl rfl rfl ⟨⟨rfl,rfl⟩,⟨rfl,rfl⟩,⟨rfl,rfl⟩,⟨rfl,rfl⟩,trivial⟩ trivial) ?_
 rintro⟨i,hi,hR⟩
 conv=>whnf
 refine Split.mk (fun c=>?_) (fun c=>?_)
 ·have hk2:i<l.length:=jP c
  clear c
  rw [Hq hk2] at hR
  conv=>whnf
  refine Need.mk (idx hk2) ?_
  conv=>whnf
  refine aU.mk _ (WS _ (hs _ (getD_mem hk2))) ?_
  conv=>whnf
  refine Split.mk (fun c=>?_) (fun c=>?_)
  ·have c1:lY (l.getD i zS)=false:=dX c
   conv=>whnf
   refine dD.mk ⟨by kernel_rfl,by kernel_rfl⟩ ?_
   conv=>whnf
   refine Split.mk (fun _=>?_) (fun e=>kM e)
   conv=>whnf
   exact aV.mk ⟨rfl,rfl⟩ ⟨rfl,rfl⟩ ⟨bv (by rw [←hR,c1];rfl),trivial⟩
  ·have c1:lY (l.getD i zS)=true:=fH c
   rw [c1,Bool.true_and] at hR
   clear c
   conv=>whnf
   refine Split.mk (fun c=>?_) (fun c=>?_)
   ·have h0:0<i:=nK c
    rw [Ru h0 hk2] at hR
    have hpr:=MX h0 (by omega)
    have hpt:(wrap64 ((i:Int) - 1)).toNat=i - 1:=by rw [hpr];rfl
    clear c
    conv=>whnf
    refine Need.mk (by rw [hpr];exact idx (show i - 1<l.length by omega)) ?_
    conv=>whnf
    refine dD.mk ⟨by kernel_rfl,by kernel_rfl⟩ ?_
    conv=>whnf
    refine Split.mk (fun c=>?_) (fun c=>?_)
    ·have c2:Op.bytesLess (l.getD (i - 1) zS).f0.toList (l.getD i zS).f0.toList=false:=(congrArg (fun j=>Op.bytesLess (l.getD j zS).f0.toList (l.getD i zS).f0.toList) hpt.symm).trans (dX c)
     conv=>whnf
     exact aV.mk ⟨rfl,rfl⟩ ⟨rfl,rfl⟩ ⟨bv (by rw [←hR,c2];rfl),trivial⟩
    ·have c2:Op.bytesLess (l.getD (i - 1) zS).f0.toList (l.getD i zS).f0.toList=true:=(congrArg (fun j=>Op.bytesLess (l.getD j zS).f0.toList (l.getD i zS).f0.toList) hpt.symm).trans (fH c)
     rw [c2,Bool.true_and] at hR
     conv=>whnf
     exact dA.mk ⟨⟨i+1,hk2,hR⟩,Nat.sub_lt_sub_left hk2 (Nat.lt_succ_self i),aI [] rfl rfl rfl ⟨⟨rfl,congrArg i64 (iy hk2 (by omega))⟩,⟨rfl,rfl⟩,⟨rfl,rfl⟩,⟨rfl,rfl⟩,trivial⟩ trivial⟩
   ·have h0:i=0:=nM c
    subst h0
    rw [Hr,Bool.true_and] at hR
    clear c
    conv=>whnf
    refine dD.mk ⟨by kernel_rfl,by kernel_rfl⟩ ?_
    conv=>whnf
    refine Split.mk (fun e=>mX e) (fun _=>?_)
    conv=>whnf
    exact dA.mk ⟨⟨0+1,hk2,hR⟩,Nat.sub_lt_sub_left hk2 (Nat.lt_succ_self 0),aI [] rfl rfl rfl ⟨⟨rfl,congrArg i64 (iy hk2 (by omega))⟩,⟨rfl,rfl⟩,⟨rfl,rfl⟩,⟨rfl,rfl⟩,trivial⟩ trivial⟩
 ·have hk2:i=l.length:=Nat.le_antisymm hi (jQ c)
  subst hk2
  conv=>whnf
  exact aV.mk ⟨rfl,rfl⟩ ⟨rfl,rfl⟩ ⟨bv (hR.symm.trans KY),trivial⟩
end Go.Proofs.YtcnfgfomholheaaGreatDoor.Q
end
section
namespace Go.Proofs.YtcnfgfomholheaaGreatDoor.Q
open Go.RowKit Go.Proofs.YtcnfgfomholheaaGreatDoor.Z Go.Proofs.YtcnfgfomholheaaGreatDoor.Pure
set_option linter.unusedVariables false
set_option linter.unusedSimpArgs false
set_option maxRecDepth 100000
set_option maxHeartbeats 4000000
abbrev wL (n:SN):dL T:= .bx eN ((T.cells eN n).map (toCell none))
theorem xA {a:Nat} (c:((a:Int)==0)=true):a=0:=by simp at c;omega
theorem xB {a:Nat} (c:((a:Int)==0)=false):a≠0:=by simp at c;omega
section
variable {a b:Nat} {x:ByteArray} {r R q:Bool}
theorem fJ (h:q=true) (hR:(q && r)=R):r=R:=by rw [h,Bool.true_and] at hR;exact hR
theorem gJ (h:q=false) (hR:(q && r)=R):R=false:=by rw [h,Bool.false_and] at hR;exact hR.symm
theorem ZM {c:Bool} (h:a≠0) (hR:(!(decide (a=0) && c) && r)=R):r=R:=fJ (by simp [h]) hR
theorem ZN (h:a=0) (h2:b≠0) (hR:(!(decide (a=0) && decide (b=0)) && r)=R):r=R:=fJ (by simp [h,h2]) hR
theorem ZO (h:a=0) (h2:b=0) (hR:(!(decide (a=0) && decide (b=0)) && r)=R):R=false:=gJ (by simp [h,h2]) hR
theorem ha1 (h:kY x=true) (h2:a≠0) (hR:(!(kY x && !decide (a=0)) && r)=R):R=false:=gJ (by simp [h,h2]) hR
theorem ha2 (h2:a=0) (hR:(!(kY x && !decide (a=0)) && r)=R):r=R:=fJ (by simp [h2]) hR
theorem ZP (h:kY x=false) (hR:(!(kY x && !decide (a=0)) && r)=R):r=R:=fJ (by simp [h]) hR
end
theorem Ht {x:ByteArray} (c:(x.toList==(⟨#[35]⟩:ByteArray).toList)=true):kY x=true:=by
 rw [show(⟨#[35]⟩:ByteArray).toList=[35] by simp [ByteArray.toList_eq]] at c
 unfold kY;simpa using c
theorem Hu {x:ByteArray} (c:(x.toList==(⟨#[35]⟩:ByteArray).toList)=false):kY x=false:=by
 rw [show(⟨#[35]⟩:ByteArray).toList=[35] by simp [ByteArray.toList_eq]] at c
 unfold kY;simpa using c
theorem WV {l:List ByteArray} {i:Nat} (h0:0<i) (h:i<l.length) {x:ByteArray}:nJ (jd l i) x=Op.bytesLess (l.getD (i - 1) ByteArray.empty).toList x.toList:=by
 unfold jd
 rw [if_neg (by omega)]
 have h1:i - 1<l.length:=by omega
 simp [h1,nJ]
theorem WW {d i:Nat} {ns:List ByteArray} {ks:List SN} (h:i<ns.length) (h2:i<ks.length):lZ d (ns.drop i) (jd ns i) (ks.drop i)=(lD (ns.getD i ByteArray.empty) && (nJ (jd ns i) (ns.getD i ByteArray.empty) && (!(decide ((ks.getD i zN).f0.length=0) && decide ((ks.getD i zN).f2.length=0)) && (!(kY (ns.getD i ByteArray.empty) && !decide ((ks.getD i zN).f0.length=0)) && (okS (d+1) (ks.getD i zN) && lZ d (ns.drop (i+1)) (jd ns (i+1)) (ks.drop (i+1))))))):=by
 have e:ns.getD i ByteArray.empty=ns[i]:=by simp [h]
 have e2:ks.getD i zN=ks[i]:=by simp [h2]
 rw [List.drop_eq_getElem_cons h,List.drop_eq_getElem_cons h2,lZ,e,e2,xw h,e]
theorem YM {d:Nat} {ns:List ByteArray} {ks:List SN} {p:Option ByteArray}:lZ d (ns.drop ns.length) p ks=true:=by
 rw [List.drop_length];cases ks<;>rw [lZ]<;>(intro x1 x2 x3 x4 e;cases e)
theorem d1_ {d:Nat} (h:d≤1000):((d+1:Nat):Int)=wrap64 ((d:Int)+1):=by simp only [wrap64];omega
theorem WX (n:SN) (d:Nat) (hn:Bd n) (hd:d≤6) (ih:d<6→∀k∈n.f1,aW T Tryz.prog 144 [.ag (T.cells eN k), .c (.sc (.int .i64 ((d+1:Nat):Int)))] (.c (.sc (.bool (okS (d+1) k))))):aW T Tryz.prog 144 [.ag (T.cells eN n), .c (.sc (.int .i64 (d:Int)))] (.c (.sc (.bool (okS d n)))):=by
 refine qF hT Tryz.func144 (by kernel_rfl) rfl rfl (fun A=>?_)
 have hR:=He d n
 generalize okS d n=R at hR⊢
 refine Vc.seq 0 hT ?_
 conv=>whnf
 refine Vc.cut (α:=Unit) 2 (fun _=>n.f0.length=n.f1.length∧(n.f0.length=0∨d<6)) (fun _=>[(2, .c (.px 0 0)),(1,i64 d)]) (fun _=>[(0,wL n)]) hT ?_ (fun _ ⟨hl,h6⟩=>?_)
 ·conv=>whnf
  refine Split.mk (fun c=>?_) (fun c=>?_)
  ·have h1:¬n.f0.length=n.f1.length:=NY c
   rw [decide_eq_false h1,Bool.false_and] at hR
   conv=>whnf
   refine Split.mk (fun _=>?_) (fun e=>kM e)
   conv=>whnf
   exact aV.mk ⟨rfl,rfl⟩ ⟨rfl,rfl⟩ ⟨bv (hR),trivial⟩
  ·have h1:n.f0.length=n.f1.length:=NZ c
   clear c
   conv=>whnf
   refine Split.mk (fun c=>?_) (fun c=>?_)
   ·have h2:0<n.f0.length:=nK c
    clear c
    conv=>whnf
    refine Split.mk (fun c=>?_) (fun c=>?_)
    ·have h3:d=6:=by have:=ad1 c;omega
     rw [decide_eq_true h1,decide_eq_true h2,decide_eq_true h3] at hR
     conv=>whnf
     exact aV.mk ⟨rfl,rfl⟩ ⟨rfl,rfl⟩ ⟨bv (hR),trivial⟩
    ·have h3:¬d=6:=by have:=ad2 c;omega
     conv=>whnf
     exact nG.mk ⟨(),⟨h1, .inr (by omega)⟩,aI [(0,0)] rfl rfl rfl ⟨⟨rfl,rfl⟩,⟨rfl,rfl⟩,trivial⟩ ⟨⟨rfl,rfl⟩,trivial⟩⟩
   ·have h2:n.f0.length=0:=nM c
    clear c
    conv=>whnf
    refine Split.mk (fun e=>mX e) (fun _=>?_)
    conv=>whnf
    exact nG.mk ⟨(),⟨h1, .inl h2⟩,aI [(0,0)] rfl rfl rfl ⟨⟨rfl,rfl⟩,⟨rfl,rfl⟩,trivial⟩ ⟨⟨rfl,rfl⟩,trivial⟩⟩
 refine Vc.of 1 hT ?_
 conv=>whnf
 have hb:(!(decide (0<n.f0.length) && decide (d=6)))=true:=by
  rcases h6 with h | h
  ·rw [decide_eq_false (by omega)];rfl
  ·rw [decide_eq_false (p:=d=6) (by omega),Bool.and_false];rfl
 rw [decide_eq_true hl,Bool.true_and,hb,Bool.true_and] at hR
 replace hR:=hR.symm
 clear hb
 conv=>whnf
 refine iO.mk {i:Nat // i≤n.f2.length∧(wI (jd (nm n.f2) i) (n.f2.drop i) && lZ d n.f0 none n.f1)=R} (fun p=>(1,[(5,i64 p.1),(2, .c (.px 0 0)),(1,i64 d)],[(0,wL n)])) (fun p=>n.f2.length - p.1) ⟨0,Nat.zero_le _,hR⟩ (aI [(0,0)] rfl rfl rfl ⟨⟨rfl,rfl⟩,⟨rfl,rfl⟩,⟨rfl,rfl⟩,trivial⟩ ⟨⟨rfl,rfl⟩,trivial⟩) ?_
 clear hR
 rintro⟨i,hi,hR⟩
 conv=>whnf
 refine Split.mk (fun c=>?_) (fun c=>?_)
 ·have hk2:i<n.f2.length:=jP c
  clear c
  rw [Hq hk2,Bool.and_assoc,Bool.and_assoc] at hR
  conv=>whnf
  refine Need.mk (idx hk2) ?_
  conv=>whnf
  refine aU.mk _ (WT _) ?_
  conv=>whnf
  refine Split.mk (fun c=>?_) (fun c=>?_)
  ·have c1:lY (n.f2.getD i zS)=false:=dX c
   clear c
   conv=>whnf
   refine dD.mk ⟨by kernel_rfl,by kernel_rfl⟩ ?_
   conv=>whnf
   refine Split.mk (fun _=>?_) (fun e=>kM e)
   conv=>whnf
   exact aV.mk ⟨rfl,rfl⟩ ⟨rfl,rfl⟩ ⟨bv (gJ c1 hR),trivial⟩
  ·have c1:lY (n.f2.getD i zS)=true:=fH c
   clear c
   replace hR:=fJ c1 hR
   conv=>whnf
   refine Split.mk (fun c=>?_) (fun c=>?_)
   ·have h0:0<i:=nK c
    clear c
    have hl2:=hn.l2
    rw [Ru h0 hk2] at hR
    have hpr:=MX h0 (by omega)
    have hpt:(wrap64 ((i:Int) - 1)).toNat=i - 1:=by rw [hpr];rfl
    conv=>whnf
    refine Need.mk (by rw [hpr];exact idx (show i - 1<n.f2.length by omega)) ?_
    conv=>whnf
    refine Need.mk (idx hk2) ?_
    conv=>whnf
    refine dD.mk ⟨by kernel_rfl,by kernel_rfl⟩ ?_
    conv=>whnf
    refine Split.mk (fun c=>?_) (fun c=>?_)
    ·have c2:Op.bytesLess (n.f2.getD (i - 1) zS).f0.toList (n.f2.getD i zS).f0.toList=false:=(congrArg (fun j=>Op.bytesLess (n.f2.getD j zS).f0.toList (n.f2.getD i zS).f0.toList) hpt.symm).trans (dX c)
     conv=>whnf
     exact aV.mk ⟨rfl,rfl⟩ ⟨rfl,rfl⟩ ⟨bv (gJ c2 hR),trivial⟩
    ·have c2:Op.bytesLess (n.f2.getD (i - 1) zS).f0.toList (n.f2.getD i zS).f0.toList=true:=(congrArg (fun j=>Op.bytesLess (n.f2.getD j zS).f0.toList (n.f2.getD i zS).f0.toList) hpt.symm).trans (fH c)
     replace hR:=fJ c2 hR
     conv=>whnf
     exact dA.mk ⟨⟨i+1,hk2,hR⟩,Nat.sub_lt_sub_left hk2 (Nat.lt_succ_self i),aI [(0,0)] rfl rfl rfl ⟨⟨rfl,congrArg i64 (iy hk2 (Nat.le_trans hn.l2 (by decide)))⟩,⟨rfl,rfl⟩,⟨rfl,rfl⟩,trivial⟩ ⟨⟨rfl,rfl⟩,trivial⟩⟩
   ·have h0:i=0:=nM c
    clear c
    subst h0
    rw [Hr,Bool.true_and] at hR
    conv=>whnf
    refine dD.mk ⟨by kernel_rfl,by kernel_rfl⟩ ?_
    conv=>whnf
    refine Split.mk (fun e=>mX e) (fun _=>?_)
    conv=>whnf
    exact dA.mk ⟨⟨0+1,hk2,hR⟩,Nat.sub_lt_sub_left hk2 (Nat.lt_succ_self 0),aI [(0,0)] rfl rfl rfl ⟨⟨rfl,congrArg i64 (iy hk2 (Nat.le_trans hn.l2 (by decide)))⟩,⟨rfl,rfl⟩,⟨rfl,rfl⟩,trivial⟩ ⟨⟨rfl,rfl⟩,trivial⟩⟩
 ·have hk2:i=n.f2.length:=Nat.le_antisymm hi (jQ c)
  subst hk2
  rw [KY,Bool.true_and] at hR
  clear c
  conv=>whnf
  refine iO.mk {i:Nat // i≤n.f0.length∧lZ d (n.f0.drop i) (jd n.f0 i) (n.f1.drop i)=R} (fun p=>(1,[(6,i64 p.1),(2, .c (.px 0 0)),(1,i64 d)],[(0,wL n)])) (fun p=>n.f0.length - p.1) ⟨0,Nat.zero_le _,hR⟩ (aI [(0,0)] rfl rfl rfl ⟨⟨rfl,rfl⟩,⟨rfl,rfl⟩,⟨rfl,rfl⟩,trivial⟩ ⟨⟨rfl,rfl⟩,trivial⟩) ?_
  clear hR
  rintro⟨i,hi,hR⟩
  conv=>whnf
  refine Split.mk (fun c=>?_) (fun c=>?_)
  ·have hk2:i<n.f0.length:=jP c
   clear c
   have hk3:i<n.f1.length:=hl▸hk2
   have hd6:d<6:=by omega
   have ihk:=ih hd6 _ (getD_mem (d:=zN) hk3)
   rw [d1_ (by omega)] at ihk
   rw [WW hk2 hk3] at hR
   have hx:=hn.z0 _ (getD_mem (d:=ByteArray.empty) hk2)
   conv=>whnf
   refine Need.mk (idx hk3) ?_
   conv=>whnf
   refine Need.mk (idx hk2) ?_
   conv=>whnf
   refine aU.mk _ (WU _ (Nat.le_trans hx (by decide))) ?_
   conv=>whnf
   refine Split.mk (fun c=>?_) (fun c=>?_)
   ·have c1:lD (n.f0.getD i ByteArray.empty)=false:=dX c
    clear c
    conv=>whnf
    refine Split.mk (fun _=>?_) (fun e=>kM e)
    conv=>whnf
    refine Split.mk (fun _=>?_) (fun e=>kM e)
    conv=>whnf
    refine Split.mk (fun _=>?_) (fun e=>kM e)
    conv=>whnf
    refine dD.mk ⟨by kernel_rfl,by kernel_rfl⟩ ?_
    conv=>whnf
    refine Split.mk (fun _=>?_) (fun e=>kM e)
    conv=>whnf
    exact aV.mk ⟨rfl,rfl⟩ ⟨rfl,rfl⟩ ⟨bv (gJ c1 hR),trivial⟩
   ·have c1:lD (n.f0.getD i ByteArray.empty)=true:=fH c
    clear c
    replace hR:=fJ c1 hR
    conv=>whnf
    refine Split.mk (fun c=>?_) (fun c=>?_)
    ·have h0:0<i:=nK c
     clear c
     have hl0:=hn.l0
     rw [WV h0 hk2] at hR
     have hpr:=MX h0 (by omega)
     have hpt:(wrap64 ((i:Int) - 1)).toNat=i - 1:=by rw [hpr];rfl
     conv=>whnf
     refine Need.mk (by rw [hpr];exact idx (show i - 1<n.f0.length by omega)) ?_
     conv=>whnf
     refine Need.mk (idx hk2) ?_
     conv=>whnf
     refine Split.mk (fun c=>?_) (fun c=>?_)
     ·have c2:Op.bytesLess (n.f0.getD (i - 1) ByteArray.empty).toList (n.f0.getD i ByteArray.empty).toList=false:=(congrArg (fun j=>Op.bytesLess (n.f0.getD j ByteArray.empty).toList (n.f0.getD i ByteArray.empty).toList) hpt.symm).trans (dX c)
      clear c
      conv=>whnf
      refine Split.mk (fun _=>?_) (fun e=>kM e)
      conv=>whnf
      refine Split.mk (fun _=>?_) (fun e=>kM e)
      conv=>whnf
      refine dD.mk ⟨by kernel_rfl,by kernel_rfl⟩ ?_
      conv=>whnf
      refine Split.mk (fun _=>?_) (fun e=>kM e)
      conv=>whnf
      exact aV.mk ⟨rfl,rfl⟩ ⟨rfl,rfl⟩ ⟨bv (gJ c2 hR),trivial⟩
     ·have c2:Op.bytesLess (n.f0.getD (i - 1) ByteArray.empty).toList (n.f0.getD i ByteArray.empty).toList=true:=(congrArg (fun j=>Op.bytesLess (n.f0.getD j ByteArray.empty).toList (n.f0.getD i ByteArray.empty).toList) hpt.symm).trans (fH c)
      clear c
      replace hR:=fJ c2 hR
      conv=>whnf
      refine Split.mk (fun c=>?_) (fun c=>?_)
      ·have c3:(n.f1.getD i zN).f0.length=0:=xA c
       clear c
       conv=>whnf
       refine Split.mk (fun c=>?_) (fun c=>?_)
       ·have c5:(n.f1.getD i zN).f2.length=0:=xA c
        clear c
        conv=>whnf
        refine Split.mk (fun _=>?_) (fun e=>kM e)
        conv=>whnf
        refine dD.mk ⟨by kernel_rfl,by kernel_rfl⟩ ?_
        conv=>whnf
        refine Split.mk (fun _=>?_) (fun e=>kM e)
        conv=>whnf
        exact aV.mk ⟨rfl,rfl⟩ ⟨rfl,rfl⟩ ⟨bv (ZO c3 c5 hR),trivial⟩
       ·have c5:(n.f1.getD i zN).f2.length≠0:=xB c
        clear c
        replace hR:=ZN c3 c5 hR
        conv=>whnf
        refine Need.mk (idx hk2) ?_
        conv=>whnf
        refine Split.mk (fun c=>?_) (fun c=>?_)
        ·have c3:=Ht c
         clear c
         conv=>whnf
         refine Split.mk (fun c=>?_) (fun c=>?_)
         ·have c5:(n.f1.getD i zN).f0.length≠0:=Nat.ne_of_gt (nK c)
          clear c
          conv=>whnf
          refine dD.mk ⟨by kernel_rfl,by kernel_rfl⟩ ?_
          conv=>whnf
          refine Split.mk (fun _=>?_) (fun e=>kM e)
          conv=>whnf
          exact aV.mk ⟨rfl,rfl⟩ ⟨rfl,rfl⟩ ⟨bv (ha1 c3 c5 hR),trivial⟩
         ·have c5:(n.f1.getD i zN).f0.length=0:=nM c
          clear c
          replace hR:=ha2 c5 hR
          conv=>whnf
          refine aU.mk _ ihk ?_
          conv=>whnf
          refine dD.mk ⟨by kernel_rfl,by kernel_rfl⟩ ?_
          conv=>whnf
          refine Split.mk (fun c=>?_) (fun c=>?_)
          ·have c4:okS (d+1) (n.f1.getD i zN)=false:=dX c
           conv=>whnf
           exact aV.mk ⟨rfl,rfl⟩ ⟨rfl,rfl⟩ ⟨bv (gJ c4 hR),trivial⟩
          ·have c4:okS (d+1) (n.f1.getD i zN)=true:=fH c
           replace hR:=fJ c4 hR
           conv=>whnf
           exact dA.mk ⟨⟨i+1,hk2,hR⟩,Nat.sub_lt_sub_left hk2 (Nat.lt_succ_self i),aI [(0,0)] rfl rfl rfl ⟨⟨rfl,congrArg i64 (iy hk2 (Nat.le_trans hn.l0 (by decide)))⟩,⟨rfl,rfl⟩,⟨rfl,rfl⟩,trivial⟩ ⟨⟨rfl,rfl⟩,trivial⟩⟩
        ·have c3:=Hu c
         clear c
         replace hR:=ZP c3 hR
         conv=>whnf
         refine Split.mk (fun e=>mX e) (fun _=>?_)
         conv=>whnf
         refine aU.mk _ ihk ?_
         conv=>whnf
         refine dD.mk ⟨by kernel_rfl,by kernel_rfl⟩ ?_
         conv=>whnf
         refine Split.mk (fun c=>?_) (fun c=>?_)
         ·have c4:okS (d+1) (n.f1.getD i zN)=false:=dX c
          conv=>whnf
          exact aV.mk ⟨rfl,rfl⟩ ⟨rfl,rfl⟩ ⟨bv (gJ c4 hR),trivial⟩
         ·have c4:okS (d+1) (n.f1.getD i zN)=true:=fH c
          replace hR:=fJ c4 hR
          conv=>whnf
          exact dA.mk ⟨⟨i+1,hk2,hR⟩,Nat.sub_lt_sub_left hk2 (Nat.lt_succ_self i),aI [(0,0)] rfl rfl rfl ⟨⟨rfl,congrArg i64 (iy hk2 (Nat.le_trans hn.l0 (by decide)))⟩,⟨rfl,rfl⟩,⟨rfl,rfl⟩,trivial⟩ ⟨⟨rfl,rfl⟩,trivial⟩⟩
      ·have c3:(n.f1.getD i zN).f0.length≠0:=xB c
       clear c
       replace hR:=ZM c3 hR
       conv=>whnf
       refine Split.mk (fun e=>mX e) (fun _=>?_)
       conv=>whnf
       refine Need.mk (idx hk2) ?_
       conv=>whnf
       refine Split.mk (fun c=>?_) (fun c=>?_)
       ·have c3:=Ht c
        clear c
        conv=>whnf
        refine Split.mk (fun c=>?_) (fun c=>?_)
        ·have c5:(n.f1.getD i zN).f0.length≠0:=Nat.ne_of_gt (nK c)
         clear c
         conv=>whnf
         refine dD.mk ⟨by kernel_rfl,by kernel_rfl⟩ ?_
         conv=>whnf
         refine Split.mk (fun _=>?_) (fun e=>kM e)
         conv=>whnf
         exact aV.mk ⟨rfl,rfl⟩ ⟨rfl,rfl⟩ ⟨bv (ha1 c3 c5 hR),trivial⟩
        ·have c5:(n.f1.getD i zN).f0.length=0:=nM c
         clear c
         replace hR:=ha2 c5 hR
         conv=>whnf
         refine aU.mk _ ihk ?_
         conv=>whnf
         refine dD.mk ⟨by kernel_rfl,by kernel_rfl⟩ ?_
         conv=>whnf
         refine Split.mk (fun c=>?_) (fun c=>?_)
         ·have c4:okS (d+1) (n.f1.getD i zN)=false:=dX c
          conv=>whnf
          exact aV.mk ⟨rfl,rfl⟩ ⟨rfl,rfl⟩ ⟨bv (gJ c4 hR),trivial⟩
         ·have c4:okS (d+1) (n.f1.getD i zN)=true:=fH c
          replace hR:=fJ c4 hR
          conv=>whnf
          exact dA.mk ⟨⟨i+1,hk2,hR⟩,Nat.sub_lt_sub_left hk2 (Nat.lt_succ_self i),aI [(0,0)] rfl rfl rfl ⟨⟨rfl,congrArg i64 (iy hk2 (Nat.le_trans hn.l0 (by decide)))⟩,⟨rfl,rfl⟩,⟨rfl,rfl⟩,trivial⟩ ⟨⟨rfl,rfl⟩,trivial⟩⟩
       ·have c3:=Hu c
        clear c
        replace hR:=ZP c3 hR
        conv=>whnf
        refine Split.mk (fun e=>mX e) (fun _=>?_)
        conv=>whnf
        refine aU.mk _ ihk ?_
        conv=>whnf
        refine dD.mk ⟨by kernel_rfl,by kernel_rfl⟩ ?_
        conv=>whnf
        refine Split.mk (fun c=>?_) (fun c=>?_)
        ·have c4:okS (d+1) (n.f1.getD i zN)=false:=dX c
         conv=>whnf
         exact aV.mk ⟨rfl,rfl⟩ ⟨rfl,rfl⟩ ⟨bv (gJ c4 hR),trivial⟩
        ·have c4:okS (d+1) (n.f1.getD i zN)=true:=fH c
         replace hR:=fJ c4 hR
         conv=>whnf
         exact dA.mk ⟨⟨i+1,hk2,hR⟩,Nat.sub_lt_sub_left hk2 (Nat.lt_succ_self i),aI [(0,0)] rfl rfl rfl ⟨⟨rfl,congrArg i64 (iy hk2 (Nat.le_trans hn.l0 (by decide)))⟩,⟨rfl,rfl⟩,⟨rfl,rfl⟩,trivial⟩ ⟨⟨rfl,rfl⟩,trivial⟩⟩
    ·have h0:i=0:=nM c
     clear c
     subst h0
     rw [Hr,Bool.true_and] at hR
     conv=>whnf
     refine Split.mk (fun e=>mX e) (fun _=>?_)
     conv=>whnf
     refine Split.mk (fun c=>?_) (fun c=>?_)
     ·have c3:(n.f1.getD 0 zN).f0.length=0:=xA c
      clear c
      conv=>whnf
      refine Split.mk (fun c=>?_) (fun c=>?_)
      ·have c5:(n.f1.getD 0 zN).f2.length=0:=xA c
       clear c
       conv=>whnf
       refine Split.mk (fun _=>?_) (fun e=>kM e)
       conv=>whnf
       refine dD.mk ⟨by kernel_rfl,by kernel_rfl⟩ ?_
       conv=>whnf
       refine Split.mk (fun _=>?_) (fun e=>kM e)
       conv=>whnf
       exact aV.mk ⟨rfl,rfl⟩ ⟨rfl,rfl⟩ ⟨bv (ZO c3 c5 hR),trivial⟩
      ·have c5:(n.f1.getD 0 zN).f2.length≠0:=xB c
       clear c
       replace hR:=ZN c3 c5 hR
       conv=>whnf
       refine Need.mk (idx hk2) ?_
       conv=>whnf
       refine Split.mk (fun c=>?_) (fun c=>?_)
       ·have c3:=Ht c
        clear c
        conv=>whnf
        refine Split.mk (fun c=>?_) (fun c=>?_)
        ·have c5:(n.f1.getD 0 zN).f0.length≠0:=Nat.ne_of_gt (nK c)
         clear c
         conv=>whnf
         refine dD.mk ⟨by kernel_rfl,by kernel_rfl⟩ ?_
         conv=>whnf
         refine Split.mk (fun _=>?_) (fun e=>kM e)
         conv=>whnf
         exact aV.mk ⟨rfl,rfl⟩ ⟨rfl,rfl⟩ ⟨bv (ha1 c3 c5 hR),trivial⟩
        ·have c5:(n.f1.getD 0 zN).f0.length=0:=nM c
         clear c
         replace hR:=ha2 c5 hR
         conv=>whnf
         refine aU.mk _ ihk ?_
         conv=>whnf
         refine dD.mk ⟨by kernel_rfl,by kernel_rfl⟩ ?_
         conv=>whnf
         refine Split.mk (fun c=>?_) (fun c=>?_)
         ·have c4:okS (d+1) (n.f1.getD 0 zN)=false:=dX c
          conv=>whnf
          exact aV.mk ⟨rfl,rfl⟩ ⟨rfl,rfl⟩ ⟨bv (gJ c4 hR),trivial⟩
         ·have c4:okS (d+1) (n.f1.getD 0 zN)=true:=fH c
          replace hR:=fJ c4 hR
          conv=>whnf
          exact dA.mk ⟨⟨0+1,hk2,hR⟩,Nat.sub_lt_sub_left hk2 (Nat.lt_succ_self 0),aI [(0,0)] rfl rfl rfl ⟨⟨rfl,congrArg i64 (iy hk2 (Nat.le_trans hn.l0 (by decide)))⟩,⟨rfl,rfl⟩,⟨rfl,rfl⟩,trivial⟩ ⟨⟨rfl,rfl⟩,trivial⟩⟩
       ·have c3:=Hu c
        clear c
        replace hR:=ZP c3 hR
        conv=>whnf
        refine Split.mk (fun e=>mX e) (fun _=>?_)
        conv=>whnf
        refine aU.mk _ ihk ?_
        conv=>whnf
        refine dD.mk ⟨by kernel_rfl,by kernel_rfl⟩ ?_
        conv=>whnf
        refine Split.mk (fun c=>?_) (fun c=>?_)
        ·have c4:okS (d+1) (n.f1.getD 0 zN)=false:=dX c
         conv=>whnf
         exact aV.mk ⟨rfl,rfl⟩ ⟨rfl,rfl⟩ ⟨bv (gJ c4 hR),trivial⟩
        ·have c4:okS (d+1) (n.f1.getD 0 zN)=true:=fH c
         replace hR:=fJ c4 hR
         conv=>whnf
         exact dA.mk ⟨⟨0+1,hk2,hR⟩,Nat.sub_lt_sub_left hk2 (Nat.lt_succ_self 0),aI [(0,0)] rfl rfl rfl ⟨⟨rfl,congrArg i64 (iy hk2 (Nat.le_trans hn.l0 (by decide)))⟩,⟨rfl,rfl⟩,⟨rfl,rfl⟩,trivial⟩ ⟨⟨rfl,rfl⟩,trivial⟩⟩
     ·have c3:(n.f1.getD 0 zN).f0.length≠0:=xB c
      clear c
      replace hR:=ZM c3 hR
      conv=>whnf
      refine Split.mk (fun e=>mX e) (fun _=>?_)
      conv=>whnf
      refine Need.mk (idx hk2) ?_
      conv=>whnf
      refine Split.mk (fun c=>?_) (fun c=>?_)
      ·have c3:=Ht c
       clear c
       conv=>whnf
       refine Split.mk (fun c=>?_) (fun c=>?_)
       ·have c5:(n.f1.getD 0 zN).f0.length≠0:=Nat.ne_of_gt (nK c)
        clear c
        conv=>whnf
        refine dD.mk ⟨by kernel_rfl,by kernel_rfl⟩ ?_
        conv=>whnf
        refine Split.mk (fun _=>?_) (fun e=>kM e)
        conv=>whnf
        exact aV.mk ⟨rfl,rfl⟩ ⟨rfl,rfl⟩ ⟨bv (ha1 c3 c5 hR),trivial⟩
       ·have c5:(n.f1.getD 0 zN).f0.length=0:=nM c
        clear c
        replace hR:=ha2 c5 hR
        conv=>whnf
        refine aU.mk _ ihk ?_
        conv=>whnf
        refine dD.mk ⟨by kernel_rfl,by kernel_rfl⟩ ?_
        conv=>whnf
        refine Split.mk (fun c=>?_) (fun c=>?_)
        ·have c4:okS (d+1) (n.f1.getD 0 zN)=false:=dX c
         conv=>whnf
         exact aV.mk ⟨rfl,rfl⟩ ⟨rfl,rfl⟩ ⟨bv (gJ c4 hR),trivial⟩
        ·have c4:okS (d+1) (n.f1.getD 0 zN)=true:=fH c
         replace hR:=fJ c4 hR
         conv=>whnf
         exact dA.mk ⟨⟨0+1,hk2,hR⟩,Nat.sub_lt_sub_left hk2 (Nat.lt_succ_self 0),aI [(0,0)] rfl rfl rfl ⟨⟨rfl,congrArg i64 (iy hk2 (Nat.le_trans hn.l0 (by decide)))⟩,⟨rfl,rfl⟩,⟨rfl,rfl⟩,trivial⟩ ⟨⟨rfl,rfl⟩,trivial⟩⟩
      ·have c3:=Hu c
       clear c
       replace hR:=ZP c3 hR
       conv=>whnf
       refine Split.mk (fun e=>mX e) (fun _=>?_)
       conv=>whnf
       refine aU.mk _ ihk ?_
       conv=>whnf
       refine dD.mk ⟨by kernel_rfl,by kernel_rfl⟩ ?_
       conv=>whnf
       refine Split.mk (fun c=>?_) (fun c=>?_)
       ·have c4:okS (d+1) (n.f1.getD 0 zN)=false:=dX c
        conv=>whnf
        exact aV.mk ⟨rfl,rfl⟩ ⟨rfl,rfl⟩ ⟨bv (gJ c4 hR),trivial⟩
       ·have c4:okS (d+1) (n.f1.getD 0 zN)=true:=fH c
        replace hR:=fJ c4 hR
        conv=>whnf
        exact dA.mk ⟨⟨0+1,hk2,hR⟩,Nat.sub_lt_sub_left hk2 (Nat.lt_succ_self 0),aI [(0,0)] rfl rfl rfl ⟨⟨rfl,congrArg i64 (iy hk2 (Nat.le_trans hn.l0 (by decide)))⟩,⟨rfl,rfl⟩,⟨rfl,rfl⟩,trivial⟩ ⟨⟨rfl,rfl⟩,trivial⟩⟩
  ·have hk2:i=n.f0.length:=Nat.le_antisymm hi (jQ c)
   subst hk2
   conv=>whnf
   exact aV.mk ⟨rfl,rfl⟩ ⟨rfl,rfl⟩ ⟨bv (hR.symm.trans YM),trivial⟩
theorem WY:∀(n:SN),Bd n→∀d:Nat,d≤6→aW T Tryz.prog 144 [.ag (T.cells eN n), .c (.sc (.int .i64 (d:Int)))] (.c (.sc (.bool (okS d n)))):=fun n hn d hd=>
 WX n d hn hd (fun h k hk=>WY k (hn.kid k hk) (d+1) h)
termination_by n=>SizeOf.sizeOf n
decreasing_by exact oN hk
end Go.Proofs.YtcnfgfomholheaaGreatDoor.Q
end
section
namespace Go.Proofs.YtcnfgfomholheaaGreatDoor.Q
open Go.RowKit Go.Proofs.YtcnfgfomholheaaGreatDoor.Z Go.Proofs.YtcnfgfomholheaaGreatDoor.Pure
set_option linter.unusedVariables false
set_option linter.unusedSimpArgs false
set_option maxRecDepth 100000
set_option maxHeartbeats 4000000
theorem WZ {d i:Nat} {a:ByteArray} {ns:List ByteArray} {ks:List SN} (h:i<ns.length) (h2:i<ks.length):pJ d a (ns.drop i) (ks.drop i)=(yj (d+1) (if 0<d then (a++(⟨#[47]⟩:ByteArray))++ns.getD i ByteArray.empty else ns.getD i ByteArray.empty) (ks.getD i zN) && pJ d a (ns.drop (i+1)) (ks.drop (i+1))):=by
 have e:ns.getD i ByteArray.empty=ns[i]:=by simp [h]
 have e2:ks.getD i zN=ks[i]:=by simp [h2]
 rw [List.drop_eq_getElem_cons h,List.drop_eq_getElem_cons h2,pJ,e,e2]
theorem YN {d:Nat} {a:ByteArray} {ns:List ByteArray} {ks:List SN}:pJ d a (ns.drop ns.length) ks=true:=by
 rw [List.drop_length];cases ks<;>rw [pJ]<;>(intro x1 x2 x3 x4 e;cases e)
theorem abK {d i:Nat} {n:SN} (h:okS d n=true) (hi:i<n.f1.length):okS (d+1) (n.f1.getD i zN)=true:=by
 obtain⟨e1,e2,e3,e4⟩:=sU h
 exact Om d n.f0 none n.f1 e1 e4 _ (getD_mem hi)
theorem Oy (n:SN) (d:Nat) (a:ByteArray) (hn:Bd n) (hd:d≤6) (ha:a.size≤d*1048577) (hok:okS d n=true) (ih:∀k∈n.f1,okS (d+1) k=true→d<6→∀b:ByteArray,b.size≤(d+1)*1048577→aW T Tryz.prog 145 [.ag (T.cells eN k), .c (.sc (.string b)), .c (.sc (.int .i64 ((d+1:Nat):Int)))] (.c (.sc (.bool (yj (d+1) b k))))):aW T Tryz.prog 145 [.ag (T.cells eN n), .c (.sc (.string a)), .c (.sc (.int .i64 (d:Int)))] (.c (.sc (.bool (yj d a n)))):=by
 refine qF hT Tryz.func145 (by kernel_rfl) rfl rfl (fun A=>?_)
 have hR:=WE d a n
 generalize yj d a n=R at hR⊢
 replace hR:=hR.symm
 obtain⟨hl,h6,_,_⟩:=sU hok
 refine Vc.seq 0 hT ?_
 conv=>whnf
 refine Vc.cut (α:=Unit) 2 (fun _=>pJ d a n.f0 n.f1=R) (fun _=>[(3, .c (.px 0 0)),(1,abI a),(2,i64 d)]) (fun _=>[(0,wL n)]) hT ?_ (fun _ hR=>?_)
 ·conv=>whnf
  refine Split.mk (fun c=>?_) (fun c=>?_)
  ·have h1:0<d:=nK c
   clear c
   rw [decide_eq_true h1,Bool.true_and] at hR
   conv=>whnf
   refine Split.mk (fun c=>?_) (fun c=>?_)
   ·have h2:0<n.f2.length:=nK c
    clear c
    rw [decide_eq_true h2,Bool.true_and,Bool.not_not] at hR
    conv=>whnf
    refine aU.mk _ (Bg a (by omega)) ?_
    conv=>whnf
    refine Split.mk (fun c=>?_) (fun c=>?_)
    ·have c1:eu a=false:=dX c
     clear c
     conv=>whnf
     exact aV.mk ⟨rfl,rfl⟩ ⟨rfl,rfl⟩ ⟨bv (gJ c1 hR),trivial⟩
    ·have c1:eu a=true:=fH c
     clear c
     conv=>whnf
     exact nG.mk ⟨(),fJ c1 hR,aI [(0,0)] rfl rfl rfl ⟨⟨rfl,rfl⟩,⟨rfl,rfl⟩,⟨rfl,rfl⟩,trivial⟩ ⟨⟨rfl,rfl⟩,trivial⟩⟩
   ·have h2:n.f2.length=0:=nM c
    clear c
    have hR:=fJ (by rw [decide_eq_false (by omega)];rfl) hR
    conv=>whnf
    refine Split.mk (fun e=>mX e) (fun _=>?_)
    conv=>whnf
    exact nG.mk ⟨(),hR,aI [(0,0)] rfl rfl rfl ⟨⟨rfl,rfl⟩,⟨rfl,rfl⟩,⟨rfl,rfl⟩,trivial⟩ ⟨⟨rfl,rfl⟩,trivial⟩⟩
  ·have h1:d=0:=nM c
   clear c
   have hR:=fJ (by rw [decide_eq_false (by omega)];rfl) hR
   conv=>whnf
   refine Split.mk (fun e=>mX e) (fun _=>?_)
   conv=>whnf
   refine Split.mk (fun e=>mX e) (fun _=>?_)
   conv=>whnf
   exact nG.mk ⟨(),hR,aI [(0,0)] rfl rfl rfl ⟨⟨rfl,rfl⟩,⟨rfl,rfl⟩,⟨rfl,rfl⟩,trivial⟩ ⟨⟨rfl,rfl⟩,trivial⟩⟩
 refine Vc.of 1 hT ?_
 conv=>whnf
 refine iO.mk {i:Nat // i≤n.f0.length∧pJ d a (n.f0.drop i) (n.f1.drop i)=R} (fun p=>(1,[(7,i64 p.1),(3, .c (.px 0 0)),(1,abI a),(2,i64 d)],[(0,wL n)])) (fun p=>n.f0.length - p.1) ⟨0,Nat.zero_le _,hR⟩ (aI [(0,0)] rfl rfl rfl ⟨⟨rfl,rfl⟩,⟨rfl,rfl⟩,⟨rfl,rfl⟩,⟨rfl,rfl⟩,trivial⟩ ⟨⟨rfl,rfl⟩,trivial⟩) ?_
 rename_i hR0
 clear hR hR0
 rintro⟨i,hi,hR⟩
 conv=>whnf
 refine Split.mk (fun c=>?_) (fun c=>?_)
 ·have hk2:i<n.f0.length:=jP c
  clear c
  have hk3:i<n.f1.length:=hl▸hk2
  have hd6:d<6:=by have:=h6 (by omega);omega
  have hx:=hn.z0 _ (getD_mem (d:=ByteArray.empty) hk2)
  have ihk:=ih _ (getD_mem (d:=zN) hk3) (abK hok hk3) hd6
  rw [d1_ (by omega)] at ihk
  rw [WZ hk2 hk3] at hR
  conv=>whnf
  refine Need.mk (idx hk2) ?_
  conv=>whnf
  refine Split.mk (fun c=>?_) (fun c=>?_)
  ·have h1:0<d:=nK c
   clear c
   rw [if_pos h1] at hR
   have hs1:(a++(⟨#[47]⟩:ByteArray)).size=a.size+1:=rY _ _
   have hs2:((a++(⟨#[47]⟩:ByteArray))++n.f0.getD i ByteArray.empty).size=a.size+1+(n.f0.getD i ByteArray.empty).size:=by rw [rY,hs1]
   conv=>whnf
   refine Need.mk (show a.size+1≤9223372036854775807 by omega) ?_
   conv=>whnf
   refine Need.mk (show(a++(⟨#[47]⟩:ByteArray)).size+(n.f0.getD i ByteArray.empty).size≤9223372036854775807 by omega) ?_
   conv=>whnf
   refine Need.mk (idx hk3) ?_
   conv=>whnf
   refine aU.mk _ (ihk _ (by show((a++(⟨#[47]⟩:ByteArray))++n.f0.getD i ByteArray.empty).size≤_;omega)) ?_
   conv=>whnf
   refine Split.mk (fun c=>?_) (fun c=>?_)
   ·have c4:=dX c
    conv=>whnf
    exact aV.mk ⟨rfl,rfl⟩ ⟨rfl,rfl⟩ ⟨bv (gJ c4 hR),trivial⟩
   ·have c4:=fH c
    replace hR:=fJ c4 hR
    conv=>whnf
    exact dA.mk ⟨⟨i+1,hk2,hR⟩,Nat.sub_lt_sub_left hk2 (Nat.lt_succ_self i),aI [(0,0)] rfl rfl rfl ⟨⟨rfl,congrArg i64 (iy hk2 (Nat.le_trans hn.l0 (by decide)))⟩,⟨rfl,rfl⟩,⟨rfl,rfl⟩,⟨rfl,rfl⟩,trivial⟩ ⟨⟨rfl,rfl⟩,trivial⟩⟩
  ·have h1:d=0:=nM c
   clear c
   rw [if_neg (by omega)] at hR
   conv=>whnf
   refine Need.mk (idx hk3) ?_
   conv=>whnf
   refine aU.mk _ (ihk _ (by show(n.f0.getD i ByteArray.empty).size≤_;omega)) ?_
   conv=>whnf
   refine Split.mk (fun c=>?_) (fun c=>?_)
   ·have c4:=dX c
    conv=>whnf
    exact aV.mk ⟨rfl,rfl⟩ ⟨rfl,rfl⟩ ⟨bv (gJ c4 hR),trivial⟩
   ·have c4:=fH c
    replace hR:=fJ c4 hR
    conv=>whnf
    exact dA.mk ⟨⟨i+1,hk2,hR⟩,Nat.sub_lt_sub_left hk2 (Nat.lt_succ_self i),aI [(0,0)] rfl rfl rfl ⟨⟨rfl,congrArg i64 (iy hk2 (Nat.le_trans hn.l0 (by decide)))⟩,⟨rfl,rfl⟩,⟨rfl,rfl⟩,⟨rfl,rfl⟩,trivial⟩ ⟨⟨rfl,rfl⟩,trivial⟩⟩
 ·have hk2:i=n.f0.length:=Nat.le_antisymm hi (jQ c)
  subst hk2
  conv=>whnf
  exact aV.mk ⟨rfl,rfl⟩ ⟨rfl,rfl⟩ ⟨bv (hR.symm.trans YN),trivial⟩
theorem KZ:∀(n:SN),Bd n→∀(d:Nat) (a:ByteArray),d≤6→a.size≤d*1048577→okS d n=true→aW T Tryz.prog 145 [.ag (T.cells eN n), .c (.sc (.string a)), .c (.sc (.int .i64 (d:Int)))] (.c (.sc (.bool (yj d a n)))):=fun n hn d a hd ha hok=>
 Oy n d a hn hd ha hok (fun k hk hok2 h b hb=>KZ k (hn.kid k hk) (d+1) b h hb hok2)
termination_by n=>SizeOf.sizeOf n
decreasing_by exact oN hk
theorem QE {n:SN} (hn:Bd n) (h0:n.f2.length=0):jJ n=(okS 0 n && yj 0 (⟨#[]⟩:ByteArray) n):=by
 have hB:=WL hn [] 0 rfl (by omega) (fun _=>h0)
 have e:dF []=(⟨#[]⟩:ByteArray):=rfl
 rw [e] at hB
 unfold jJ
 rw [decide_eq_true h0,Bool.true_and,Bool.eq_iff_iff,hB,Bool.and_eq_true]
theorem TT (n:SN) (hn:Bd n):aW T Tryz.prog 76 [.ag (T.cells eN n)] (.c (.sc (.bool (jJ n)))):=by
 refine bM hT Tryz.func76 (by kernel_rfl) rfl rfl (fun A=>?_)
 conv=>whnf
 refine Split.mk (fun c=>?_) (fun c=>?_)
 ·have h0:n.f2.length=0:=xA c
  clear c
  rw [QE hn h0]
  conv=>whnf
  refine aU.mk _ (WY n hn 0 (by decide)) ?_
  conv=>whnf
  refine Split.mk (fun c=>?_) (fun c=>?_)
  ·conv=>whnf
   refine aU.mk _ (KZ n hn 0 _ (by decide) (by show(0:Nat)≤_;omega) c) ?_
   conv=>whnf
   exact aV.mk ⟨rfl,rfl⟩ ⟨rfl,rfl⟩ ⟨bv (by rw [c];rfl),trivial⟩
  ·conv=>whnf
   exact aV.mk ⟨rfl,rfl⟩ ⟨rfl,rfl⟩ ⟨bv (by rw [c];rfl),trivial⟩
 ·have h0:n.f2.length≠0:=xB c
  clear c
  conv=>whnf
  refine Split.mk (fun e=>mX e) (fun _=>?_)
  conv=>whnf
  exact aV.mk ⟨rfl,rfl⟩ ⟨rfl,rfl⟩ ⟨bv (by unfold jJ;rw [decide_eq_false h0];rfl),trivial⟩
end Go.Proofs.YtcnfgfomholheaaGreatDoor.Q
end
section
namespace Go.Proofs.YtcnfgfomholheaaGreatDoor.Q
open Go.RowKit Go.Proofs.YtcnfgfomholheaaGreatDoor.Z Go.Proofs.YtcnfgfomholheaaGreatDoor.Pure
set_option linter.unusedVariables false
set_option linter.unusedSimpArgs false
set_option maxRecDepth 100000
set_option maxHeartbeats 4000000
theorem W9 {i:Nat} {p:List ByteArray} {ns:List ByteArray} {ks:List SN} (h:i<ns.length) (h2:i<ks.length):l7 p (ns.drop i) (jd ns i) (ks.drop i)=(nJ (jd ns i) (ns.getD i ByteArray.empty) && (decide ((Hg (ns.getD i ByteArray.empty)).length≤1) && (jL (dl (ns.getD i ByteArray.empty)) (((ks.getD i zN).f1.length:Int)==0) && (!(decide ((ks.getD i zN).f1.length=0) && decide ((ks.getD i zN).f2.length=0)) && (okI (p++[ns.getD i ByteArray.empty]) (ks.getD i zN) && l7 p (ns.drop (i+1)) (jd ns (i+1)) (ks.drop (i+1))))))):=by
 have e:ns.getD i ByteArray.empty=ns[i]:=by simp [h]
 have e2:ks.getD i zN=ks[i]:=by simp [h2]
 have e3:((ks[i].f1.length:Int)==0)=decide (ks[i].f1.length=0):=by rw [Bool.eq_iff_iff];simp
 rw [List.drop_eq_getElem_cons h,List.drop_eq_getElem_cons h2,l7,e,e2,xw h,e,Jz,pieces_len,e3,Bool.and_assoc]
theorem YO {p:List ByteArray} {ns:List ByteArray} {ks:List SN} {y:Option ByteArray}:l7 p (ns.drop ns.length) y ks=true:=by
 rw [List.drop_length];cases ks<;>rw [l7]<;>(intro x1 x2 x3 x4 e;cases e)
theorem TU {a b:Nat} (c:decide ((a:Int)>(b:Int))=true):b<a:=by simp at c;omega
theorem TV {a b:Nat} (c:decide ((a:Int)>(b:Int))=false):a≤b:=by simp at c;omega
theorem Hw:uO T 9:=fun _=>rfl
theorem Hy:uO T eS:=fun _=>rfl
theorem eY {a b:Nat} {bt:Nat} (h:a+b≤8388608) (hb:bt≤1024):a+b≤maxLen∧(a+b)*bt≤140737488355328:=by
 have:(a+b)*bt≤8388608*1024:=Nat.mul_le_mul h hb
 unfold maxLen;omega
theorem La {f:FuncId} {x:Arg T.Tb} {e:Nat} {r:RS T.Tb} (h:aW T Tryz.prog f [x, .c (.sl e [])] r):aW T Tryz.prog f [x, .c (.sc (.slice none 0 0))] r:=by
 refine⟨h.1,fun w vs S hj ha=>h.2 w vs S hj ?_⟩
 obtain⟨v,q,rfl,h1,v2,q2,rfl,⟨rfl,_⟩,rfl⟩:=ha
 exact⟨v,_,rfl,h1,_,_,rfl, .nil e none 0,rfl⟩
theorem Xa (n:SN) (p:List ByteArray) (hn:Bd n) (hp:p.length≤7) (hz:∀x∈p,x.size≤1048576) (ih:p.length≤6→∀k∈n.f1,∀x:ByteArray,x.size≤1048576→aW T Tryz.prog 137 [.ag (T.cells eN k), .c (.sl 9 (p++[x]))] (.c (.sc (.bool (okI (p++[x]) k))))):aW T Tryz.prog 137 [.ag (T.cells eN n), .c (.sl 9 (p))] (.c (.sc (.bool (okI (p) n)))):=by
 refine qF hT Tryz.func137 (by kernel_rfl) rfl rfl (fun A=>?_)
 have hR:=WG p n
 generalize okI p n=R at hR⊢
 replace hR:=hR.symm
 refine Vc.seq 0 hT ?_
 conv=>whnf
 refine Vc.seq 1 hT ?_
 conv=>whnf
 refine Split.mk (fun c=>?_) (fun c=>?_)
 ·have h1:¬n.f0.length=n.f1.length:=NY c
  clear c
  conv=>whnf
  refine Split.mk (fun _=>?_) (fun e=>kM e)
  conv=>whnf
  refine Split.mk (fun _=>?_) (fun e=>kM e)
  conv=>whnf
  exact aV.mk ⟨rfl,rfl⟩ ⟨rfl,rfl⟩ ⟨bv (gJ (decide_eq_false h1) hR),trivial⟩
 have hl:n.f0.length=n.f1.length:=NZ c
 clear c
 replace hR:=fJ (decide_eq_true hl) hR
 conv=>whnf
 refine Split.mk (fun c=>?_) (fun c=>?_)
 ·have h1:¬p.length≤6:=Nat.not_le.2 (TU (b:=6) c)
  clear c
  conv=>whnf
  refine Split.mk (fun _=>?_) (fun e=>kM e)
  conv=>whnf
  exact aV.mk ⟨rfl,rfl⟩ ⟨rfl,rfl⟩ ⟨bv (gJ (decide_eq_false h1) hR),trivial⟩
 have h6:p.length≤6:=TV (b:=6) c
 clear c
 replace hR:=fJ (decide_eq_true h6) hR
 conv=>whnf
 refine aU.mk _ (TS n.f2 hn.l2 (fun x hx=>Nat.le_trans (hn.z2 x hx) (by decide))) ?_
 conv=>whnf
 refine Split.mk (fun c=>?_) (fun c=>?_)
 ·have c1:rZ n.f2=false:=dX c
  clear c
  conv=>whnf
  exact aV.mk ⟨rfl,rfl⟩ ⟨rfl,rfl⟩ ⟨bv (gJ c1 hR),trivial⟩
 have c1:rZ n.f2=true:=fH c
 clear c
 replace hR:=fJ c1 hR
 conv=>whnf
 refine Vc.cut (α:=Unit) 2 (fun _=>l7 p n.f0 none n.f1=R) (fun _=>[(2, .c (.px 0 0)),(1,im 9 p)]) (fun _=>[(0,wL n)]) hT ?_ (fun _ hR=>?_)
 ·conv=>whnf
  refine Split.mk (fun c=>?_) (fun c=>?_)
  ·have h1:0<n.f2.length:=nK c
   clear c
   rw [decide_eq_false (p:=n.f2.length=0) (by omega),Bool.false_or] at hR
   conv=>whnf
   refine aU.mk _ (Ox p (by omega) (su p hp hz)) ?_
   conv=>whnf
   refine aU.mk _ (Ot _ (su p hp hz)) ?_
   conv=>whnf
   refine Split.mk (fun c=>?_) (fun c=>?_)
   ·have c1:eu (dF p)=false:=dX c
    clear c
    conv=>whnf
    exact aV.mk ⟨rfl,rfl⟩ ⟨rfl,rfl⟩ ⟨bv (gJ c1 hR),trivial⟩
   ·have c1:eu (dF p)=true:=fH c
    clear c
    conv=>whnf
    exact nG.mk ⟨(),fJ c1 hR,aI [(0,0)] rfl rfl rfl ⟨⟨rfl,rfl⟩,⟨rfl,rfl⟩,trivial⟩ ⟨⟨rfl,rfl⟩,trivial⟩⟩
  ·have h1:n.f2.length=0:=nM c
   clear c
   replace hR:=fJ (by rw [decide_eq_true h1];rfl) hR
   conv=>whnf
   refine Split.mk (fun e=>mX e) (fun _=>?_)
   conv=>whnf
   exact nG.mk ⟨(),hR,aI [(0,0)] rfl rfl rfl ⟨⟨rfl,rfl⟩,⟨rfl,rfl⟩,trivial⟩ ⟨⟨rfl,rfl⟩,trivial⟩⟩
 refine Vc.of 1 hT ?_
 conv=>whnf
 refine iO.mk {i:Nat // i≤n.f0.length∧l7 p (n.f0.drop i) (jd n.f0 i) (n.f1.drop i)=R} (fun p_=>(1,[(39,i64 p_.1),(38,i64 n.f0.length),(37,im 9 n.f0),(2, .c (.px 0 0)),(1,im 9 p)],[(0,wL n)])) (fun p=>n.f0.length - p.1) ⟨0,Nat.zero_le _,hR⟩ (aI [(0,0)] rfl rfl rfl ⟨⟨rfl,rfl⟩,⟨rfl,rfl⟩,⟨rfl,rfl⟩,⟨rfl,rfl⟩,⟨rfl,rfl⟩,trivial⟩ ⟨⟨rfl,rfl⟩,trivial⟩) ?_
 rename_i hR0
 clear hR hR0
 rintro⟨i,hi,hR⟩
 conv=>whnf
 refine Split.mk (fun c=>?_) (fun c=>?_)
 ·have hk2:i<n.f0.length:=jP c
  clear c
  have hk3:i<n.f1.length:=hl▸hk2
  have hx:=hn.z0 _ (getD_mem (d:=ByteArray.empty) hk2)
  have ihk:=ih h6 _ (getD_mem (d:=zN) hk3) _ hx
  rw [W9 hk2 hk3] at hR
  conv=>whnf
  refine Need.mk (idx hk2) ?_
  conv=>whnf
  refine Need.mk (idx hk3) ?_
  conv=>whnf
  refine Split.mk (fun c=>?_) (fun c=>?_)
  ·have h0:0<i:=nK c
   clear c
   have hl0:=hn.l0
   rw [WV h0 hk2] at hR
   have hpr:=MX h0 (by omega)
   have hpt:(wrap64 ((i:Int) - 1)).toNat=i - 1:=by rw [hpr];rfl
   conv=>whnf
   refine Need.mk (by rw [hpr];exact idx (show i - 1<n.f0.length by omega)) ?_
   conv=>whnf
   refine Split.mk (fun c=>?_) (fun c=>?_)
   ·have c2:Op.bytesLess (n.f0.getD (i - 1) ByteArray.empty).toList (n.f0.getD i ByteArray.empty).toList=false:=(congrArg (fun j=>Op.bytesLess (n.f0.getD j ByteArray.empty).toList (n.f0.getD i ByteArray.empty).toList) hpt.symm).trans (dX c)
    clear c
    conv=>whnf
    refine Split.mk (fun _=>?_) (fun e=>kM e)
    conv=>whnf
    refine Split.mk (fun _=>?_) (fun e=>kM e)
    conv=>whnf
    exact aV.mk ⟨rfl,rfl⟩ ⟨rfl,rfl⟩ ⟨bv (gJ c2 hR),trivial⟩
   ·have c2:Op.bytesLess (n.f0.getD (i - 1) ByteArray.empty).toList (n.f0.getD i ByteArray.empty).toList=true:=(congrArg (fun j=>Op.bytesLess (n.f0.getD j ByteArray.empty).toList (n.f0.getD i ByteArray.empty).toList) hpt.symm).trans (fH c)
    clear c
    replace hR:=fJ c2 hR
    conv=>whnf
    refine aU.mk _ (Hl _ (Nat.le_trans hx (by decide))) ?_
    conv=>whnf
    refine Split.mk (fun c=>?_) (fun c=>?_)
    ·have c3:¬(Hg (n.f0.getD i ByteArray.empty)).length≤1:=Nat.not_le.2 (TU (b:=1) c)
     clear c
     conv=>whnf
     refine Split.mk (fun _=>?_) (fun e=>kM e)
     conv=>whnf
     exact aV.mk ⟨rfl,rfl⟩ ⟨rfl,rfl⟩ ⟨bv (gJ (decide_eq_false c3) hR),trivial⟩
    ·have c3:(Hg (n.f0.getD i ByteArray.empty)).length≤1:=TV (b:=1) c
     clear c
     replace hR:=fJ (decide_eq_true c3) hR
     conv=>whnf
     refine aU.mk _ (EK _ _ (Nat.le_trans hx (by decide))) ?_
     conv=>whnf
     refine Split.mk (fun c=>?_) (fun c=>?_)
     ·have c4:=dX c
      conv=>whnf
      exact aV.mk ⟨rfl,rfl⟩ ⟨rfl,rfl⟩ ⟨bv (gJ c4 hR),trivial⟩
     ·have c4:=fH c
      clear c
      replace hR:=fJ c4 hR
      conv=>whnf
      refine Split.mk (fun c=>?_) (fun c=>?_)
      ·have c5:(n.f1.getD i zN).f1.length=0:=xA c
       clear c
       conv=>whnf
       refine Split.mk (fun c=>?_) (fun c=>?_)
       ·have c6:(n.f1.getD i zN).f2.length=0:=xA c
        clear c
        conv=>whnf
        refine dD.mk ⟨by kernel_rfl,by kernel_rfl⟩ ?_
        conv=>whnf
        refine Split.mk (fun _=>?_) (fun e=>kM e)
        conv=>whnf
        exact aV.mk ⟨rfl,rfl⟩ ⟨rfl,rfl⟩ ⟨bv (ZO c5 c6 hR),trivial⟩
       ·have c6:(n.f1.getD i zN).f2.length≠0:=xB c
        clear c
        replace hR:=ZN c5 c6 hR
        conv=>whnf
        refine Need.mk ⟨Hw,eY (a:=0) (b:=p.length) (by omega) (by decide)⟩ ?_
        conv=>whnf
        refine Need.mk (eY (a:=p.length) (b:=1) (by omega) (by decide)) ?_
        conv=>whnf
        refine aU.mk _ ihk ?_
        conv=>whnf
        refine dD.mk ⟨by kernel_rfl,by kernel_rfl⟩ ?_
        conv=>whnf
        refine Split.mk (fun c=>?_) (fun c=>?_)
        ·have c9:=dX c
         conv=>whnf
         exact aV.mk ⟨rfl,rfl⟩ ⟨rfl,rfl⟩ ⟨bv (gJ c9 hR),trivial⟩
        ·have c9:=fH c
         replace hR:=fJ c9 hR
         conv=>whnf
         exact dA.mk ⟨⟨i+1,hk2,hR⟩,Nat.sub_lt_sub_left hk2 (Nat.lt_succ_self i),aI [(0,0)] rfl rfl rfl ⟨⟨rfl,congrArg i64 (iy hk2 (Nat.le_trans hn.l0 (by decide)))⟩,⟨rfl,rfl⟩,⟨rfl,rfl⟩,⟨rfl,rfl⟩,⟨rfl,rfl⟩,trivial⟩ ⟨⟨rfl,rfl⟩,trivial⟩⟩
      ·have c5:(n.f1.getD i zN).f1.length≠0:=xB c
       clear c
       replace hR:=ZM c5 hR
       conv=>whnf
       refine Split.mk (fun e=>mX e) (fun _=>?_)
       conv=>whnf
       refine Need.mk ⟨Hw,eY (a:=0) (b:=p.length) (by omega) (by decide)⟩ ?_
       conv=>whnf
       refine Need.mk (eY (a:=p.length) (b:=1) (by omega) (by decide)) ?_
       conv=>whnf
       refine aU.mk _ ihk ?_
       conv=>whnf
       refine dD.mk ⟨by kernel_rfl,by kernel_rfl⟩ ?_
       conv=>whnf
       refine Split.mk (fun c=>?_) (fun c=>?_)
       ·have c9:=dX c
        conv=>whnf
        exact aV.mk ⟨rfl,rfl⟩ ⟨rfl,rfl⟩ ⟨bv (gJ c9 hR),trivial⟩
       ·have c9:=fH c
        replace hR:=fJ c9 hR
        conv=>whnf
        exact dA.mk ⟨⟨i+1,hk2,hR⟩,Nat.sub_lt_sub_left hk2 (Nat.lt_succ_self i),aI [(0,0)] rfl rfl rfl ⟨⟨rfl,congrArg i64 (iy hk2 (Nat.le_trans hn.l0 (by decide)))⟩,⟨rfl,rfl⟩,⟨rfl,rfl⟩,⟨rfl,rfl⟩,⟨rfl,rfl⟩,trivial⟩ ⟨⟨rfl,rfl⟩,trivial⟩⟩
  ·have h0:i=0:=nM c
   clear c
   subst h0
   rw [Hr,Bool.true_and] at hR
   conv=>whnf
   refine Split.mk (fun e=>mX e) (fun _=>?_)
   conv=>whnf
   refine aU.mk _ (Hl _ (Nat.le_trans hx (by decide))) ?_
   conv=>whnf
   refine Split.mk (fun c=>?_) (fun c=>?_)
   ·have c3:¬(Hg (n.f0.getD 0 ByteArray.empty)).length≤1:=Nat.not_le.2 (TU (b:=1) c)
    clear c
    conv=>whnf
    refine Split.mk (fun _=>?_) (fun e=>kM e)
    conv=>whnf
    exact aV.mk ⟨rfl,rfl⟩ ⟨rfl,rfl⟩ ⟨bv (gJ (decide_eq_false c3) hR),trivial⟩
   ·have c3:(Hg (n.f0.getD 0 ByteArray.empty)).length≤1:=TV (b:=1) c
    clear c
    replace hR:=fJ (decide_eq_true c3) hR
    conv=>whnf
    refine aU.mk _ (EK _ _ (Nat.le_trans hx (by decide))) ?_
    conv=>whnf
    refine Split.mk (fun c=>?_) (fun c=>?_)
    ·have c4:=dX c
     conv=>whnf
     exact aV.mk ⟨rfl,rfl⟩ ⟨rfl,rfl⟩ ⟨bv (gJ c4 hR),trivial⟩
    ·have c4:=fH c
     clear c
     replace hR:=fJ c4 hR
     conv=>whnf
     refine Split.mk (fun c=>?_) (fun c=>?_)
     ·have c5:(n.f1.getD 0 zN).f1.length=0:=xA c
      clear c
      conv=>whnf
      refine Split.mk (fun c=>?_) (fun c=>?_)
      ·have c6:(n.f1.getD 0 zN).f2.length=0:=xA c
       clear c
       conv=>whnf
       refine dD.mk ⟨by kernel_rfl,by kernel_rfl⟩ ?_
       conv=>whnf
       refine Split.mk (fun _=>?_) (fun e=>kM e)
       conv=>whnf
       exact aV.mk ⟨rfl,rfl⟩ ⟨rfl,rfl⟩ ⟨bv (ZO c5 c6 hR),trivial⟩
      ·have c6:(n.f1.getD 0 zN).f2.length≠0:=xB c
       clear c
       replace hR:=ZN c5 c6 hR
       conv=>whnf
       refine Need.mk ⟨Hw,eY (a:=0) (b:=p.length) (by omega) (by decide)⟩ ?_
       conv=>whnf
       refine Need.mk (eY (a:=p.length) (b:=1) (by omega) (by decide)) ?_
       conv=>whnf
       refine aU.mk _ ihk ?_
       conv=>whnf
       refine dD.mk ⟨by kernel_rfl,by kernel_rfl⟩ ?_
       conv=>whnf
       refine Split.mk (fun c=>?_) (fun c=>?_)
       ·have c9:=dX c
        conv=>whnf
        exact aV.mk ⟨rfl,rfl⟩ ⟨rfl,rfl⟩ ⟨bv (gJ c9 hR),trivial⟩
       ·have c9:=fH c
        replace hR:=fJ c9 hR
        conv=>whnf
        exact dA.mk ⟨⟨0+1,hk2,hR⟩,Nat.sub_lt_sub_left hk2 (Nat.lt_succ_self 0),aI [(0,0)] rfl rfl rfl ⟨⟨rfl,congrArg i64 (iy hk2 (Nat.le_trans hn.l0 (by decide)))⟩,⟨rfl,rfl⟩,⟨rfl,rfl⟩,⟨rfl,rfl⟩,⟨rfl,rfl⟩,trivial⟩ ⟨⟨rfl,rfl⟩,trivial⟩⟩
     ·have c5:(n.f1.getD 0 zN).f1.length≠0:=xB c
      clear c
      replace hR:=ZM c5 hR
      conv=>whnf
      refine Split.mk (fun e=>mX e) (fun _=>?_)
      conv=>whnf
      refine Need.mk ⟨Hw,eY (a:=0) (b:=p.length) (by omega) (by decide)⟩ ?_
      conv=>whnf
      refine Need.mk (eY (a:=p.length) (b:=1) (by omega) (by decide)) ?_
      conv=>whnf
      refine aU.mk _ ihk ?_
      conv=>whnf
      refine dD.mk ⟨by kernel_rfl,by kernel_rfl⟩ ?_
      conv=>whnf
      refine Split.mk (fun c=>?_) (fun c=>?_)
      ·have c9:=dX c
       conv=>whnf
       exact aV.mk ⟨rfl,rfl⟩ ⟨rfl,rfl⟩ ⟨bv (gJ c9 hR),trivial⟩
      ·have c9:=fH c
       replace hR:=fJ c9 hR
       conv=>whnf
       exact dA.mk ⟨⟨0+1,hk2,hR⟩,Nat.sub_lt_sub_left hk2 (Nat.lt_succ_self 0),aI [(0,0)] rfl rfl rfl ⟨⟨rfl,congrArg i64 (iy hk2 (Nat.le_trans hn.l0 (by decide)))⟩,⟨rfl,rfl⟩,⟨rfl,rfl⟩,⟨rfl,rfl⟩,⟨rfl,rfl⟩,trivial⟩ ⟨⟨rfl,rfl⟩,trivial⟩⟩
 ·have hk2:i=n.f0.length:=Nat.le_antisymm hi (jQ c)
  subst hk2
  conv=>whnf
  exact aV.mk ⟨rfl,rfl⟩ ⟨rfl,rfl⟩ ⟨bv (hR.symm.trans YO),trivial⟩
theorem Xb:∀(n:SN),Bd n→∀p:List ByteArray,p.length≤7→(∀x∈p,x.size≤1048576)→aW T Tryz.prog 137 [.ag (T.cells eN n), .c (.sl 9 (p))] (.c (.sc (.bool (okI (p) n)))):=fun n hn p hp hz=>
 Xa n p hn hp hz (fun h k hk x hx=>Xb k (hn.kid k hk) (p++[x]) (by rw [List.length_append];show p.length+1≤7;omega) (fun y hy=>(List.mem_append.1 hy).elim (hz y) (fun h=>by rw [List.mem_singleton.1 h];exact hx)))
termination_by n=>SizeOf.sizeOf n
decreasing_by exact oN hk
theorem TW (n:SN) (hn:Bd n):aW T Tryz.prog 73 [.ag (T.cells eN n)] (.c (.sc (.bool (jJ n)))):=by
 refine bM hT Tryz.func73 (by kernel_rfl) rfl rfl (fun A=>?_)
 conv=>whnf
 refine Split.mk (fun c=>?_) (fun c=>?_)
 ·have h0:n.f2.length=0:=xA c
  clear c
  conv=>whnf
  refine aU.mk _ (La (Xb n hn [] (by decide) (fun x hx=>by cases hx))) ?_
  conv=>whnf
  exact aV.mk ⟨rfl,rfl⟩ ⟨rfl,rfl⟩ ⟨bv (by unfold jJ;rw [decide_eq_true h0];rfl),trivial⟩
 ·have h0:n.f2.length≠0:=xB c
  clear c
  conv=>whnf
  exact aV.mk ⟨rfl,rfl⟩ ⟨rfl,rfl⟩ ⟨bv (by unfold jJ;rw [decide_eq_false h0];rfl),trivial⟩
end Go.Proofs.YtcnfgfomholheaaGreatDoor.Q
end
section
namespace Go.Proofs.YtcnfgfomholheaaGreatDoor.Q
open Go.RowKit Go.Proofs.YtcnfgfomholheaaGreatDoor.Z Go.Proofs.YtcnfgfomholheaaGreatDoor.Pure
set_option linter.unusedVariables false
set_option linter.unusedSimpArgs false
set_option maxRecDepth 100000
set_option maxHeartbeats 4000000
theorem YP (l:List SS) (hl:l.length≤8388608):aW T Tryz.prog 170 [.c (.sl eS l)] (.c (.ow eS l)):=by
 refine bM hT Tryz.func170 (by kernel_rfl) rfl rfl (fun A=>?_)
 conv=>whnf
 refine Need.mk ⟨Hy,eY (a:=0) (b:=l.length) (by omega) (by decide)⟩ ?_
 conv=>whnf
 exact aV.mk ⟨rfl,rfl⟩ ⟨rfl,rfl⟩ ⟨rfl,trivial⟩
theorem getD_in {α:Type} (l:List α) (k:Nat) (d:α) (h:k<l.length):l.getD k d=l[k]:=by simp [h]
end Go.Proofs.YtcnfgfomholheaaGreatDoor.Q
end
