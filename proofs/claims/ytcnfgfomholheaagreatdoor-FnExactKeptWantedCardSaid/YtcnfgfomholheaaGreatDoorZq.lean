/- Several texts of this claim in one (a claim holds at most 60 files). -/
import Derived.Test.YtcnfgfomholheaaGreatDoorZy
import Derived.Test.YtcnfgfomholheaaGreatDoorZp
import Derived.Test.YtcnfgfomholheaaGreatDoorZc
section
namespace Go.Proofs.YtcnfgfomholheaaGreatDoor.Q
open Go.RowKit Go.Proofs.YtcnfgfomholheaaGreatDoor.Z Go.Proofs.YtcnfgfomholheaaGreatDoor.Pure
set_option linter.unusedVariables false
set_option linter.unusedSimpArgs false
set_option maxRecDepth 100000
set_option maxHeartbeats 4000000
def ac6 (t:ByteArray) (l:List SS):List SS:=l.filter fun s=>!(s.f0.toList==t.toList)
theorem ZL {α:Type} {p:α→Bool} {d:α}:∀{l:List α} {i:Nat},i≤l.length→(∀j,j<i→p (l.getD j d)=true)→(i=l.length∨p (l.getD i d)=false)→l.take i=l.takeWhile p∧l.drop i=l.dropWhile p
 | [],i,hi,_,_=>by simp
 | a::l,0,_,_,h=>by
   rcases h with h | h
   ·simp at h
   ·have h:p a=false:=h
    simp [List.takeWhile_cons,List.dropWhile_cons,h]
 | a::l,i+1,hi,h1,h2=>by
   have ha:p a=true:=h1 0 (Nat.succ_pos i)
   have ih:=ZL (p:=p) (d:=d) (l:=l) (i:=i) (by simpa using hi) (fun j hj=>h1 (j+1) (by omega)) (by simpa using h2)
   simp [List.takeWhile_cons,List.dropWhile_cons,ha,ih.1,ih.2]
theorem ZM {l l':List SS} (h:l=l'):bW (T:=T) eS l eS l':=fE h
theorem ZN {l l':List SN} (h:l=l'):bW (T:=T) eN l eN l':=fE h
theorem Bz {l l':List SE} (h:l=l'):bW (T:=T) eE l eE l':=fE h
theorem ZO {l l':List ByteArray} (h:l=l'):bW (T:=T) 9 l 9 l':=fE h
end Go.Proofs.YtcnfgfomholheaaGreatDoor.Q
end
section
namespace Go.Proofs.YtcnfgfomholheaaGreatDoor.Q
open Go.RowKit Go.Proofs.YtcnfgfomholheaaGreatDoor.Z Go.Proofs.YtcnfgfomholheaaGreatDoor.Pure
set_option linter.unusedVariables false
set_option linter.unusedSimpArgs false
set_option maxRecDepth 100000
set_option maxHeartbeats 4000000
def Ro (t s:ByteArray):Bool:=Op.bytesLess s.toList t.toList
def g9 (l:List ByteArray) (k:Nat):ByteArray:=l.getD k (T.df 9)
structure Bs (l:List ByteArray) (t:ByteArray) (i j:Nat):Prop where
 le:i≤j
 hi:j≤l.length
 lo:∀k,k<i→Ro t (g9 l k)=true
 up:∀k,j≤k→k<l.length→Ro t (g9 l k)=false
def aby (t:ByteArray) (l:List ByteArray):Nat:=(l.takeWhile (Ro t)).length
theorem Bs.pos {l:List ByteArray} {t:ByteArray} {i:Nat} (h:Bs l t i i):aby t l=i:=by
 have h1:=h.hi
 have:=(ZL (p:=Ro t) (d:=T.df 9) (l:=l) (i:=i) h1 h.lo (by
  rcases Nat.lt_or_ge i l.length with h2 | h2
  ·exact .inr (h.up i (Nat.le_refl _) h2)
  ·exact .inl (by omega))).1
 unfold aby
 rw [←this,List.length_take]
 omega
end Go.Proofs.YtcnfgfomholheaaGreatDoor.Q
end
section
namespace Go.Proofs.YtcnfgfomholheaaGreatDoor.Q
open Go.RowKit Go.Proofs.YtcnfgfomholheaaGreatDoor.Z Go.Proofs.YtcnfgfomholheaaGreatDoor.Pure
set_option linter.unusedVariables false
set_option linter.unusedSimpArgs false
set_option maxRecDepth 100000
set_option maxHeartbeats 4000000
theorem zK:∀(a b c:List UInt8),Op.bytesLess a b=true→Op.bytesLess b c=true→Op.bytesLess a c=true
 | [],[],_,h,_=>by simp [Op.bytesLess] at h
 | a::x,[],_,h,_=>by simp [Op.bytesLess] at h
 | _,b::y,[],_,h=>by simp [Op.bytesLess] at h
 | [],b::y,c::z,_,_=>rfl
 | a::x,b::y,c::z,h,h2=>by
   simp only [Op.bytesLess,Bool.or_eq_true,Bool.and_eq_true,decide_eq_true_eq,beq_iff_eq] at h h2⊢
   rcases h with h | ⟨rfl,h⟩
   ·rcases h2 with h2 | ⟨rfl,h2⟩
    ·exact .inl (UInt8.lt_trans h h2)
    ·exact .inl h
   ·rcases h2 with h2 | ⟨rfl,h2⟩
    ·exact .inl h2
    ·exact .inr ⟨rfl,zK x y z h h2⟩
inductive Tr:SN→Prop
 | mk (n:SN) (hl:n.f0.length=n.f1.length) (hr:n.f0.Pairwise (fun a b=>Op.bytesLess a.toList b.toList=true)) (hk:∀k∈n.f1,Tr k):Tr n
theorem Tr.len {n:SN} (h:Tr n):n.f0.length=n.f1.length:=by cases h;assumption
theorem Tr.kid {n:SN} (h:Tr n):∀k∈n.f1,Tr k:=by cases h;assumption
theorem Tr.rise {n:SN} (h:Tr n):n.f0.Pairwise (fun a b=>Op.bytesLess a.toList b.toList=true):=by cases h;assumption
theorem Tr.up {n:SN} (h:Tr n) (t:ByteArray):∀a b,a≤b→b<n.f0.length→Ro t (g9 n.f0 b)=true→Ro t (g9 n.f0 a)=true:=by
 cases h with
 | mk _ _ hr _=>
   intro a b hab hb h
   rcases Nat.lt_or_eq_of_le hab with h1 | rfl
   ·have h2:=List.pairwise_iff_getElem.1 hr a b (by omega) hb h1
    rw [show g9 n.f0 b=n.f0[b] from getD_in _ _ _ hb] at h
    have e:=zK _ _ _ h2 h
    rw [←getD_in n.f0 a (T.df 9) (by omega)] at e
    exact e
   ·exact h
end Go.Proofs.YtcnfgfomholheaaGreatDoor.Q
end
section
namespace Go.Proofs.YtcnfgfomholheaaGreatDoor.Q
open Go.RowKit Go.Proofs.YtcnfgfomholheaaGreatDoor.Z Go.Proofs.YtcnfgfomholheaaGreatDoor.Pure
set_option linter.unusedVariables false
set_option linter.unusedSimpArgs false
set_option maxRecDepth 100000
set_option maxHeartbeats 4000000
def pz (p:List ByteArray) (s:SS):SE:=⟨dH p,s.f0,s.f1,s.f2⟩
theorem FP (p:List ByteArray) (n:SN):je p n=n.f2.map (pz p)++fJ p n.f0 n.f1:=aav p n
theorem uV {p:List ByteArray} {d:ByteArray} {e:SN}:∀{ns:List ByteArray} {ks:List SN} {k:Nat},k<ns.length→k<ks.length→fJ p (ns.take (k+1)) (ks.take (k+1))=fJ p (ns.take k) (ks.take k)++je (p++[ns.getD k d]) (ks.getD k e)
 | [],_,_,h,_=>by simp at h
 | _::_,[],_,_,h=>by simp at h
 | x::r,y::q,0,_,_=>by
   simp only [List.take_succ_cons,List.take_zero,fJ,List.append_nil,List.nil_append]
   rfl
 | x::r,y::q,k+1,h,h2=>by
   have:=uV (p:=p) (d:=d) (e:=e) (ns:=r) (ks:=q) (k:=k) (by simpa using h) (by simpa using h2)
   simp only [List.take_succ_cons] at this⊢
   rw [fJ,fJ,this,List.append_assoc]
   rfl
theorem pW {p:List ByteArray}:∀{ns:List ByteArray} {ks:List SN} {k:Nat},(fJ p (ns.take k) (ks.take k)).length≤(fJ p ns ks).length
 | [],ks,k=>by rw [List.take_nil,fJ];exact Nat.zero_le _
 | _::_,[],0=>by rw [List.take_zero,fJ];exact Nat.zero_le _
 | _::_,[],k+1=>by rw [List.take_nil,List.take_succ_cons,fJ];exact Nat.zero_le _
 | x::r,y::q,0=>by rw [List.take_zero,fJ];exact Nat.zero_le _
 | x::r,y::q,k+1=>by
   have:=pW (p:=p) (ns:=r) (ks:=q) (k:=k)
   simp only [List.take_succ_cons,fJ,List.length_append]
   omega
theorem BA {l:List SS} {p:List ByteArray} {k:Nat} {d:SS} (h:k<l.length):(l.take k).map (pz p)++[pz p (l.getD k d)]=(l.take (k+1)).map (pz p):=by
 rw [List.take_succ_eq_append_getElem h,List.map_append,getD_in (α:=SS) l k d h];rfl
theorem Ob (n:SN) (p:List ByteArray) (hn:Bd n) (hl:n.f0.length=n.f1.length) (hp:p.length≤7) (hz:∀x∈p,x.size≤1048576) (hc:(je p n).length≤4194304)
  (ih:∀i,i<n.f1.length→aH T Tryz.prog 136 [.ag (T.cells eN (bV T eN n.f1 i)), .c (.sl 9 (p++[g9 n.f0 i]))] (.c (.ow eE (je (p++[g9 n.f0 i]) (bV T eN n.f1 i))))):aH T Tryz.prog 136 [.ag (T.cells eN n), .c (.sl 9 p)] (.c (.ow eE (je p n))):=by
 have hl2:=hn.l2
 rw [FP] at hc⊢
 rw [List.length_append,List.length_map] at hc
 refine aI hT Tryz.func136 (by kernel_rfl) rfl rfl (fun A=>?_)
 conv=>whnf
 refine dU.mk {k:Nat // k≤n.f2.length} (fun q=>(2,[(14,i64 q.1),(13,i64 n.f2.length),(12,im eS n.f2),(5, .c (.hd 1)),(2, .c (.px 0 0)),(1,im 9 p)],[(1, .row 1 eE ((n.f2.take q.1).map (pz p))),(0,Cb n)])) (fun q=>n.f2.length - q.1) ⟨0,Nat.zero_le _⟩ (ay [(1,1),(0,0)] rfl rfl rfl ⟨⟨rfl,rfl⟩,⟨rfl,rfl⟩,⟨rfl,rfl⟩,⟨rfl,rfl⟩,⟨rfl,rfl⟩,⟨rfl,rfl⟩,trivial⟩ ⟨Bz rfl,⟨rfl,rfl⟩,trivial⟩) ?_
 rintro⟨k,hk⟩
 conv=>whnf
 refine Split.mk (fun c=>?_) (fun c=>?_)
 ·have hk2:k<n.f2.length:=gX c
  clear c
  conv=>whnf
  refine Need.mk (idx hk2) ?_
  conv=>whnf
  refine aG.mk _ (Oc p (Nat.le_trans hp (by decide)) (sZ p hp hz)) ?_
  conv=>whnf
  refine Need.mk (fA (a:=((n.f2.take k).map (pz p)).length) (b:=1) (by rw [List.length_map,List.length_take];omega) (by decide)) ?_
  conv=>whnf
  refine bZ.mk ⟨by kernel_rfl,by kernel_rfl⟩ ?_
  conv=>whnf
  exact bM.mk ⟨⟨k+1,hk2⟩,Nat.sub_lt_sub_left hk2 (Nat.lt_succ_self k),ay [(1,5),(0,0)] rfl rfl rfl ⟨⟨rfl,congrArg i64 (eu hk2 (by omega))⟩,⟨rfl,rfl⟩,⟨rfl,rfl⟩,⟨rfl,rfl⟩,⟨rfl,rfl⟩,⟨rfl,rfl⟩,trivial⟩ ⟨Bz (BA (d:=T.df eS) hk2),⟨rfl,rfl⟩,trivial⟩⟩
 ·have hk2:k=n.f2.length:=Nat.le_antisymm hk (gY c)
  clear c
  subst hk2
  have hl1:=hn.l1
  conv=>whnf
  refine dU.mk {k:Nat // k≤n.f1.length} (fun q=>(2,[(34,i64 q.1),(33,i64 n.f1.length),(32,im eN n.f1),(5, .c (.hd 1)),(2, .c (.px 0 0)),(1,im 9 p)],[(1, .row 1 eE (n.f2.map (pz p)++fJ p (n.f0.take q.1) (n.f1.take q.1))),(0,Cb n)])) (fun q=>n.f1.length - q.1) ⟨0,Nat.zero_le _⟩ (ay [(1,1),(0,0)] rfl rfl rfl ⟨⟨rfl,rfl⟩,⟨rfl,rfl⟩,⟨rfl,rfl⟩,⟨rfl,rfl⟩,⟨rfl,rfl⟩,⟨rfl,rfl⟩,trivial⟩ ⟨Bz (by rw [List.take_length];simp [fJ];rfl),⟨rfl,rfl⟩,trivial⟩) ?_
  rintro⟨k,hk⟩
  conv=>whnf
  refine Split.mk (fun c=>?_) (fun c=>?_)
  ·have hk2:k<n.f1.length:=gX c
   have hk3:k<n.f0.length:=by omega
   clear c
   conv=>whnf
   refine Need.mk (idx hk2) ?_
   conv=>whnf
   refine Need.mk ⟨H8,fA (a:=0) (b:=p.length) (by omega) (by decide)⟩ ?_
   conv=>whnf
   refine Need.mk (idx hk3) ?_
   conv=>whnf
   refine Need.mk (fA (a:=p.length) (b:=1) (by omega) (by decide)) ?_
   conv=>whnf
   refine aG.mk _ (ih k hk2) ?_
   conv=>whnf
   have hsn:=uV (p:=p) (d:=T.df 9) (e:=T.df eN) hk3 hk2
   have hle:=pW (p:=p) (ns:=n.f0) (ks:=n.f1) (k:=k+1)
   rw [hsn,List.length_append] at hle
   refine Need.mk (fA (a:=(n.f2.map (pz p)++fJ p (n.f0.take k) (n.f1.take k)).length) (b:=(je (p++[g9 n.f0 k]) (bV T eN n.f1 k)).length) (by rw [List.length_append,List.length_map];have hle':_+(je (p++[g9 n.f0 k]) (bV T eN n.f1 k)).length≤_:=hle;omega) (by decide)) ?_
   conv=>whnf
   refine bZ.mk ⟨by kernel_rfl,by kernel_rfl⟩ ?_
   conv=>whnf
   exact bM.mk ⟨⟨k+1,hk2⟩,Nat.sub_lt_sub_left hk2 (Nat.lt_succ_self k),ay [(1,8),(0,0)] rfl rfl rfl ⟨⟨rfl,congrArg i64 (eu hk2 (by omega))⟩,⟨rfl,rfl⟩,⟨rfl,rfl⟩,⟨rfl,rfl⟩,⟨rfl,rfl⟩,⟨rfl,rfl⟩,trivial⟩ ⟨Bz (show(n.f2.map (pz p)++fJ p (n.f0.take k) (n.f1.take k))++je (p++[g9 n.f0 k]) (bV T eN n.f1 k)=n.f2.map (pz p)++fJ p (n.f0.take (k+1)) (n.f1.take (k+1)) by rw [hsn,List.append_assoc];rfl),⟨rfl,rfl⟩,trivial⟩⟩
  ·have hk2:k=n.f1.length:=Nat.le_antisymm hk (gY c)
   clear c
   conv=>whnf
   exact aC.mk ⟨rfl,rfl⟩ ⟨rfl,rfl⟩ ⟨Bz (by show n.f2.map (pz p)++fJ p (n.f0.take k) (n.f1.take k)=_;rw [hk2,List.take_length,←hl,List.take_length]),trivial⟩
theorem Ls {p:List ByteArray} {n:SN} {i:Nat} (h:i<n.f1.length) (hl:n.f0.length=n.f1.length):(je (p++[g9 n.f0 i]) (bV T eN n.f1 i)).length≤(je p n).length:=by
 have h3:i<n.f0.length:=by omega
 have hsn:=uV (p:=p) (d:=T.df 9) (e:=T.df eN) h3 h
 have hle:=pW (p:=p) (ns:=n.f0) (ks:=n.f1) (k:=i+1)
 rw [hsn,List.length_append] at hle
 rw [FP,List.length_append]
 have hle':_+(je (p++[g9 n.f0 i]) (bV T eN n.f1 i)).length≤_:=hle
 omega
theorem Oe {l:List ByteArray} {i:Nat} (h:i<l.length):g9 l i∈l:=getD_mem (l:=l) (d:=T.df 9) h
theorem VX {l:List SN} {i:Nat} (h:i<l.length):bV T eN l i∈l:=getD_mem (l:=l) (d:=T.df eN) h
inductive Dp:Nat→SN→Prop
 | mk (d:Nat) (n:SN) (h:n.f1≠[]→0<d) (hk:∀k∈n.f1,Dp (d - 1) k):Dp d n
theorem Dp.pos {d:Nat} {n:SN} (h:Dp d n) (hne:n.f1≠[]):0<d:=by cases h with | mk _ _ h _=>exact h hne
theorem Dp.kid {d:Nat} {n:SN} (h:Dp d n):∀k∈n.f1,Dp (d - 1) k:=by cases h with | mk _ _ _ h=>exact h
theorem entriesOf:∀(n:SN) (p:List ByteArray) (d:Nat),Bd n→Tr n→Dp d n→p.length+d≤7→(∀x∈p,x.size≤1048576)→(je p n).length≤4194304→aH T Tryz.prog 136 [.ag (T.cells eN n), .c (.sl 9 p)] (.c (.ow eE (je p n))):=fun n p d hn ht hd hp hz hc=>
 Ob n p hn ht.len (by omega) hz hc (fun i hi=>by
  have hm:bV T eN n.f1 i∈n.f1:=VX hi
  have h9:g9 n.f0 i∈n.f0:=Oe (by rw [ht.len];exact hi)
  have hpos:=hd.pos (fun e=>by rw [e] at hi;simp at hi)
  have hx:(bV T eN n.f1 i:SN)∈n.f1:=hm
  exact entriesOf (bV T eN n.f1 i) (p++[g9 n.f0 i]) (d - 1) (hn.kid _ hm) (ht.kid _ hm) (hd.kid _ hm) (by rw [List.length_append];show p.length+1+(d - 1)≤7;omega) (fun y hy=>(List.mem_append.1 hy).elim (hz y) (fun h=>by rw [List.mem_singleton.1 h];exact hn.z0 _ h9)) (Nat.le_trans (Ls hi ht.len) hc))
termination_by n=>SizeOf.sizeOf n
decreasing_by exact qX hm
theorem QF (n:SN) (hn:Bd n) (hg:jV n=true→Tr n∧Dp 7 n) (hc:(lu n).length≤4194304):aH T Tryz.prog 71 [.ag (T.cells eN n)] (.c (.ow eE (lu n))):=by
 refine aI hT Tryz.func71 (by kernel_rfl) rfl rfl (fun A=>?_)
 conv=>whnf
 refine aG.mk _ (H9 n hn) ?_
 conv=>whnf
 refine Split.mk (fun c=>?_) (fun c=>?_)
 ·have h0:jV n=false:=dA c
  conv=>whnf
  exact aC.mk ⟨rfl,rfl⟩ ⟨rfl,rfl⟩ ⟨⟨rfl,show lu n=[] by unfold lu;rw [h0];rfl⟩,trivial⟩
 ·have h0:jV n=true:=dM c
  have he:lu n=je [] n:=by unfold lu;rw [if_pos h0]
  rw [he] at hc⊢
  conv=>whnf
  refine aG.mk _ (Lu (entriesOf n [] 7 hn (hg h0).1 (hg h0).2 (by decide) (fun x hx=>by cases hx) hc)) ?_
  conv=>whnf
  exact aC.mk ⟨rfl,rfl⟩ ⟨rfl,rfl⟩ ⟨rfl,trivial⟩
end Go.Proofs.YtcnfgfomholheaaGreatDoor.Q
end
section
namespace Go.Proofs.YtcnfgfomholheaaGreatDoor.Q
open Go.RowKit Go.Proofs.YtcnfgfomholheaaGreatDoor.Z Go.Proofs.YtcnfgfomholheaaGreatDoor.Pure
set_option linter.unusedVariables false
set_option linter.unusedSimpArgs false
set_option maxRecDepth 100000
set_option maxHeartbeats 4000000
end Go.Proofs.YtcnfgfomholheaaGreatDoor.Q
end
section
namespace Go.Proofs.YtcnfgfomholheaaGreatDoor.Q
open Go.RowKit Go.Proofs.YtcnfgfomholheaaGreatDoor.Z Go.Proofs.YtcnfgfomholheaaGreatDoor.Pure
set_option linter.unusedVariables false
set_option linter.unusedSimpArgs false
set_option maxRecDepth 100000
set_option maxHeartbeats 4000000
end Go.Proofs.YtcnfgfomholheaaGreatDoor.Q
end
section
namespace Go.Proofs.YtcnfgfomholheaaGreatDoor.Q
open Go.RowKit Go.Proofs.YtcnfgfomholheaaGreatDoor.Z Go.Proofs.YtcnfgfomholheaaGreatDoor.Pure
set_option linter.unusedVariables false
set_option linter.unusedSimpArgs false
set_option maxRecDepth 100000
set_option maxHeartbeats 4000000
abbrev ad7 (n:SN):RS T.Tb:= .ag [.im 9 n.f0, .im eN n.f1, .im eS n.f2]
end Go.Proofs.YtcnfgfomholheaaGreatDoor.Q
end
section
namespace Go.Proofs.YtcnfgfomholheaaGreatDoor.Q
open Go.RowKit Go.Proofs.YtcnfgfomholheaaGreatDoor.Z Go.Proofs.YtcnfgfomholheaaGreatDoor.Pure
set_option linter.unusedVariables false
set_option linter.unusedSimpArgs false
def prs (n:SN):List (ByteArray × SN):=n.f0.zip n.f1
abbrev ltB (a b:ByteArray):Prop:=Op.bytesLess a.toList b.toList=true
inductive Gd:SN→Prop
 | mk (n:SN) (ht:Tr n) (hf:∀k∈n.f1,k.f1≠[]∨k.f2≠[]) (hk:∀k∈n.f1,Gd k):Gd n
theorem Gd.tr {n:SN} (h:Gd n):Tr n:=by cases h;assumption
theorem Gd.full {n:SN} (h:Gd n):∀k∈n.f1,k.f1≠[]∨k.f2≠[]:=by cases h;assumption
theorem Gd.kid {n:SN} (h:Gd n):∀k∈n.f1,Gd k:=by cases h;assumption
end Go.Proofs.YtcnfgfomholheaaGreatDoor.Q
end
section
namespace Go.Proofs.YtcnfgfomholheaaGreatDoor.Q
open Go.RowKit Go.Proofs.YtcnfgfomholheaaGreatDoor.Z Go.Proofs.YtcnfgfomholheaaGreatDoor.X Go.Proofs.YtcnfgfomholheaaGreatDoor.Pure
set_option linter.unusedVariables false
set_option linter.unusedSimpArgs false
theorem LC {p:List ByteArray}:∀{ns:List ByteArray} {y:Option ByteArray} {ks:List SN},ns.length=ks.length→mP p ns y ks=true→ns.Pairwise ltB∧∀x∈ns,nU y x=true
 | [],y,ks,_,_=>⟨.nil,fun x hx=>by cases hx⟩
 | x::r,y,[],h,_=>by simp at h
 | x::r,y,k::q,h,ho=>by
   obtain⟨h1,_,_,_,h5⟩:=uo.1 ho
   obtain⟨a,b⟩:=LC (by simpa using h) h5
   refine⟨List.pairwise_cons.2 ⟨fun z hz=>b z hz,a⟩,fun z hz=>?_⟩
   rcases List.mem_cons.1 hz with rfl | hz
   ·exact h1
   ·cases y with
    | none=>rfl
    | some y=>exact zK _ _ _ h1 (b z hz)
theorem Rq {p:List ByteArray}:∀{ns:List ByteArray} {y:Option ByteArray} {ks:List SN},mP p ns y ks=true→∀x k,(x,k)∈ns.zip ks→JU x k=true∧(k.f1.length≠0∨k.f2.length≠0)∧okI (p++[x]) k=true
 | [],y,ks,_,x,k,h=>by simp at h
 | x::r,y,[],_,x',k',h=>by simp at h
 | x::r,y,k::q,ho,x',k',h=>by
   obtain⟨_,h2,h3,h4,h5⟩:=uo.1 ho
   rw [List.zip_cons_cons] at h
   rcases List.mem_cons.1 h with h | h
   ·cases h;exact⟨h2,h3,h4⟩
   ·exact Rq h5 x' k' h
theorem aaw {n:SN} (hl:n.f0.length=n.f1.length) {k:SN} (hk:k∈n.f1):∃x,(x,k)∈prs n:=by
 have:k∈(prs n).map (·.2):=by unfold prs;rw [List.map_snd_zip (by omega)];exact hk
 obtain⟨⟨x,k'⟩,h,rfl⟩:=List.mem_map.1 this
 exact⟨x,h⟩
theorem ZP:∀(n:SN) (p:List ByteArray),okI p n=true→Gd n∧Dp (7 - p.length) n:=fun n p h=>by
 obtain⟨h1,h2,h3,h4,h5⟩:=uq.1 h
 have hk:∀k∈n.f1,(Gd k∧Dp (7 - (p.length+1)) k)∧(k.f1≠[]∨k.f2≠[])∧p.length+1≤6:=fun k hk=>by
  obtain⟨x,hx⟩:=aaw h1 hk
  obtain⟨_,a2,a3⟩:=Rq h5 x k hx
  have:=ZP k (p++[x]) a3
  have h7:=(uq.1 a3).2.1
  rw [List.length_append] at this h7
  refine⟨this,a2.imp (fun h e=>h (by rw [e];rfl)) (fun h e=>h (by rw [e];rfl)),h7⟩
 refine⟨.mk n (.mk n h1 (LC h1 h5).1 (fun k h=>(hk k h).1.1.tr)) (fun k h=>(hk k h).2.1) (fun k h=>(hk k h).1.1), .mk _ n (fun hne=>?_) (fun k h=>?_)⟩
 ·obtain⟨k,h⟩:=List.exists_mem_of_ne_nil _ hne
  have:=(hk k h).2.2
  omega
 ·have:=(hk k h).1.2
  rw [show 7 - p.length - 1=7 - (p.length+1) by omega]
  exact this
termination_by n=>SizeOf.sizeOf n
decreasing_by exact qX hk
theorem VY {n:SN} (h:jV n=true):okI [] n=true∧n.f2=[]:=by
 unfold jV at h
 simp only [Bool.and_eq_true,decide_eq_true_eq] at h
 exact⟨h.2,List.length_eq_zero_iff.1 h.1⟩
theorem Ia {n:SN} (h:jV n=true):Tr n∧Dp 7 n:=by
 have:=ZP n [] (VY h).1
 exact⟨this.1.tr,this.2⟩
end Go.Proofs.YtcnfgfomholheaaGreatDoor.Q
end
section
namespace Go.Proofs.YtcnfgfomholheaaGreatDoor.Q
open Go.RowKit Go.Proofs.YtcnfgfomholheaaGreatDoor.Z Go.Proofs.YtcnfgfomholheaaGreatDoor.X Go.Proofs.YtcnfgfomholheaaGreatDoor.Pure
set_option linter.unusedVariables false
set_option linter.unusedSimpArgs false
end Go.Proofs.YtcnfgfomholheaaGreatDoor.Q
end
section
namespace Go.Proofs.YtcnfgfomholheaaGreatDoor.Q
open Go.RowKit Go.Proofs.YtcnfgfomholheaaGreatDoor.Z Go.Proofs.YtcnfgfomholheaaGreatDoor.X Go.Proofs.YtcnfgfomholheaaGreatDoor.Pure
set_option linter.unusedVariables false
set_option linter.unusedSimpArgs false
theorem Og:∀(l:List SS) (k:Nat),(bP iJ l k).2=k+3*l.length
 | [],k=>rfl
 | p::l,k=>by
   show(bP iJ l (k+3)).2=_
   rw [Og l (k+3),List.length_cons];omega
mutual
theorem JV:∀(n:SN) (k:Nat),(dI n k).2≤k+3*cnt n
 | ⟨a,b,c⟩,k=>by
   rw [dI,cnt]
   show(bP iJ c (sF b (k+1*a.length)).2).2≤_
   rw [Og]
   have:=Oh b (k+1*a.length)
   omega
theorem Oh:∀(l:List SN) (k:Nat),(sF l k).2≤k+3*uJ l
 | [],k=>by rw [sF,uJ];exact Nat.le_refl _
 | p::l,k=>by
   rw [sF,uJ]
   show(sF l (dI p k).2).2≤_
   have h1:=JV p k
   have h2:=Oh l (dI p k).2
   omega
end
theorem nJ {n:Nat} {x:Int} (h:0≤dO n x):dO n x+n≤x:=by unfold dO at*;split at h<;>(try split)<;>omega
def sumF {α:Type} (g:α→Nat):List α→Nat
 | []=>0
 | a::l=>g a+sumF g l
theorem Rt {α:Type} {F:α→Int→Int} {g:α→Nat}:∀{l:List α} {x:Int},(∀a∈l,∀x,0≤x→0≤F a x→F a x+g a≤x)→0≤x→0≤iq F l x→iq F l x+sumF g l≤x
 | [],x,_,_,_=>by show x+((0:Nat):Int)≤x;omega
 | a::l,x,hF,h0,h=>by
   obtain⟨h1,h2⟩:=lW h
   have e:iq F (a::l) x=iq F l (F a x):=zL h1
   have h3:=hF a List.mem_cons_self x h0 h1
   have h4:=Rt (g:=g) (l:=l) (fun b hb=>hF b (List.mem_cons_of_mem _ hb)) h1 h2
   rw [e]
   show _+((g a+sumF g l:Nat):Int)≤x
   omega
theorem vP {α:Type} {F:α→Int→Int}:∀{l:List α} {x:Int},(∀a∈l,∀x,0≤x→F a x≤x)→0≤x→0≤iq F l x→∀a∈l,∃v,0≤v∧v≤x∧0≤F a v
 | [],x,_,_,_,a,ha=>by cases ha
 | b::l,x,hF,h0,h,a,ha=>by
   obtain⟨h1,h2⟩:=lW h
   rcases List.mem_cons.1 ha with rfl | ha
   ·exact⟨x,h0,Int.le_refl _,h1⟩
   ·have h3:=hF b List.mem_cons_self x h0
    obtain⟨v,v1,v2,v3⟩:=vP (l:=l) (fun b hb=>hF b (List.mem_cons_of_mem _ hb)) h1 h2 a ha
    exact⟨v,v1,by omega,v3⟩
theorem Ru:∀l:List LN,sumF (fun a=>cnt (tN a)) l=uJ (l.map tN)
 | []=>by rw [List.map_nil,uJ];rfl
 | a::l=>by rw [List.map_cons,uJ,←Ru l];rfl
theorem Rw {l:List ByteArray} {x:Int} (h0:0≤x) (h:0≤Fa l x):Fa l x+l.length≤x:=by
 obtain⟨h1,h2⟩:=lW h
 have e:Fa l x=_:=zL h1
 have h3:=nJ h1
 have h4:=qY (F:=fun y:ByteArray=>dO y.size) (l:=l) (fun a _ x hx=>jf hx) h1
 rw [e];omega
theorem Rx {l:List LS} {x:Int} (h0:0≤x) (h:0≤BD l x):BD l x+l.length≤x:=by
 obtain⟨h1,h2⟩:=lW h
 have e:BD l x=_:=zL h1
 have h3:=nJ h1
 have h4:=qY (F:=fun y:LS=>dO y.f0.size) (l:=l) (fun a _ x hx=>jf hx) h1
 rw [e];omega
theorem LD {a:LN} {x:Int} (h0:0≤x) (h:0≤ny a x):∃x1 x2 x3:Int,Fa a.f0 x=x1∧0≤x1∧x1≤x∧dO a.f1.length x1=x2∧0≤x2∧x2≤x1∧iq ny a.f1 x2=x3∧0≤x3∧x3≤x2∧0≤BD a.f2 x3∧ny a x=BD a.f2 x3:=by
 rw [Oi] at h⊢
 obtain⟨h1,h2⟩:=lW h
 obtain⟨h3,h4⟩:=lW h2
 obtain⟨h5,h6⟩:=lW h3
 have e1:=zL (K:=fun x=>thenS (thenS (dO a.f1.length x) (iq ny a.f1)) fun x=>BD a.f2 x) h1
 have e2:=zL (K:=fun x=>BD a.f2 x) h3
 have e3:=zL (K:=iq ny a.f1) h5
 refine⟨_,_,_,rfl,h1,Oj h0,rfl,h5,jf h1,rfl,h6,qY (fun b _ y hy=>wE b hy) h5,?_,?_⟩
 ·rw [←e3];exact h4
 ·rw [e1,e2,e3]
theorem Ry:∀(a:LN) (x:Int),0≤x→0≤ny a x→ny a x+cnt (tN a)≤x:=fun a x h0 h=>by
 obtain⟨x1,x2,x3,e1,a1,b1,e2,a2,b2,e3,a3,b3,h4,e⟩:=LD h0 h
 have g1:=Rw h0 (by rw [e1];exact a1)
 have g2:=Rt (F:=ny) (g:=fun a=>cnt (tN a)) (l:=a.f1) (fun k hk y hy hz=>Ry k y hy hz) a2 (by rw [e3];exact a3)
 have g3:=Rx a3 h4
 rw [e1] at g1
 rw [e3,Ru] at g2
 rw [e,TD,abz]
 show _+(((a.f0.length+(a.f2.map tS).length+uJ (a.f1.map tN):Nat)):Int)≤x
 rw [List.length_map]
 omega
termination_by a=>SizeOf.sizeOf a
decreasing_by exact yU hk
theorem VZ:∀(a:LN) (x:Int),0≤x→x≤1048576→0≤ny a x→Bd (tN a)∧Ol a:=fun a x h0 hx h=>by
 obtain⟨x1,x2,x3,e1,a1,b1,e2,a2,b2,e3,a3,b3,h4,e⟩:=LD h0 h
 have h1:0≤Fa a.f0 x:=by rw [e1];exact a1
 have g1:=Rw h0 h1
 have g3:=Rx a3 h4
 have g2:=nJ (n:=a.f1.length) (x:=x1) (by rw [e2];exact a2)
 rw [e1] at g1
 rw [e2] at g2
 have z0:∀y∈a.f0,y.size≤1048576:=fun y hy=>by
  obtain⟨q1,q2⟩:=lW h1
  obtain⟨v,v1,v2,v3⟩:=vP (F:=fun y:ByteArray=>dO y.size) (fun a _ x hx=>jf hx) q1 q2 y hy
  have:=nJ v3
  have:=jf (n:=a.f0.length) h0
  omega
 have z2:∀y∈a.f2,y.f0.size≤1048576:=fun y hy=>by
  obtain⟨q1,q2⟩:=lW h4
  obtain⟨v,v1,v2,v3⟩:=vP (F:=fun y:LS=>dO y.f0.size) (fun a _ x hx=>jf hx) q1 q2 y hy
  have:=nJ v3
  have:=jf (n:=a.f2.length) a3
  omega
 have hk:∀k∈a.f1,Bd (tN k)∧Ol k:=fun k hk=>by
  obtain⟨v,v1,v2,v3⟩:=vP (F:=ny) (fun b _ y hy=>wE b hy) a2 (by rw [e3];exact a3) k hk
  exact VZ k v v1 (by omega) v3
 refine⟨?_, .mk a (by omega) (by omega) (by omega) (fun k h=>(hk k h).2)⟩
 rw [TD]
 refine .mk _ (by show a.f0.length≤_;omega) z0 (by show(a.f1.map tN).length≤_;rw [List.length_map];omega) (by show(a.f2.map tS).length≤_;rw [List.length_map];omega) (fun y hy=>?_) (fun y hy=>?_)
 ·obtain⟨z,hz,rfl⟩:=List.mem_map.1 hy
  exact z2 z hz
 ·obtain⟨z,hz,rfl⟩:=List.mem_map.1 hy
  exact(hk z hz).1
termination_by a=>SizeOf.sizeOf a
decreasing_by exact yU hk
end Go.Proofs.YtcnfgfomholheaaGreatDoor.Q
end
section
namespace Go.Proofs.YtcnfgfomholheaaGreatDoor.Q
open Go.RowKit Go.Proofs.YtcnfgfomholheaaGreatDoor.Z Go.Proofs.YtcnfgfomholheaaGreatDoor.Pure
set_option linter.unusedVariables false
set_option linter.unusedSimpArgs false
set_option maxRecDepth 100000
set_option maxHeartbeats 4000000
structure RT where
 v:Int
 t:SN
 k:List SK
structure RL where
 v:Int
 t:LN
 k:List LK
abbrev eG:Nat:=56
abbrev eGL:Nat:=52
abbrev cR (r:RT):List (C0 T.Tb):=[.sc (.int .i64 r.v), .sl 9 r.t.f0, .sl eN r.t.f1, .sl eS r.t.f2, .sl eK r.k]
abbrev VW (r:RL):List (C0 T.Tb):=[.sc (.int .i64 r.v), .sl 9 r.t.f0, .sl su r.t.f1, .sl Cc r.t.f2, .sl Ce r.k]
abbrev ad8 (r:RT):RS T.Tb:= .ag [.sc (.int .i64 r.v), .ow 9 r.t.f0, .ow eN r.t.f1, .ow eS r.t.f2, .ow eK r.k]
abbrev nC (r:RT):dB T:= .bx eG ((cR r).map (toCell none))
abbrev yx (r:RL):dB T:= .bx eGL ((VW r).map (toCell none))
theorem dS {l l':List SK} (h:l=l'):bW (T:=T) eK l eK l':=fE h
theorem ZQ {l l':List SW} (h:l=l'):bW (T:=T) eW l eW l':=fE h
theorem ZR {l l':List Int} (h:l=l'):bW (T:=T) 3 l 3 l':=fE h
theorem sr5 {l l':List Int} (h:l=l'):bW (T:=T) 5 l 5 l':=fE h
def Ci (l:List LK) (x:Int):Int:=thenS (dO l.length x) (iq qj l)
def Rz (a:RL) (x:Int):Int:=thenS (ny a.t x) (Ci a.k)
def abA (l:List LK):Prop:=l.length≤140737488351232∧∀y∈l,(y:LK).f0.size≤140737488351232∧(y:LK).f1.length≤140737488351232
def abx (a:RL):Prop:=yw a.t∧abA a.k
theorem Yu (a:LK) (x:Int) (h0:0≤x) (h:qj a x<0):qj a x= -1:=by
 unfold qj thenS at*
 split at h
 ·rename_i hc;rw [if_pos hc]
 ·rename_i hc;rw [if_neg hc];exact RD h
theorem Yv {l:List LK} {x:Int} (h0:0≤x) (h:Ci l x<0):Ci l x= -1:=by
 unfold Ci at*
 by_cases hc:dO l.length x<0
 ·unfold thenS;rw [if_pos hc]
 ·rw [zL (by omega)] at h⊢
  exact JW Yu (by omega) h
theorem abB (a:RL) (x:Int) (ht:yw a.t) (hk:abA a.k) (h0:0≤x) (h1:x≤1048576):aH T Tryz.prog 36 [.ag (VW a), .c (.sc (.int .i64 x))] (.c (.sc (.int .i64 (Rz a x)))):=by
 have hle:=wE a.t h0
 refine aI hT Tryz.func36 (by kernel_rfl) rfl rfl (fun A=>?_)
 conv=>whnf
 refine aG.mk _ (V3 a.t ht x h0 h1) ?_
 conv=>whnf
 refine Split.mk (fun c=>?_) (fun c=>?_)
 ·conv=>whnf
  exact aC.mk ⟨rfl,rfl⟩ ⟨rfl,rfl⟩ ⟨iv (zM c),trivial⟩
 ·obtain⟨e1,e2⟩:=zO (K:=Ci a.k) c
  have e3:Rz a x=Ci a.k (ny a.t x):=e1
  conv=>whnf
  refine aG.mk _ (aax a.k (ny a.t x) e2 (Int.le_trans hle h1) hk.1 hk.2) ?_
  conv=>whnf
  refine Split.mk (fun c=>?_) (fun c=>?_)
  ·conv=>whnf
   exact aC.mk ⟨rfl,rfl⟩ ⟨rfl,rfl⟩ ⟨iv (e3.trans (Yv e2 (JX c))),trivial⟩
  ·conv=>whnf
   exact aC.mk ⟨rfl,rfl⟩ ⟨rfl,rfl⟩ ⟨iv e3,trivial⟩
def tR (a:RL):RT:=⟨a.v,tN a.t,a.k.map tK⟩
theorem abC (a:RL) (ht:Ol a.t) (hk:a.k.length≤1048576) (hy:∀y∈a.k,(y:LK).f1.length≤1048576):aH T Tryz.prog 38 [.ag (VW a)] (ad8 (tR a)):=by
 refine aI hT Tryz.func38 (by kernel_rfl) rfl rfl (fun A=>?_)
 conv=>whnf
 refine aG.mk _ (V4 a.t ht) ?_
 conv=>whnf
 refine aG.mk _ (aay a.k hk hy) ?_
 conv=>whnf
 exact aC.mk ⟨rfl,rfl⟩ ⟨rfl,rfl⟩ ⟨rfl,rfl,rfl,rfl,rfl,trivial⟩
structure V5 (r:RT):Prop where
 t:Bd r.t
 k:r.k.length≤2097152
 b:∀y∈r.k,(y:SK).f1.length≤2097152
theorem abD {a b:RT} (h:a.v=b.v) (h2:a.t=b.t) (h3:a.k=b.k):a=b:=by cases a;cases b;cases h;cases h2;cases h3;rfl
theorem abE (a b:RT) (ha:V5 a):aH T Tryz.prog 40 [.ag (cR a), .ag (cR b)] (.c (.sc (.bool (same a b)))):=by
 refine aI hT Tryz.func40 (by kernel_rfl) rfl rfl (fun A=>?_)
 conv=>whnf
 refine Split.mk (fun c=>?_) (fun c=>?_)
 ·conv=>whnf
  exact aC.mk ⟨rfl,rfl⟩ ⟨rfl,rfl⟩ ⟨bv (gB (fun e=>wF c (congrArg RT.v e))),trivial⟩
 have h1:a.v=b.v:=FQ c
 conv=>whnf
 refine aG.mk _ (V6 a.t ha.t b.t) ?_
 conv=>whnf
 refine Split.mk (fun c=>?_) (fun c=>?_)
 ·conv=>whnf
  exact aC.mk ⟨rfl,rfl⟩ ⟨rfl,rfl⟩ ⟨bv (gB (fun e=>iH (dA c) (congrArg RT.t e))),trivial⟩
 have h2:a.t=b.t:=of_same (dM c)
 conv=>whnf
 refine aG.mk _ (RF a.k b.k (Nat.le_trans ha.k (by decide)) (fun y hy=>Nat.le_trans (ha.b y hy) (by decide))) ?_
 conv=>whnf
 refine Split.mk (fun c=>?_) (fun c=>?_)
 ·conv=>whnf
  exact aC.mk ⟨rfl,rfl⟩ ⟨rfl,rfl⟩ ⟨bv (gB (fun e=>iH (dA c) (congrArg RT.k e))),trivial⟩
 have h3:a.k=b.k:=of_same (dM c)
 conv=>whnf
 exact aC.mk ⟨rfl,rfl⟩ ⟨rfl,rfl⟩ ⟨bv (nD (abD h1 h2 h3)),trivial⟩
def nV (r:RT) (k:Nat):RT × Nat:=(⟨r.v,(dI r.t k).1,(bP (β:=SK) dV r.k (dI r.t k).2).1⟩,(bP (β:=SK) dV r.k (dI r.t k).2).2)
theorem Yw (r:RT) (k:Nat) (hr:V5 r) (h0:0<k) (hk:(nV r k).2≤4611686018427387904):CallWOb T Tryz.prog 41 [.ag [.c (.sc (.int .i64 r.v)), .ow 9 r.t.f0 9 (nV r k).1.t.f0, .ow eN r.t.f1 eN (nV r k).1.t.f1, .ow eS r.t.f2 eS (nV r k).1.t.f2, .ow eK r.k eK (nV r k).1.k], .c (.c (.sc (.int .i64 (k:Int))))] (.c (.sc (.int .i64 ((nV r k).2:Int)))):=by
 have g1:=uw r.t k
 have g2:=kJ vS r.k (dI r.t k).2
 have hk2:(bP (β:=SK) dV r.k (dI r.t k).2).2≤4611686018427387904:=hk
 have h1:=Yx r.t k hr.t h0 (Nat.le_trans g2 hk2)
 have h2:=LG r.k (dI r.t k).2 (Nat.le_trans hr.k (by decide)) hr.b (by omega) hk2
 refine nK hT Tryz.func41 (by kernel_rfl) rfl rfl (fun A=>?_)
 conv=>whnf
 refine aG.wr [[NW.wr 9 (dI r.t k).1.f0,NW.wr eN (dI r.t k).1.f1,NW.wr eS (dI r.t k).1.f2],[NW.rd]] (.c (.sc (.int .i64 ((dI r.t k).2:Int)))) ?_
 conv=>whnf
 refine lC.mk h1 ?_
 conv=>whnf
 refine aG.wr [[NW.wr eK (bP (β:=SK) dV r.k (dI r.t k).2).1],[NW.rd]] (.c (.sc (.int .i64 ((bP (β:=SK) dV r.k (dI r.t k).2).2:Int)))) ?_
 conv=>whnf
 refine lC.mk h2 ?_
 conv=>whnf
 exact tq.mk ⟨rfl,rfl⟩ ⟨⟨rfl,rfl⟩,rfl⟩ ⟨rfl,trivial⟩ ⟨rfl,rfl,rfl,rfl,trivial⟩
theorem zQ:∀(l:List SK) (k b:Nat),(∀y∈l,(y:SK).f1.length≤b)→(bP (β:=SK) dV l k).2≤k+(2+b)*l.length
 | [],k,b,_=>Nat.le_refl _
 | p::l,k,b,h=>by
   show(bP (β:=SK) dV l (k+1+1*p.f1.length+1)).2≤_
   have h1:=zQ l (k+1+1*p.f1.length+1) b (fun y hy=>h y (List.mem_cons_of_mem _ hy))
   have h2:=h p List.mem_cons_self
   rw [List.length_cons,Nat.mul_succ]
   omega
structure BK (l:List SK):Prop where
 k:l.length≤1048576
 b:∀y∈l,(y:SK).f1.length≤1048576
 t:∀y∈l,(y:SK).f0.size≤1048576
theorem aaz {l:List LK} {x:Int} (h0:0≤x) (hx:x≤1048576) (h:0≤Ci l x):BK (l.map tK)∧l.length≤1048576∧∀y∈l,(y:LK).f1.length≤1048576:=by
 obtain⟨h1,h2⟩:=lW h
 have h3:=nJ h1
 have hl:l.length≤1048576:=by omega
 have each:∀y∈l,(y:LK).f1.length≤1048576∧(y:LK).f0.size≤1048576:=fun y hy=>by
  obtain⟨v,v1,v2,v3⟩:=vP (F:=qj) (fun a _ x hx=>JY hx) h1 h2 y hy
  obtain⟨g1,g2⟩:=lW v3
  have g3:=nJ g1
  have g4:=nJ g2
  have:=jf (n:=l.length) h0
  omega
 refine⟨⟨by rw [List.length_map];exact hl,fun y hy=>?_,fun y hy=>?_⟩,hl,fun y hy=>(each y hy).1⟩
 ·obtain⟨z,hz,rfl⟩:=List.mem_map.1 hy
  exact(each z hz).1
 ·obtain⟨z,hz,rfl⟩:=List.mem_map.1 hy
  exact(each z hz).2
theorem abG {a:RL} {x:Int} (h0:0≤x) (hx:x≤1048576) (h:0≤Rz a x):Ol a.t∧Bd (tR a).t∧(cnt (tR a).t:Int)≤x∧BK (tR a).k∧a.k.length≤1048576∧(∀y∈a.k,(y:LK).f1.length≤1048576)∧Rz a x≤x:=by
 obtain⟨h1,h2⟩:=lW h
 obtain⟨b1,b2⟩:=VZ a.t x h0 hx h1
 have c1:=Ry a.t x h0 h1
 have hle:=wE a.t h0
 obtain⟨k1,k2,k3⟩:=aaz h1 (by omega) h2
 refine⟨b2,b1,by show(cnt (tN a.t):Int)≤x;omega,k1,k2,k3,?_⟩
 unfold Rz
 exact uX h0 hle (fun h=>by unfold Ci;exact uX h (jf h) (fun h=>qY (fun a _ x hx=>JY hx) h))
theorem BK.bdr {v:Int} {t:SN} {l:List SK} (h:BK l) (ht:Bd t):V5 ⟨v,t,l⟩:=⟨ht,Nat.le_trans h.k (by decide),fun y hy=>Nat.le_trans (h.b y hy) (by decide)⟩
theorem aaA (r:RT) (h:BK r.k) (hc:cnt r.t≤2097152):(nV r 1).2≤4611686018427387904:=by
 have h1:=JV r.t 1
 have h2:=zQ r.k (dI r.t 1).2 1048576 h.b
 have h3:(2+1048576)*r.k.length≤(2+1048576)*1048576:=Nat.mul_le_mul_left _ h.k
 show(bP (β:=SK) dV r.k (dI r.t 1).2).2≤_
 omega
end Go.Proofs.YtcnfgfomholheaaGreatDoor.Q
end
section
namespace Go.Proofs.YtcnfgfomholheaaGreatDoor.Q
open Go.RowKit Go.Proofs.YtcnfgfomholheaaGreatDoor.Z Go.Proofs.YtcnfgfomholheaaGreatDoor.Pure
set_option linter.unusedVariables false
set_option linter.unusedSimpArgs false
set_option maxRecDepth 100000
set_option maxHeartbeats 4000000
def TF (ls:List ByteArray) (c:ByteArray) (l:List SS):List SS:=bif decide (0<ls.length) then l else ac6 c l
structure Pk (ls:List ByteArray) (c:ByteArray) (f:ByteArray→SN→SN) (n:SN):Prop where
 no:ls.length=0→∀x k,f x k=k
 ne:0<ls.length→∀x k,(x.toList==(g9 ls 0).toList)=false→f x k=k
 eq:0<ls.length→∀x,∀k∈n.f1,(x.toList==(g9 ls 0).toList)=true→aH T Tryz.prog 96 [.ag (T.cells eN k), .c (.sl 9 ((ls.drop 1).take (ls.length - 1))), .c (.sc (.bool false)), .c (.sc (.string c))] (ad7 (f x k))
end Go.Proofs.YtcnfgfomholheaaGreatDoor.Q
end
section
namespace Go.Proofs.YtcnfgfomholheaaGreatDoor.Q
open Go.RowKit Go.Proofs.YtcnfgfomholheaaGreatDoor.Z Go.Proofs.YtcnfgfomholheaaGreatDoor.Pure
set_option linter.unusedVariables false
set_option linter.unusedSimpArgs false
set_option maxRecDepth 100000
set_option maxHeartbeats 4000000
end Go.Proofs.YtcnfgfomholheaaGreatDoor.Q
end
section
namespace Go.Proofs.YtcnfgfomholheaaGreatDoor.Q
open Go.RowKit Go.Proofs.YtcnfgfomholheaaGreatDoor.Z Go.Proofs.YtcnfgfomholheaaGreatDoor.Pure
set_option linter.unusedVariables false
set_option linter.unusedSimpArgs false
set_option maxRecDepth 100000
set_option maxHeartbeats 4000000
theorem FT (n:SN) (p:List ByteArray) (hn:Bd n) (hl:n.f0.length=n.f1.length) (hp:p.length≤7) (hz:∀x∈p,x.size≤1048576) (hc:(je p n).length≤4194304)
  (ih:∀i,i<n.f1.length→aH T Tryz.prog 178 [.ag (T.cells eN (bV T eN n.f1 i)), .c (.sc (.string (dH (p++[g9 n.f0 i])))), .c (.sc (.int .i64 ((p.length+1:Nat):Int)))] (.c (.ow eE (je (p++[g9 n.f0 i]) (bV T eN n.f1 i))))):aH T Tryz.prog 178 [.ag (T.cells eN n), .c (.sc (.string (dH p))), .c (.sc (.int .i64 (p.length:Int)))] (.c (.ow eE (je p n))):=by
 have hl2:=hn.l2
 have hjs:=sZ p hp hz
 rw [FP] at hc⊢
 rw [List.length_append,List.length_map] at hc
 refine mQ hT Tryz.func178 (by kernel_rfl) rfl rfl (fun A=>?_)
 refine Vc.of 0 hT ?_
 conv=>whnf
 refine dU.mk {k:Nat // k≤n.f2.length} (fun q=>(2,[(8,i64 q.1),(7, .c (.hd 1)),(3, .c (.px 0 0)),(1, .c (.sc (.string (dH p)))),(2,i64 p.length)],[(1, .row 1 eE ((n.f2.take q.1).map (pz p))),(0,Cb n)])) (fun q=>n.f2.length - q.1) ⟨0,Nat.zero_le _⟩ (ay [(1,1),(0,0)] rfl rfl rfl ⟨⟨rfl,rfl⟩,⟨rfl,rfl⟩,⟨rfl,rfl⟩,⟨rfl,rfl⟩,⟨rfl,rfl⟩,trivial⟩ ⟨Bz rfl,⟨rfl,rfl⟩,trivial⟩) ?_
 rintro⟨k,hk⟩
 conv=>whnf
 refine Split.mk (fun c=>?_) (fun c=>?_)
 ·have hk2:k<n.f2.length:=gX c
  clear c
  conv=>whnf
  refine Need.mk (idx hk2) ?_
  conv=>whnf
  refine Need.mk (idx hk2) ?_
  conv=>whnf
  refine Need.mk (idx hk2) ?_
  conv=>whnf
  refine Need.mk (fA (a:=((n.f2.take k).map (pz p)).length) (b:=1) (by rw [List.length_map,List.length_take];omega) (by decide)) ?_
  conv=>whnf
  refine bZ.mk ⟨by kernel_rfl,by kernel_rfl⟩ ?_
  conv=>whnf
  exact bM.mk ⟨⟨k+1,hk2⟩,Nat.sub_lt_sub_left hk2 (Nat.lt_succ_self k),ay [(1,3),(0,0)] rfl rfl rfl ⟨⟨rfl,congrArg i64 (eu hk2 (by omega))⟩,⟨rfl,rfl⟩,⟨rfl,rfl⟩,⟨rfl,rfl⟩,⟨rfl,rfl⟩,trivial⟩ ⟨Bz (BA (d:=T.df eS) hk2),⟨rfl,rfl⟩,trivial⟩⟩
 ·have hk2:k=n.f2.length:=Nat.le_antisymm hk (gY c)
  clear c
  subst hk2
  have hl1:=hn.l1
  conv=>whnf
  refine dU.mk {k:Nat // k≤n.f0.length} (fun q=>(2,[(9,i64 q.1),(7, .c (.hd 1)),(3, .c (.px 0 0)),(1, .c (.sc (.string (dH p)))),(2,i64 p.length)],[(1, .row 1 eE (n.f2.map (pz p)++fJ p (n.f0.take q.1) (n.f1.take q.1))),(0,Cb n)])) (fun q=>n.f0.length - q.1) ⟨0,Nat.zero_le _⟩ (ay [(1,1),(0,0)] rfl rfl rfl ⟨⟨rfl,rfl⟩,⟨rfl,rfl⟩,⟨rfl,rfl⟩,⟨rfl,rfl⟩,⟨rfl,rfl⟩,trivial⟩ ⟨Bz (by rw [List.take_length];simp [fJ];rfl),⟨rfl,rfl⟩,trivial⟩) ?_
  rintro⟨k,hk⟩
  conv=>whnf
  refine Split.mk (fun c=>?_) (fun c=>?_)
  ·have hk3:k<n.f0.length:=gX c
   have hk2:k<n.f1.length:=by omega
   clear c
   have ihk:=ih k hk2
   rw [show(((p.length+1:Nat)):Int)=wrap64 ((p.length:Int)+1) from d1_ (by omega)] at ihk
   have hsn:=uV (p:=p) (d:=T.df 9) (e:=T.df eN) hk3 hk2
   have hle:=pW (p:=p) (ns:=n.f0) (ks:=n.f1) (k:=k+1)
   rw [hsn,List.length_append] at hle
   have hap:(n.f2.map (pz p)++fJ p (n.f0.take k) (n.f1.take k)).length+(je (p++[g9 n.f0 k]) (bV T eN n.f1 k)).length≤8388608:=by
    rw [List.length_append,List.length_map]
    have hle':_+(je (p++[g9 n.f0 k]) (bV T eN n.f1 k)).length≤_:=hle
    omega
   have hx:(g9 n.f0 k).size≤1048576:=hn.z0 _ (Oe hk3)
   conv=>whnf
   refine Need.mk (idx hk3) ?_
   conv=>whnf
   refine Split.mk (fun c=>?_) (fun c=>?_)
   ·have h1:0<p.length:=lQ c
    have e:(dH p++(⟨#[47]⟩:ByteArray))++g9 n.f0 k=dH (p++[g9 n.f0 k]):=(if_pos h1).symm.trans (Cj p p.length rfl _)
    rw [←e] at ihk
    have hs1:(dH p++(⟨#[47]⟩:ByteArray)).size=(dH p).size+1:=tC _ _
    conv=>whnf
    refine Need.mk (show(dH p).size+1≤9223372036854775807 by omega) ?_
    conv=>whnf
    refine Need.mk (show(dH p++(⟨#[47]⟩:ByteArray)).size+(g9 n.f0 k).size≤9223372036854775807 by omega) ?_
    conv=>whnf
    refine Need.mk (idx hk2) ?_
    conv=>whnf
    refine aG.mk _ ihk ?_
    conv=>whnf
    refine Need.mk (fA (a:=(n.f2.map (pz p)++fJ p (n.f0.take k) (n.f1.take k)).length) (b:=(je (p++[g9 n.f0 k]) (bV T eN n.f1 k)).length) hap (by decide)) ?_
    conv=>whnf
    exact bM.mk ⟨⟨k+1,hk3⟩,Nat.sub_lt_sub_left hk3 (Nat.lt_succ_self k),ay [(1,3),(0,0)] rfl rfl rfl ⟨⟨rfl,congrArg i64 (eu hk3 (by omega))⟩,⟨rfl,rfl⟩,⟨rfl,rfl⟩,⟨rfl,rfl⟩,⟨rfl,rfl⟩,trivial⟩ ⟨Bz (show(n.f2.map (pz p)++fJ p (n.f0.take k) (n.f1.take k))++je (p++[g9 n.f0 k]) (bV T eN n.f1 k)=n.f2.map (pz p)++fJ p (n.f0.take (k+1)) (n.f1.take (k+1)) by rw [hsn,List.append_assoc];rfl),⟨rfl,rfl⟩,trivial⟩⟩
   ·have h1:p.length=0:=lS c
    have e:g9 n.f0 k=dH (p++[g9 n.f0 k]):=(if_neg (show ¬0<p.length by omega)).symm.trans (Cj p p.length rfl _)
    rw [←e] at ihk
    conv=>whnf
    refine Need.mk (idx hk2) ?_
    conv=>whnf
    refine aG.mk _ ihk ?_
    conv=>whnf
    refine Need.mk (fA (a:=(n.f2.map (pz p)++fJ p (n.f0.take k) (n.f1.take k)).length) (b:=(je (p++[g9 n.f0 k]) (bV T eN n.f1 k)).length) hap (by decide)) ?_
    conv=>whnf
    exact bM.mk ⟨⟨k+1,hk3⟩,Nat.sub_lt_sub_left hk3 (Nat.lt_succ_self k),ay [(1,3),(0,0)] rfl rfl rfl ⟨⟨rfl,congrArg i64 (eu hk3 (by omega))⟩,⟨rfl,rfl⟩,⟨rfl,rfl⟩,⟨rfl,rfl⟩,⟨rfl,rfl⟩,trivial⟩ ⟨Bz (show(n.f2.map (pz p)++fJ p (n.f0.take k) (n.f1.take k))++je (p++[g9 n.f0 k]) (bV T eN n.f1 k)=n.f2.map (pz p)++fJ p (n.f0.take (k+1)) (n.f1.take (k+1)) by rw [hsn,List.append_assoc];rfl),⟨rfl,rfl⟩,trivial⟩⟩
  ·have hk2:k=n.f0.length:=Nat.le_antisymm hk (gY c)
   clear c
   conv=>whnf
   exact aC.mk ⟨rfl,rfl⟩ ⟨rfl,rfl⟩ ⟨Bz (by show n.f2.map (pz p)++fJ p (n.f0.take k) (n.f1.take k)=_;rw [hk2,List.take_length,hl,List.take_length]),trivial⟩
theorem BF:∀(n:SN) (p:List ByteArray) (d:Nat),Bd n→Tr n→Dp d n→p.length+d≤7→(∀x∈p,x.size≤1048576)→(je p n).length≤4194304→aH T Tryz.prog 178 [.ag (T.cells eN n), .c (.sc (.string (dH p))), .c (.sc (.int .i64 (p.length:Int)))] (.c (.ow eE (je p n))):=fun n p d hn ht hd hp hz hc=>
 FT n p hn ht.len (by omega) hz hc (fun i hi=>by
  have hm:bV T eN n.f1 i∈n.f1:=VX hi
  have h9:g9 n.f0 i∈n.f0:=Oe (by rw [ht.len];exact hi)
  have hpos:=hd.pos (fun e=>by rw [e] at hi;simp at hi)
  have hx:(bV T eN n.f1 i:SN)∈n.f1:=hm
  have hlen:(p++[g9 n.f0 i]).length=p.length+1:=by rw [List.length_append];rfl
  have:=BF (bV T eN n.f1 i) (p++[g9 n.f0 i]) (d - 1) (hn.kid _ hm) (ht.kid _ hm) (hd.kid _ hm) (by rw [hlen];omega) (fun y hy=>(List.mem_append.1 hy).elim (hz y) (fun h=>by rw [List.mem_singleton.1 h];exact hn.z0 _ h9)) (Nat.le_trans (Ls hi ht.len) hc)
  rw [hlen] at this
  exact this)
termination_by n=>SizeOf.sizeOf n
decreasing_by exact qX hm
theorem specEntries (n:SN) (hn:Bd n) (hg:jV n=true→Tr n∧Dp 7 n) (hc:(lu n).length≤4194304):aH T Tryz.prog 107 [.ag (T.cells eN n)] (.c (.ow eE (lu n))):=by
 refine aI hT Tryz.func107 (by kernel_rfl) rfl rfl (fun A=>?_)
 conv=>whnf
 refine aG.mk _ (Ib n hn) ?_
 conv=>whnf
 refine Split.mk (fun c=>?_) (fun c=>?_)
 ·have h0:jV n=false:=dA c
  conv=>whnf
  exact aC.mk ⟨rfl,rfl⟩ ⟨rfl,rfl⟩ ⟨Bz (show []=lu n by unfold lu;rw [h0];rfl),trivial⟩
 ·have h0:jV n=true:=dM c
  have he:lu n=je [] n:=by unfold lu;rw [if_pos h0]
  rw [he] at hc⊢
  conv=>whnf
  refine aG.mk _ (BF n [] 7 hn (hg h0).1 (hg h0).2 (by decide) (fun x hx=>by cases hx) hc) ?_
  conv=>whnf
  exact aC.mk ⟨rfl,rfl⟩ ⟨rfl,rfl⟩ ⟨rfl,trivial⟩
end Go.Proofs.YtcnfgfomholheaaGreatDoor.Q
end
section
namespace Go.Proofs.YtcnfgfomholheaaGreatDoor.Q
open Go.RowKit Go.Proofs.YtcnfgfomholheaaGreatDoor.Z Go.Proofs.YtcnfgfomholheaaGreatDoor.X Go.Proofs.YtcnfgfomholheaaGreatDoor.Pure
set_option linter.unusedVariables false
set_option linter.unusedSimpArgs false
end Go.Proofs.YtcnfgfomholheaaGreatDoor.Q
end
section
namespace Go.Proofs.YtcnfgfomholheaaGreatDoor.Q
open Go.RowKit Go.Proofs.YtcnfgfomholheaaGreatDoor.Z Go.Proofs.YtcnfgfomholheaaGreatDoor.X Go.Proofs.YtcnfgfomholheaaGreatDoor.Pure
set_option linter.unusedVariables false
set_option linter.unusedSimpArgs false
inductive Tx:SN→Prop
 | mk (n:SN) (z0:∀x∈n.f0,ByteArray.size x≤1048576) (z2:∀x∈n.f2,(x:SS).f0.size≤1048576) (hk:∀k∈n.f1,Tx k):Tx n
theorem Tx.z0 {n:SN} (h:Tx n):∀x∈n.f0,ByteArray.size x≤1048576:=by cases h;assumption
theorem Tx.z2 {n:SN} (h:Tx n):∀x∈n.f2,(x:SS).f0.size≤1048576:=by cases h;assumption
theorem Tx.kid {n:SN} (h:Tx n):∀k∈n.f1,Tx k:=by cases h;assumption
end Go.Proofs.YtcnfgfomholheaaGreatDoor.Q
end
section
namespace Go.Proofs.YtcnfgfomholheaaGreatDoor.Q
open Go.RowKit Go.Proofs.YtcnfgfomholheaaGreatDoor.Z Go.Proofs.YtcnfgfomholheaaGreatDoor.X Go.Proofs.YtcnfgfomholheaaGreatDoor.Pure
set_option linter.unusedVariables false
set_option linter.unusedSimpArgs false
set_option maxRecDepth 100000
set_option maxHeartbeats 4000000
end Go.Proofs.YtcnfgfomholheaaGreatDoor.Q
end
section
namespace Go.Proofs.YtcnfgfomholheaaGreatDoor.Q
open Go.RowKit Go.Proofs.YtcnfgfomholheaaGreatDoor.Z Go.Proofs.YtcnfgfomholheaaGreatDoor.X Go.Proofs.YtcnfgfomholheaaGreatDoor.Pure
set_option linter.unusedVariables false
set_option linter.unusedSimpArgs false
set_option maxRecDepth 100000
set_option maxHeartbeats 4000000
end Go.Proofs.YtcnfgfomholheaaGreatDoor.Q
end
section
namespace Go.Proofs.YtcnfgfomholheaaGreatDoor.Q
open Go.RowKit Go.Proofs.YtcnfgfomholheaaGreatDoor.Z Go.Proofs.YtcnfgfomholheaaGreatDoor.X Go.Proofs.YtcnfgfomholheaaGreatDoor.Pure
set_option linter.unusedVariables false
set_option linter.unusedSimpArgs false
set_option maxRecDepth 100000
set_option maxHeartbeats 4000000
end Go.Proofs.YtcnfgfomholheaaGreatDoor.Q
end
section
namespace Go.Proofs.YtcnfgfomholheaaGreatDoor.Q
open Go.RowKit Go.Proofs.YtcnfgfomholheaaGreatDoor.Z Go.Proofs.YtcnfgfomholheaaGreatDoor.X Go.Proofs.YtcnfgfomholheaaGreatDoor.Pure
set_option linter.unusedVariables false
set_option linter.unusedSimpArgs false
set_option maxRecDepth 100000
set_option maxHeartbeats 4000000
end Go.Proofs.YtcnfgfomholheaaGreatDoor.Q
end
section
namespace Go.Proofs.YtcnfgfomholheaaGreatDoor.Q
open Go.RowKit Go.Proofs.YtcnfgfomholheaaGreatDoor.Z Go.Proofs.YtcnfgfomholheaaGreatDoor.Pure
set_option linter.unusedVariables false
set_option linter.unusedSimpArgs false
set_option maxRecDepth 100000
set_option maxHeartbeats 4000000
theorem flat5:vT T 5:=fun _=>rfl
abbrev gK (l:List SK) (i:Nat):SK:=bV T eK l i
theorem ad9 (k:SK):(⟨k.f0,k.f1,k.f2⟩:SK)=k:=by cases k;rfl
theorem aaB {l:List (List Int)} {M:Nat} (h:∀x∈l,x.length≤M):l.flatten.length≤l.length*M:=by
 induction l with
 | nil=>simp
 | cons x l ih=>
   have:=h x List.mem_cons_self
   have:=ih (fun y hy=>h y (List.mem_cons_of_mem _ hy))
   simp only [List.flatten_cons,List.length_append,List.length_cons,Nat.succ_mul]
   omega
theorem V7 {l:List (List Int)} {k:Nat} (hk:k<l.length):(l.take k).flatten++l.getD k []=(l.take (k+1)).flatten:=by
 rw [List.take_succ_eq_append_getElem hk]
 have:l.getD k []=l[k]:=by simp [hk]
 rw [this,List.flatten_append];simp
theorem ap_ {m n:Nat} (h:m+n≤100000000000):m+n≤maxLen∧(m+n)*1≤140737488355328:=by simp only [maxLen];omega
theorem joined (ps:List (List Int)) (hn:ps.length≤16) (hs:∀x∈ps,x.length≤4194304):aH T Tryz.prog 169 [.c (.sl 68 ps)] (.c (.ow 5 ps.flatten)):=by
 refine aI hT Tryz.func169 (by kernel_rfl) rfl rfl (fun A=>?_)
 conv=>whnf
 refine dU.mk {k:Nat // k≤ps.length} (fun p=>(2,[(9,i64 p.1),(8,i64 ps.length),(7,im 68 ps),(3, .c (.hd 0))],[(0, .row 1 5 (ps.take p.1).flatten)])) (fun p=>ps.length - p.1) ⟨0,Nat.zero_le _⟩ (ay [(0,0)] rfl rfl rfl ⟨⟨rfl,rfl⟩,⟨rfl,rfl⟩,⟨rfl,rfl⟩,⟨rfl,rfl⟩,trivial⟩ ⟨show bW (T:=T) 5 [] 5 (ps.take 0).flatten from fE rfl,trivial⟩) ?_
 rintro⟨k,hk⟩
 conv=>whnf
 refine Split.mk (fun c=>?_) (fun c=>?_)
 ·have hk2:k<ps.length:=gX c
  clear c
  have hm:(ps.getD k []).length≤4194304:=hs _ (getD_mem (d:=[]) hk2)
  have hf:(ps.take k).flatten.length≤67108864:=by
   have h1:=aaB (l:=ps.take k) (M:=4194304) (fun x hx=>hs x (List.mem_of_mem_take hx))
   have h2:(ps.take k).length≤16:=by rw [List.length_take];omega
   have h3:=Nat.mul_le_mul_right 4194304 h2
   omega
  conv=>whnf
  refine Need.mk (idx hk2) ?_
  conv=>whnf
  refine Need.mk ⟨flat5,ap_ (show(ps.take k).flatten.length+(ps.getD k []).length≤100000000000 by omega)⟩ ?_
  conv=>whnf
  exact bM.mk ⟨⟨k+1,hk2⟩,Nat.sub_lt_sub_left hk2 (Nat.lt_succ_self k),ay [(0,2)] rfl rfl rfl ⟨⟨rfl,congrArg i64 (eu hk2 (by omega))⟩,⟨rfl,rfl⟩,⟨rfl,rfl⟩,⟨rfl,rfl⟩,trivial⟩ ⟨show bW (T:=T) 5 ((ps.take k).flatten++ps.getD k []) 5 (ps.take (k+1)).flatten from fE (V7 hk2),trivial⟩⟩
 ·have hk2:k=ps.length:=Nat.le_antisymm hk (gY c)
  clear c
  conv=>whnf
  subst hk2
  exact aC.mk ⟨rfl,rfl⟩ ⟨rfl,rfl⟩ ⟨show bW (T:=T) 5 (ps.take ps.length).flatten 5 ps.flatten from fE (by rw [List.take_length]),trivial⟩
theorem all1 {M:Nat} {b:List Int} (h:b.length≤M):∀x∈[b],x.length≤M:=by intro x hx;simp at hx;subst hx;exact h
theorem aaC (b:List Int) (hs:b.length≤4194304):aH T Tryz.prog 169 [.c (.sl 68 ([b]:List (List Int)))] (.c (.ow 5 b)):=by
 have h:=joined [b] (by simp) (all1 hs)
 rwa [show([b]:List (List Int)).flatten=b by simp] at h
theorem ZT {l:List SK} {k:Nat} (h:k<l.length):l.take k++[(⟨(gK l k).f0,(gK l k).f1,(gK l k).f2⟩:SK)]=l.take (k+1):=by
 rw [ad9,show gK l k=l[k] from getD_in (α:=SK) l k (T.df eK) h,List.take_succ_eq_append_getElem h]
theorem yV {l:List SK} {i:Nat} (h:i<l.length):gK l i∈l:=getD_mem (l:=l) (d:=T.df eK) h
theorem Om (l:List SK) (hl:l.length≤2097152) (hb:∀y∈l,(y:SK).f1.length≤2097152):aH T Tryz.prog 165 [.c (.sl eK l)] (.c (.ow eK l)):=by
 refine aI hT Tryz.func165 (by kernel_rfl) rfl rfl (fun A=>?_)
 conv=>whnf
 refine dU.mk {k:Nat // k≤l.length} (fun p=>(3,[(9,i64 p.1),(8,i64 l.length),(7,im eK l),(3, .c (.hd 0))],[(0, .row 1 eK (l.take p.1))])) (fun p=>l.length - p.1) ⟨0,Nat.zero_le _⟩ (ay [(0,0)] rfl rfl rfl ⟨⟨rfl,rfl⟩,⟨rfl,rfl⟩,⟨rfl,rfl⟩,⟨rfl,rfl⟩,trivial⟩ ⟨dS rfl,trivial⟩) ?_
 rintro⟨k,hk⟩
 conv=>whnf
 refine Split.mk (fun c=>?_) (fun c=>?_)
 ·have hk2:k<l.length:=gX c
  clear c
  have h1:=hb _ (yV hk2)
  conv=>whnf
  refine Need.mk (idx hk2) ?_
  conv=>whnf
  refine aG.mk _ (aaC (gK l k).f1 (by omega)) ?_
  conv=>whnf
  refine Need.mk (fA (a:=(l.take k).length) (b:=1) (by rw [List.length_take];omega) (by decide)) ?_
  conv=>whnf
  refine bZ.mk ⟨by kernel_rfl,by kernel_rfl⟩ ?_
  conv=>whnf
  exact bM.mk ⟨⟨k+1,hk2⟩,Nat.sub_lt_sub_left hk2 (Nat.lt_succ_self k),ay [(0,6)] rfl rfl rfl ⟨⟨rfl,congrArg i64 (eu hk2 (by omega))⟩,⟨rfl,rfl⟩,⟨rfl,rfl⟩,⟨rfl,rfl⟩,trivial⟩ ⟨dS (ZT hk2),trivial⟩⟩
 ·have hk2:k=l.length:=Nat.le_antisymm hk (gY c)
  clear c
  conv=>whnf
  subst hk2
  exact aC.mk ⟨rfl,rfl⟩ ⟨rfl,rfl⟩ ⟨dS (List.take_length),trivial⟩
theorem Oo (l:List SK) (hl:l.length≤2097152) (hb:∀y∈l,(y:SK).f1.length≤2097152):aH T Tryz.prog 187 [.c (.sl eK l)] (.c (.ow eK l)):=by
 refine aI hT Tryz.func187 (by kernel_rfl) rfl rfl (fun A=>?_)
 conv=>whnf
 refine dU.mk {k:Nat // k≤l.length} (fun p=>(3,[(4,i64 p.1),(0,im eK l),(3, .c (.hd 0))],[(0, .row 1 eK (l.take p.1))])) (fun p=>l.length - p.1) ⟨0,Nat.zero_le _⟩ (ay [(0,0)] rfl rfl rfl ⟨⟨rfl,rfl⟩,⟨rfl,rfl⟩,⟨rfl,rfl⟩,trivial⟩ ⟨dS rfl,trivial⟩) ?_
 rintro⟨k,hk⟩
 conv=>whnf
 refine Split.mk (fun c=>?_) (fun c=>?_)
 ·have hk2:k<l.length:=gX c
  clear c
  have h1:=hb _ (yV hk2)
  conv=>whnf
  refine Need.mk (idx hk2) ?_
  conv=>whnf
  refine Need.mk (idx hk2) ?_
  conv=>whnf
  refine Need.mk ⟨flat5,fA (a:=0) (b:=(gK l k).f1.length) (by omega) (by decide)⟩ ?_
  conv=>whnf
  refine Need.mk (idx hk2) ?_
  conv=>whnf
  refine Need.mk (fA (a:=(l.take k).length) (b:=1) (by rw [List.length_take];omega) (by decide)) ?_
  conv=>whnf
  refine bZ.mk ⟨by kernel_rfl,by kernel_rfl⟩ ?_
  conv=>whnf
  exact bM.mk ⟨⟨k+1,hk2⟩,Nat.sub_lt_sub_left hk2 (Nat.lt_succ_self k),ay [(0,6)] rfl rfl rfl ⟨⟨rfl,congrArg i64 (eu hk2 (by omega))⟩,⟨rfl,rfl⟩,⟨rfl,rfl⟩,trivial⟩ ⟨dS (ZT hk2),trivial⟩⟩
 ·have hk2:k=l.length:=Nat.le_antisymm hk (gY c)
  clear c
  conv=>whnf
  subst hk2
  exact aC.mk ⟨rfl,rfl⟩ ⟨rfl,rfl⟩ ⟨dS (List.take_length),trivial⟩
def qK (l:List SK) (i:Nat):Bool:=nG (gK l i).f0 && ((decide (1≤((gK l i).f1.length:Int)) && decide (((gK l i).f1.length:Int)≤40)) && ((decide (0≤(gK l i).f2) && decide ((gK l i).f2≤2)) && !(decide (0<i) && !(Op.bytesLess (gK l (i - 1)).f0.toList (gK l i).f0.toList))))
def qZ (l:List SK):Bool:=(List.range l.length).all (qK l) && decide ((l.length:Int)≤8)
theorem oz {l:List SK} {i:Nat} (h:i<l.length) (h2:qK l i=false):qZ l=false:=by
 unfold qZ
 rw [List.all_eq_false.2 ⟨i,List.mem_range.2 h,by rw [h2];simp⟩];rfl
theorem LH {l:List SK} (h:∀i,i<l.length→qK l i=true):qZ l=decide ((l.length:Int)≤8):=by
 unfold qZ
 rw [List.all_eq_true.2 (fun i hi=>h i (List.mem_range.1 hi)),Bool.true_and]
theorem zT {l:List SK} {k:Nat} (h:∀i,i<k→qK l i=true) (h2:qK l k=true):∀i,i<k+1→qK l i=true:=fun i hi=>by
 rcases Nat.lt_or_ge i k with h3 | h3
 ·exact h i h3
 ·have:i=k:=by omega
  subst this;exact h2
theorem TG (l:List SK) (hl:l.length≤2097152) (hb:∀y∈l,(y:SK).f0.size≤1048576):aH T Tryz.prog 162 [.c (.sl eK l)] (.c (.sc (.bool (qZ l)))):=by
 refine aI hT Tryz.func162 (by kernel_rfl) rfl rfl (fun A=>?_)
 conv=>whnf
 refine dU.mk {k:Nat // k≤l.length∧∀i,i<k→qK l i=true} (fun p=>(0,[(7,i64 p.1),(6,i64 l.length),(5,im eK l),(0,im eK l)],[])) (fun p=>l.length - p.1) ⟨0,Nat.zero_le _,fun i hi=>absurd hi (Nat.not_lt_zero i)⟩ (ay [] rfl rfl rfl ⟨⟨rfl,rfl⟩,⟨rfl,rfl⟩,⟨rfl,rfl⟩,⟨rfl,rfl⟩,trivial⟩ trivial) ?_
 rintro⟨k,hk,hok⟩
 conv=>whnf
 refine Split.mk (fun c=>?_) (fun c=>?_)
 ·have hk2:k<l.length:=gX c
  clear c
  have h1:=hb _ (yV hk2)
  conv=>whnf
  refine Need.mk (idx hk2) ?_
  conv=>whnf
  refine aG.mk _ (QG (gK l k).f0 (Nat.le_trans h1 (by decide))) ?_
  conv=>whnf
  refine Split.mk (fun c=>?_) (fun c=>?_)
  ·have c1:nG (gK l k).f0=false:=dA c
   conv=>whnf
   repeat (first | (refine Split.mk (fun _=>?_) (fun e=>jO e);conv=>whnf) | (refine bZ.mk ⟨by kernel_rfl,by kernel_rfl⟩ ?_;conv=>whnf))
   exact aC.mk ⟨rfl,rfl⟩ ⟨rfl,rfl⟩ ⟨bv (oz hk2 (by unfold qK;rw [c1];rfl)),trivial⟩
  have c1:nG (gK l k).f0=true:=dM c
  clear c
  conv=>whnf
  refine aG.mk _ (zU ((gK l k).f1.length:Int) 1 40) ?_
  conv=>whnf
  refine Split.mk (fun c=>?_) (fun c=>?_)
  ·have c2:=dA c
   conv=>whnf
   repeat (first | (refine Split.mk (fun _=>?_) (fun e=>jO e);conv=>whnf) | (refine bZ.mk ⟨by kernel_rfl,by kernel_rfl⟩ ?_;conv=>whnf))
   exact aC.mk ⟨rfl,rfl⟩ ⟨rfl,rfl⟩ ⟨bv (oz hk2 (by unfold qK;rw [c1,c2];rfl)),trivial⟩
  have c2:=dM c
  clear c
  conv=>whnf
  refine aG.mk _ (LJ (gK l k).f2) ?_
  conv=>whnf
  refine Split.mk (fun c=>?_) (fun c=>?_)
  ·have c3:=dA c
   conv=>whnf
   repeat (first | (refine Split.mk (fun _=>?_) (fun e=>jO e);conv=>whnf) | (refine bZ.mk ⟨by kernel_rfl,by kernel_rfl⟩ ?_;conv=>whnf))
   exact aC.mk ⟨rfl,rfl⟩ ⟨rfl,rfl⟩ ⟨bv (oz hk2 (by unfold qK;rw [c1,c2,c3];rfl)),trivial⟩
  have c3:=dM c
  clear c
  conv=>whnf
  refine Split.mk (fun c=>?_) (fun c=>?_)
  ·have c4:0<k:=lQ c
   clear c
   have hpr:=Ei c4 (by omega)
   have hpt:(wrap64 ((k:Int) - 1)).toNat=k - 1:=by rw [hpr];rfl
   conv=>whnf
   refine Need.mk (by rw [hpr];exact idx (show k - 1<l.length by omega)) ?_
   conv=>whnf
   refine bZ.mk ⟨by kernel_rfl,by kernel_rfl⟩ ?_
   conv=>whnf
   refine Split.mk (fun c=>?_) (fun c=>?_)
   ·have c5:Op.bytesLess (gK l (k - 1)).f0.toList (gK l k).f0.toList=false:=(congrArg (fun j=>Op.bytesLess (gK l j).f0.toList (gK l k).f0.toList) hpt.symm).trans (dA c)
    conv=>whnf
    exact aC.mk ⟨rfl,rfl⟩ ⟨rfl,rfl⟩ ⟨bv (oz hk2 (by unfold qK;rw [c1,c2,c3,c5,decide_eq_true c4];rfl)),trivial⟩
   ·have c5:Op.bytesLess (gK l (k - 1)).f0.toList (gK l k).f0.toList=true:=(congrArg (fun j=>Op.bytesLess (gK l j).f0.toList (gK l k).f0.toList) hpt.symm).trans (dM c)
    conv=>whnf
    exact bM.mk ⟨⟨k+1,hk2,zT hok (by unfold qK;rw [c1,c2,c3,c5];simp)⟩,Nat.sub_lt_sub_left hk2 (Nat.lt_succ_self k),ay [] rfl rfl rfl ⟨⟨rfl,congrArg i64 (eu hk2 (by omega))⟩,⟨rfl,rfl⟩,⟨rfl,rfl⟩,⟨rfl,rfl⟩,trivial⟩ trivial⟩
  ·have c4:k=0:=lS c
   clear c
   subst c4
   conv=>whnf
   refine bZ.mk ⟨by kernel_rfl,by kernel_rfl⟩ ?_
   conv=>whnf
   refine Split.mk (fun e=>kW e) (fun _=>?_)
   conv=>whnf
   exact bM.mk ⟨⟨0+1,hk2,zT hok (by unfold qK;rw [c1,c2,c3];rfl)⟩,Nat.sub_lt_sub_left hk2 (Nat.lt_succ_self 0),ay [] rfl rfl rfl ⟨⟨rfl,congrArg i64 (eu hk2 (by omega))⟩,⟨rfl,rfl⟩,⟨rfl,rfl⟩,⟨rfl,rfl⟩,trivial⟩ trivial⟩
 ·have hk2:k=l.length:=Nat.le_antisymm hk (gY c)
  clear c
  conv=>whnf
  subst hk2
  exact aC.mk ⟨rfl,rfl⟩ ⟨rfl,rfl⟩ ⟨bv (LH hok),trivial⟩
theorem TJ (l:List SK) (hl:l.length≤2097152) (hb:∀y∈l,(y:SK).f0.size≤1048576):aH T Tryz.prog 160 [.c (.sl eK l)] (.c (.sc (.bool (qZ l)))):=by
 refine aI hT Tryz.func160 (by kernel_rfl) rfl rfl (fun A=>?_)
 conv=>whnf
 refine dU.mk {k:Nat // k≤l.length∧∀i,i<k→qK l i=true} (fun p=>(0,[(3,i64 p.1),(0,im eK l)],[])) (fun p=>l.length - p.1) ⟨0,Nat.zero_le _,fun i hi=>absurd hi (Nat.not_lt_zero i)⟩ (ay [] rfl rfl rfl ⟨⟨rfl,rfl⟩,⟨rfl,rfl⟩,trivial⟩ trivial) ?_
 rintro⟨k,hk,hok⟩
 conv=>whnf
 refine Split.mk (fun c=>?_) (fun c=>?_)
 ·have hk2:k<l.length:=gX c
  clear c
  have h1:=hb _ (yV hk2)
  conv=>whnf
  refine Need.mk (idx hk2) ?_
  conv=>whnf
  refine aG.mk _ (QH (gK l k).f0 (Nat.le_trans h1 (by decide))) ?_
  conv=>whnf
  refine Split.mk (fun c=>?_) (fun c=>?_)
  ·have c1:nG (gK l k).f0=false:=dA c
   conv=>whnf
   repeat (first | (refine Split.mk (fun _=>?_) (fun e=>jO e);conv=>whnf) | (refine bZ.mk ⟨by kernel_rfl,by kernel_rfl⟩ ?_;conv=>whnf))
   exact aC.mk ⟨rfl,rfl⟩ ⟨rfl,rfl⟩ ⟨bv (oz hk2 (by unfold qK;rw [c1];rfl)),trivial⟩
  have c1:nG (gK l k).f0=true:=dM c
  clear c
  conv=>whnf
  refine Need.mk (idx hk2) ?_
  conv=>whnf
  refine aG.mk _ (Ic ((gK l k).f1.length:Int) 1 40) ?_
  conv=>whnf
  refine Split.mk (fun c=>?_) (fun c=>?_)
  ·have c2:=dA c
   conv=>whnf
   repeat (first | (refine Split.mk (fun _=>?_) (fun e=>jO e);conv=>whnf) | (refine bZ.mk ⟨by kernel_rfl,by kernel_rfl⟩ ?_;conv=>whnf))
   exact aC.mk ⟨rfl,rfl⟩ ⟨rfl,rfl⟩ ⟨bv (oz hk2 (by unfold qK;rw [c1,c2];rfl)),trivial⟩
  have c2:=dM c
  clear c
  conv=>whnf
  refine Need.mk (idx hk2) ?_
  conv=>whnf
  refine aG.mk _ (Ic (gK l k).f2 0 2) ?_
  conv=>whnf
  refine Split.mk (fun c=>?_) (fun c=>?_)
  ·have c3:=dA c
   conv=>whnf
   repeat (first | (refine Split.mk (fun _=>?_) (fun e=>jO e);conv=>whnf) | (refine bZ.mk ⟨by kernel_rfl,by kernel_rfl⟩ ?_;conv=>whnf))
   exact aC.mk ⟨rfl,rfl⟩ ⟨rfl,rfl⟩ ⟨bv (oz hk2 (by unfold qK;rw [c1,c2,c3];rfl)),trivial⟩
  have c3:=dM c
  clear c
  conv=>whnf
  refine Split.mk (fun c=>?_) (fun c=>?_)
  ·have c4:0<k:=lQ c
   clear c
   have hpr:=Ei c4 (by omega)
   have hpt:(wrap64 ((k:Int) - 1)).toNat=k - 1:=by rw [hpr];rfl
   conv=>whnf
   refine Need.mk (by rw [hpr];exact idx (show k - 1<l.length by omega)) ?_
   conv=>whnf
   refine Need.mk (idx hk2) ?_
   conv=>whnf
   refine bZ.mk ⟨by kernel_rfl,by kernel_rfl⟩ ?_
   conv=>whnf
   refine Split.mk (fun c=>?_) (fun c=>?_)
   ·have c5:Op.bytesLess (gK l (k - 1)).f0.toList (gK l k).f0.toList=false:=(congrArg (fun j=>Op.bytesLess (gK l j).f0.toList (gK l k).f0.toList) hpt.symm).trans (dA c)
    conv=>whnf
    exact aC.mk ⟨rfl,rfl⟩ ⟨rfl,rfl⟩ ⟨bv (oz hk2 (by unfold qK;rw [c1,c2,c3,c5,decide_eq_true c4];rfl)),trivial⟩
   ·have c5:Op.bytesLess (gK l (k - 1)).f0.toList (gK l k).f0.toList=true:=(congrArg (fun j=>Op.bytesLess (gK l j).f0.toList (gK l k).f0.toList) hpt.symm).trans (dM c)
    conv=>whnf
    exact bM.mk ⟨⟨k+1,hk2,zT hok (by unfold qK;rw [c1,c2,c3,c5];simp)⟩,Nat.sub_lt_sub_left hk2 (Nat.lt_succ_self k),ay [] rfl rfl rfl ⟨⟨rfl,congrArg i64 (eu hk2 (by omega))⟩,⟨rfl,rfl⟩,trivial⟩ trivial⟩
  ·have c4:k=0:=lS c
   clear c
   subst c4
   conv=>whnf
   refine bZ.mk ⟨by kernel_rfl,by kernel_rfl⟩ ?_
   conv=>whnf
   refine Split.mk (fun e=>kW e) (fun _=>?_)
   conv=>whnf
   exact bM.mk ⟨⟨0+1,hk2,zT hok (by unfold qK;rw [c1,c2,c3];rfl)⟩,Nat.sub_lt_sub_left hk2 (Nat.lt_succ_self 0),ay [] rfl rfl rfl ⟨⟨rfl,congrArg i64 (eu hk2 (by omega))⟩,⟨rfl,rfl⟩,trivial⟩ trivial⟩
 ·have hk2:k=l.length:=Nat.le_antisymm hk (gY c)
  clear c
  conv=>whnf
  subst hk2
  exact aC.mk ⟨rfl,rfl⟩ ⟨rfl,rfl⟩ ⟨bv (LH hok),trivial⟩
end Go.Proofs.YtcnfgfomholheaaGreatDoor.Q
end
section
namespace Go.Proofs.YtcnfgfomholheaaGreatDoor.Q
open Go.RowKit Go.Proofs.YtcnfgfomholheaaGreatDoor.Z Go.Proofs.YtcnfgfomholheaaGreatDoor.Pure
set_option linter.unusedVariables false
set_option linter.unusedSimpArgs false
set_option maxRecDepth 100000
set_option maxHeartbeats 4000000
theorem ac7 {n:Nat} (h:decide ((n:Int)>1048576)=false):n≤1048576:=by simp at h;omega
end Go.Proofs.YtcnfgfomholheaaGreatDoor.Q
end
section
namespace Go.Proofs.YtcnfgfomholheaaGreatDoor.Q
open Go.RowKit Go.Proofs.YtcnfgfomholheaaGreatDoor.Z Go.Proofs.YtcnfgfomholheaaGreatDoor.Pure
set_option linter.unusedVariables false
set_option linter.unusedSimpArgs false
set_option maxRecDepth 100000
set_option maxHeartbeats 4000000
structure GR (r:RT):Prop where
 bd:V5 r
 c:cnt r.t≤2097000
 t:∀y∈r.k,(y:SK).f0.size≤1048576
theorem GR.el {r:RT} (h:GR r):(lu r.t).length≤4194304:=Nat.le_trans (Yy r.t) (by have:=h.c;omega)
def nX (r:RT):Bool:=(decide (0≤r.v) && decide (r.v≤1000000)) && (jV r.t && (decide (((lu r.t).length:Int)≤14) && qZ r.k))
theorem Oq (r:RT):nX r=((decide (0≤r.v) && decide (r.v≤1000000)) && (jV r.t && (decide (((lu r.t).length:Int)≤14) && qZ r.k))):=rfl
theorem TL (r:RT) (h:GR r):aH T Tryz.prog 85 [.ag (cR r)] (.c (.sc (.bool (nX r)))):=by
 have he:=QF r.t h.bd.t Ia h.el
 have hn:=H9 r.t h.bd.t
 have hk:=TG r.k h.bd.k h.t
 have hR:=Oq r
 generalize nX r=R at hR⊢
 replace hR:=hR.symm
 refine aI hT Tryz.func85 (by kernel_rfl) rfl rfl (fun A=>?_)
 conv=>whnf
 refine aG.mk _ (zU _ _ _) ?_
 conv=>whnf
 refine Split.mk (fun c1=>?_) (fun c1=>?_)
 ·replace hR:=eF c1 hR
  clear c1
  conv=>whnf
  refine aG.mk _ hn ?_
  conv=>whnf
  refine Split.mk (fun c1=>?_) (fun c1=>?_)
  ·replace hR:=eF c1 hR
   clear c1
   conv=>whnf
   refine aG.mk _ he ?_
   conv=>whnf
   refine Split.mk (fun c1=>?_) (fun c1=>?_)
   ·replace hR:=eF c1 hR
    clear c1
    conv=>whnf
    refine aG.mk _ hk ?_
    conv=>whnf
    exact aC.mk ⟨rfl,rfl⟩ ⟨rfl,rfl⟩ ⟨bv hR.symm,trivial⟩
   ·conv=>whnf
    repeat (first | (refine Split.mk (fun e=>kW e) (fun _=>?_);conv=>whnf) | (refine bZ.mk ⟨by kernel_rfl,by kernel_rfl⟩ ?_;conv=>whnf))
    exact aC.mk ⟨rfl,rfl⟩ ⟨rfl,rfl⟩ ⟨bv (fK c1 hR),trivial⟩
  ·conv=>whnf
   repeat (first | (refine Split.mk (fun e=>kW e) (fun _=>?_);conv=>whnf) | (refine bZ.mk ⟨by kernel_rfl,by kernel_rfl⟩ ?_;conv=>whnf))
   exact aC.mk ⟨rfl,rfl⟩ ⟨rfl,rfl⟩ ⟨bv (fK c1 hR),trivial⟩
 ·conv=>whnf
  repeat (first | (refine Split.mk (fun e=>kW e) (fun _=>?_);conv=>whnf) | (refine bZ.mk ⟨by kernel_rfl,by kernel_rfl⟩ ?_;conv=>whnf))
  exact aC.mk ⟨rfl,rfl⟩ ⟨rfl,rfl⟩ ⟨bv (fK c1 hR),trivial⟩
theorem TM (r:RT) (h:GR r):aH T Tryz.prog 84 [.ag (cR r)] (.c (.sc (.bool (nX r)))):=by
 have he:=specEntries r.t h.bd.t Ia h.el
 have hn:=Ib r.t h.bd.t
 have hk:=TJ r.k h.bd.k h.t
 have hR:=Oq r
 generalize nX r=R at hR⊢
 replace hR:=hR.symm
 refine aI hT Tryz.func84 (by kernel_rfl) rfl rfl (fun A=>?_)
 conv=>whnf
 refine aG.mk _ (Ic _ _ _) ?_
 conv=>whnf
 refine Split.mk (fun c1=>?_) (fun c1=>?_)
 ·replace hR:=eF c1 hR
  clear c1
  conv=>whnf
  refine aG.mk _ hn ?_
  conv=>whnf
  refine Split.mk (fun c1=>?_) (fun c1=>?_)
  ·replace hR:=eF c1 hR
   clear c1
   conv=>whnf
   refine aG.mk _ he ?_
   conv=>whnf
   refine Split.mk (fun c1=>?_) (fun c1=>?_)
   ·replace hR:=eF c1 hR
    clear c1
    conv=>whnf
    refine aG.mk _ hk ?_
    conv=>whnf
    exact aC.mk ⟨rfl,rfl⟩ ⟨rfl,rfl⟩ ⟨bv hR.symm,trivial⟩
   ·conv=>whnf
    repeat (first | (refine Split.mk (fun e=>kW e) (fun _=>?_);conv=>whnf) | (refine bZ.mk ⟨by kernel_rfl,by kernel_rfl⟩ ?_;conv=>whnf))
    exact aC.mk ⟨rfl,rfl⟩ ⟨rfl,rfl⟩ ⟨bv (fK c1 hR),trivial⟩
  ·conv=>whnf
   repeat (first | (refine Split.mk (fun e=>kW e) (fun _=>?_);conv=>whnf) | (refine bZ.mk ⟨by kernel_rfl,by kernel_rfl⟩ ?_;conv=>whnf))
   exact aC.mk ⟨rfl,rfl⟩ ⟨rfl,rfl⟩ ⟨bv (fK c1 hR),trivial⟩
 ·conv=>whnf
  repeat (first | (refine Split.mk (fun e=>kW e) (fun _=>?_);conv=>whnf) | (refine bZ.mk ⟨by kernel_rfl,by kernel_rfl⟩ ?_;conv=>whnf))
  exact aC.mk ⟨rfl,rfl⟩ ⟨rfl,rfl⟩ ⟨bv (fK c1 hR),trivial⟩
theorem GR.of {r:RT} (hB:Bd r.t) (hc:cnt r.t≤2097000) (hk:BK r.k):GR r:=⟨hk.bdr hB,hc,hk.t⟩
theorem V8 (r:RT) (h:BK r.k) (hc:cnt r.t≤2097152):(nV r 1).2≤2305843009213693952:=by
 have h1:=JV r.t 1
 have h2:=zQ r.k (dI r.t 1).2 1048576 h.b
 have h3:(2+1048576)*r.k.length≤(2+1048576)*1048576:=Nat.mul_le_mul_left _ h.k
 show(bP (β:=SK) dV r.k (dI r.t 1).2).2≤_
 omega
theorem RG (r:RT):0<(nV r 1).2:=by
 have g1:=uw r.t 1
 have g2:(dI r.t 1).2≤(nV r 1).2:=kJ vS r.k (dI r.t 1).2
 omega
end Go.Proofs.YtcnfgfomholheaaGreatDoor.Q
end
section
namespace Go.Proofs.YtcnfgfomholheaaGreatDoor.Q
open Go.RowKit Go.Proofs.YtcnfgfomholheaaGreatDoor.Z Go.Proofs.YtcnfgfomholheaaGreatDoor.Pure
set_option linter.unusedVariables false
set_option linter.unusedSimpArgs false
set_option maxRecDepth 100000
set_option maxHeartbeats 4000000
def kK (f:ByteArray) (l:List SK):List SK:=l.filter fun k=>lX f k.f0
theorem ql (f:ByteArray) (l:List SK):(kK f l).length≤l.length:=List.length_filter_le _ _
theorem FU {f:ByteArray} {l:List SK} {y:SK} (h:y∈kK f l):y∈l:=(List.mem_filter.1 h).1
theorem LM {f:ByteArray} {l:List SK} {k:Nat} (h:k<l.length):kK f (l.take (k+1))=kK f (l.take k)++bif lX f (gK l k).f0 then [gK l k] else []:=by
 unfold kK
 rw [List.take_succ_eq_append_getElem h,List.filter_append,show gK l k=l[k] from getD_in (α:=SK) l k (T.df eK) h,List.filter_cons]
 cases lX f l[k].f0<;>rfl
theorem QI (l:List SK) (f:ByteArray) (hl:l.length≤2097152) (hb:∀y∈l,(y:SK).f1.length≤2097152) (hz:∀y∈l,(y:SK).f0.size≤1048576) (hf:f.size≤1048576):aH T Tryz.prog 131 [.c (.sl eK l), .c (.sc (.string f))] (.c (.ow eK (kK f l))):=by
 have hcp:=Om (kK f l) (Nat.le_trans (ql f l) hl) (fun y hy=>hb y (FU hy))
 refine aI hT Tryz.func131 (by kernel_rfl) rfl rfl (fun A=>?_)
 conv=>whnf
 refine dU.mk {k:Nat // k≤l.length} (fun p=>(3,[(11,i64 p.1),(10,i64 l.length),(9,im eK l),(5, .c (.hd 0)),(1, .c (.sc (.string f)))],[(0, .sh 1 eK (kK f (l.take p.1)))])) (fun p=>l.length - p.1) ⟨0,Nat.zero_le _⟩ (ay [(0,0)] rfl rfl rfl ⟨⟨rfl,rfl⟩,⟨rfl,rfl⟩,⟨rfl,rfl⟩,⟨rfl,rfl⟩,⟨rfl,rfl⟩,trivial⟩ ⟨dS rfl,trivial⟩) ?_
 rintro⟨k,hk⟩
 conv=>whnf
 refine Split.mk (fun c=>?_) (fun c=>?_)
 ·have hk2:k<l.length:=gX c
  clear c
  have h1:=hz _ (yV hk2)
  have hst:=LM (f:=f) hk2
  have hln:(kK f (l.take k)).length≤k:=Nat.le_trans (ql f _) (by rw [List.length_take];omega)
  conv=>whnf
  refine Need.mk (idx hk2) ?_
  conv=>whnf
  refine aG.mk _ (V9 f (gK l k).f0 (Nat.le_trans hf (by decide)) (Nat.le_trans h1 (by decide))) ?_
  conv=>whnf
  refine Split.mk (fun c=>?_) (fun c=>?_)
  ·rw [show lX f (gK l k).f0=true from c] at hst
   conv=>whnf
   refine Need.mk (fA (a:=(kK f (l.take k)).length) (b:=1) (by omega) (by decide)) ?_
   conv=>whnf
   exact bM.mk ⟨⟨k+1,hk2⟩,Nat.sub_lt_sub_left hk2 (Nat.lt_succ_self k),ay [(0,5)] rfl rfl rfl ⟨⟨rfl,congrArg i64 (eu hk2 (by omega))⟩,⟨rfl,rfl⟩,⟨rfl,rfl⟩,⟨rfl,rfl⟩,⟨rfl,rfl⟩,trivial⟩ ⟨dS hst.symm,trivial⟩⟩
  ·rw [show lX f (gK l k).f0=false from c,cond_false,List.append_nil] at hst
   conv=>whnf
   exact bM.mk ⟨⟨k+1,hk2⟩,Nat.sub_lt_sub_left hk2 (Nat.lt_succ_self k),ay [(0,0)] rfl rfl rfl ⟨⟨rfl,congrArg i64 (eu hk2 (by omega))⟩,⟨rfl,rfl⟩,⟨rfl,rfl⟩,⟨rfl,rfl⟩,⟨rfl,rfl⟩,trivial⟩ ⟨dS hst.symm,trivial⟩⟩
 ·have hk2:k=l.length:=Nat.le_antisymm hk (gY c)
  clear c
  subst hk2
  rw [←show kK f (l.take l.length)=kK f l by rw [List.take_length]] at hcp⊢
  conv=>whnf
  refine aG.mk _ hcp ?_
  conv=>whnf
  exact aC.mk ⟨rfl,rfl⟩ ⟨rfl,rfl⟩ ⟨rfl,trivial⟩
theorem QJ (l:List SK) (f:ByteArray) (hl:l.length≤2097152) (hb:∀y∈l,(y:SK).f1.length≤2097152) (hz:∀y∈l,(y:SK).f0.size≤1048576) (hf:f.size≤1048576):aH T Tryz.prog 130 [.c (.sl eK l), .c (.sc (.string f))] (.c (.ow eK (kK f l))):=by
 have hcp:=Oo (kK f l) (Nat.le_trans (ql f l) hl) (fun y hy=>hb y (FU hy))
 refine aI hT Tryz.func130 (by kernel_rfl) rfl rfl (fun A=>?_)
 conv=>whnf
 refine dU.mk {k:Nat // k≤l.length} (fun p=>(3,[(6,i64 p.1),(0,im eK l),(5, .c (.hd 0)),(1, .c (.sc (.string f)))],[(0, .sh 1 eK (kK f (l.take p.1)))])) (fun p=>l.length - p.1) ⟨0,Nat.zero_le _⟩ (ay [(0,0)] rfl rfl rfl ⟨⟨rfl,rfl⟩,⟨rfl,rfl⟩,⟨rfl,rfl⟩,⟨rfl,rfl⟩,trivial⟩ ⟨dS rfl,trivial⟩) ?_
 rintro⟨k,hk⟩
 conv=>whnf
 refine Split.mk (fun c=>?_) (fun c=>?_)
 ·have hk2:k<l.length:=gX c
  clear c
  have h1:=hz _ (yV hk2)
  have hst:=LM (f:=f) hk2
  have hln:(kK f (l.take k)).length≤k:=Nat.le_trans (ql f _) (by rw [List.length_take];omega)
  conv=>whnf
  refine Need.mk (idx hk2) ?_
  conv=>whnf
  refine aG.mk _ (Wh f (gK l k).f0 (Nat.le_trans hf (by decide)) (Nat.le_trans h1 (by decide))) ?_
  conv=>whnf
  refine Split.mk (fun c=>?_) (fun c=>?_)
  ·rw [show lX f (gK l k).f0=true from c] at hst
   conv=>whnf
   refine Need.mk (idx hk2) ?_
   conv=>whnf
   refine Need.mk (fA (a:=(kK f (l.take k)).length) (b:=1) (by omega) (by decide)) ?_
   conv=>whnf
   exact bM.mk ⟨⟨k+1,hk2⟩,Nat.sub_lt_sub_left hk2 (Nat.lt_succ_self k),ay [(0,4)] rfl rfl rfl ⟨⟨rfl,congrArg i64 (eu hk2 (by omega))⟩,⟨rfl,rfl⟩,⟨rfl,rfl⟩,⟨rfl,rfl⟩,trivial⟩ ⟨dS hst.symm,trivial⟩⟩
  ·rw [show lX f (gK l k).f0=false from c,cond_false,List.append_nil] at hst
   conv=>whnf
   exact bM.mk ⟨⟨k+1,hk2⟩,Nat.sub_lt_sub_left hk2 (Nat.lt_succ_self k),ay [(0,0)] rfl rfl rfl ⟨⟨rfl,congrArg i64 (eu hk2 (by omega))⟩,⟨rfl,rfl⟩,⟨rfl,rfl⟩,⟨rfl,rfl⟩,trivial⟩ ⟨dS hst.symm,trivial⟩⟩
 ·have hk2:k=l.length:=Nat.le_antisymm hk (gY c)
  clear c
  subst hk2
  rw [←show kK f (l.take l.length)=kK f l by rw [List.take_length]] at hcp⊢
  conv=>whnf
  refine aG.mk _ hcp ?_
  conv=>whnf
  exact aC.mk ⟨rfl,rfl⟩ ⟨rfl,rfl⟩ ⟨rfl,trivial⟩
end Go.Proofs.YtcnfgfomholheaaGreatDoor.Q
end
section
namespace Go.Proofs.YtcnfgfomholheaaGreatDoor.Q
open Go.RowKit Go.Proofs.YtcnfgfomholheaaGreatDoor.Z Go.Proofs.YtcnfgfomholheaaGreatDoor.X Go.Proofs.YtcnfgfomholheaaGreatDoor.Pure
set_option linter.unusedVariables false
set_option linter.unusedSimpArgs false
end Go.Proofs.YtcnfgfomholheaaGreatDoor.Q
end
section
namespace Go.Proofs.YtcnfgfomholheaaGreatDoor.Q
open Go.RowKit Go.Proofs.YtcnfgfomholheaaGreatDoor.Z Go.Proofs.YtcnfgfomholheaaGreatDoor.Pure
set_option linter.unusedVariables false
set_option linter.unusedSimpArgs false
set_option maxRecDepth 100000
set_option maxHeartbeats 4000000
end Go.Proofs.YtcnfgfomholheaaGreatDoor.Q
end
section
namespace Go.Proofs.YtcnfgfomholheaaGreatDoor.Q
open Go.RowKit Go.Proofs.YtcnfgfomholheaaGreatDoor.Z Go.Proofs.YtcnfgfomholheaaGreatDoor.Pure
set_option linter.unusedVariables false
set_option linter.unusedSimpArgs false
set_option maxRecDepth 100000
set_option maxHeartbeats 4000000
abbrev gW (l:List SW) (i:Nat):SW:=bV T eW l i
theorem Wi {l:List SW} {k:Nat} (h:k<l.length):gW l k∈l:=getD_mem (l:=l) (d:=T.df eW) h
structure Sm (t:SN):Prop where
 bd:Bd t
 ok:jV t=true
 c:cnt t≤112
end Go.Proofs.YtcnfgfomholheaaGreatDoor.Q
end
section
namespace Go.Proofs.YtcnfgfomholheaaGreatDoor.Q
open Go.RowKit Go.Proofs.YtcnfgfomholheaaGreatDoor.Z Go.Proofs.YtcnfgfomholheaaGreatDoor.Pure
set_option linter.unusedVariables false
set_option linter.unusedSimpArgs false
set_option maxRecDepth 100000
set_option maxHeartbeats 4000000
def jG (q:Int) (k:SK):SK:=⟨k.f0,k.f1,if q<k.f2 then q else k.f2⟩
abbrev gI (l:List Int) (i:Nat):Int:=bV T 3 l i
def ru (l:List SK) (w:SW) (c:Int):List SK:=bif c==128 then [] else (kK w.f0 l).map (jG w.f1)
def kX (l:List SK) (ws:List SW) (cs:List Int) (k:Nat):List SK:=(List.range k).flatMap fun i=>ru l (gW ws i) (gI cs i)
def jW (r:RT) (ws:List SW) (cs:List Int):List SK:=bif decide (cs.length=ws.length) && nX r then kX r.k ws cs ws.length else []
theorem Cm {l:List SK} {ws:List SW} {cs:List Int} {k:Nat}:kX l ws cs (k+1)=kX l ws cs k++ru l (gW ws k) (gI cs k):=by
 unfold kX
 rw [List.range_succ,List.flatMap_append]
 simp
theorem TN {l:List SK} {w:SW} {c:Int}:(ru l w c).length≤l.length:=by
 unfold ru
 cases c==128
 ·show((kK w.f0 l).map (jG w.f1)).length≤_
  rw [List.length_map];exact ql _ _
 ·exact Nat.zero_le _
theorem zV {l:List SK} {ws:List SW} {cs:List Int}:∀(k:Nat),(kX l ws cs k).length≤k*l.length
 | 0=>by simp [kX]
 | k+1=>by
   rw [Cm,List.length_append,Nat.succ_mul]
   have:=zV (l:=l) (ws:=ws) (cs:=cs) k
   have:=TN (l:=l) (w:=gW ws k) (c:=gI cs k)
   omega
theorem Ot {L acc:List SK} {j:Nat} {q:Int} (h:j<L.length):acc++(L.take j).map (jG q)++[(⟨(gK L j).f0,(gK L j).f1,if q<(gK L j).f2 then q else (gK L j).f2⟩:SK)]=acc++(L.take (j+1)).map (jG q):=by
 rw [List.take_succ_eq_append_getElem h,List.map_append,show gK L j=L[j] from getD_in (α:=SK) L j (T.df eK) h,List.append_assoc]
 rfl
theorem JZ (r:RT) (ws:List SW) (cs:List Int) (h:GR r) (hl:ws.length≤1048576) (hz:∀w∈ws,(w:SW).f0.size≤1048576):aH T Tryz.prog 65 [.ag (cR r), .c (.sl eW ws), .c (.sl 3 cs)] (.c (.ow eK (jW r ws cs))):=by
 have hko:=TL r h
 have FV:¬cs.length=ws.length→jW r ws cs=[]:=fun h=>by unfold jW;rw [decide_eq_false h];rfl
 have FW:nX r=false→jW r ws cs=[]:=fun h=>by unfold jW;rw [h,Bool.and_false];rfl
 have hyes:cs.length=ws.length→nX r=true→jW r ws cs=kX r.k ws cs ws.length:=fun h1 h2=>by unfold jW;rw [decide_eq_true h1,h2];rfl
 generalize jW r ws cs=R at FV FW hyes⊢
 refine mQ hT Tryz.func65 (by kernel_rfl) rfl rfl (fun A=>?_)
 refine Vc.seq 0 hT ?_
 conv=>whnf
 refine Vc.seq 2 hT ?_
 conv=>whnf
 refine Vc.seq 3 hT ?_
 conv=>whnf
 refine Split.mk (fun c=>?_) (fun c=>?_)
 ·have e:=FV (wG c)
  subst e
  conv=>whnf
  repeat (first | (refine Split.mk (fun _=>?_) (fun e=>jO e);conv=>whnf) | (refine bZ.mk ⟨by kernel_rfl,by kernel_rfl⟩ ?_;conv=>whnf))
  exact aC.mk ⟨rfl,rfl⟩ ⟨rfl,rfl⟩ ⟨dS rfl,trivial⟩
 have hcl:cs.length=ws.length:=wH c
 clear c FV
 conv=>whnf
 refine aG.mk _ hko ?_
 conv=>whnf
 refine Split.mk (fun c=>?_) (fun c=>?_)
 ·have e:=FW (dA c)
  subst e
  conv=>whnf
  exact aC.mk ⟨rfl,rfl⟩ ⟨rfl,rfl⟩ ⟨dS rfl,trivial⟩
 have Wj:=dM c
 have hk8:r.k.length≤8:=by
  have h1:=Wj
  unfold nX qZ at h1
  simp only [Bool.and_eq_true,decide_eq_true_eq] at h1
  have:=h1.2.2.2.2
  omega
 have e:=hyes hcl Wj
 subst e
 clear c FW hyes
 conv=>whnf
 refine Vc.yA ?_
 refine Vc.seq 4 hT ?_
 conv=>whnf
 refine Vc.block ?_
 refine Vc.loop (α:={k:Nat // k≤ws.length}) (fun p=>([(26,i64 p.1),(25,i64 ws.length),(24,im eW ws),(7, .c (.hd 1)),(3, .c (.px 0 0)),(2,im 3 cs)],[(1, .row 1 eK (kX r.k ws cs p.1)),(0,nC r)])) (fun p=>ws.length - p.1) ⟨0,Nat.zero_le _⟩ (ay [(1,2),(0,0)] rfl rfl rfl ⟨⟨rfl,rfl⟩,⟨rfl,rfl⟩,⟨rfl,rfl⟩,⟨rfl,rfl⟩,⟨rfl,rfl⟩,⟨rfl,rfl⟩,trivial⟩ ⟨dS rfl,⟨rfl,rfl⟩,trivial⟩) ?_
 rintro⟨k,hk⟩
 refine Vc.seq 5 hT ?_
 conv=>whnf
 refine Vc.seq 6 hT ?_
 conv=>whnf
 refine Split.mk (fun c=>?_) (fun c=>?_)
 ·have hk2:k<ws.length:=gX c
  clear c
  conv=>whnf
  have hcs:k<cs.length:=by omega
  have hstep:=Cm (l:=r.k) (ws:=ws) (cs:=cs) (k:=k)
  have hz1:=hz _ (Wi hk2)
  have Wn:=QI r.k (gW ws k).f0 h.bd.k h.bd.b h.t hz1
  have hal:(kX r.k ws cs k).length≤8388600:=Nat.le_trans (zV (l:=r.k) (ws:=ws) (cs:=cs) k) (Nat.le_trans (Nat.mul_le_mul (show k≤1048575 by omega) hk8) (by decide))
  refine Vc.yA ?_
  refine Vc.block ?_
  refine Vc.seq 7 hT ?_
  conv=>whnf
  refine Need.mk (idx hk2) ?_
  conv=>whnf
  refine Vc.seq 10 hT ?_
  conv=>whnf
  refine Need.mk (idx hcs) ?_
  conv=>whnf
  refine Split.mk (fun c=>?_) (fun c=>?_)
  ·unfold ru at hstep
   rw [show(gI cs k==128)=true from c,cond_true,List.append_nil] at hstep
   conv=>whnf
   refine Vc.of 11 hT ?_
   conv=>whnf
   have hacc:kX r.k ws cs k=kX r.k ws cs (k+1):=hstep.symm
   exact bM.mk ⟨⟨k+1,hk2⟩,Nat.sub_lt_sub_left hk2 (Nat.lt_succ_self k),ay [(1,1),(0,0)] rfl rfl rfl ⟨⟨rfl,congrArg i64 (eu hk2 (by omega))⟩,⟨rfl,rfl⟩,⟨rfl,rfl⟩,⟨rfl,rfl⟩,⟨rfl,rfl⟩,⟨rfl,rfl⟩,trivial⟩ ⟨dS hacc,⟨rfl,rfl⟩,trivial⟩⟩
  ·unfold ru at hstep
   rw [show(gI cs k==128)=false from c,cond_false] at hstep
   conv=>whnf
   refine Vc.seq 11 hT ?_
   conv=>whnf
   refine aG.mk _ Wn ?_
   conv=>whnf
   have hLl:=ql (gW ws k).f0 r.k
   generalize kK (gW ws k).f0 r.k=L at hstep Wn hLl
   generalize kX r.k ws cs k=acc at hstep hal
   refine Vc.block ?_
   have himp:∀n,lD (⟨[(42,i64 0),(41,i64 L.length),(40, .c (.hd 11)),(9, .c (.px 7 0)),(7, .c (.hd 1)),(26,i64 k),(25,i64 ws.length),(24,im eW ws),(3, .c (.px 0 0)),(2,im 3 cs)],[(11, .row 11 eK L),(7, .bx eW [.sc (.string (gW ws k).f0), .sc (.int .i64 (gW ws k).f1)]),(1, .row 1 eK acc),(0,nC r)],n,A⟩:St T) ⟨[(42,i64 0),(41,i64 L.length),(40, .c (.hd 11)),(9, .c (.px 7 0)),(7, .c (.hd 1)),(26,i64 k),(25,i64 ws.length),(24,im eW ws),(3, .c (.px 0 0)),(2,im 3 cs)],[(11, .hl eK 0 L.length [] L),(7, .bx eW [.sc (.string (gW ws k).f0), .sc (.int .i64 (gW ws k).f1)]),(1, .row 1 eK (acc++(L.take 0).map (jG (gW ws k).f1))),(0,nC r)],n,A⟩:=fun n=>(Wp (r:=11) (bv:=11) (e:=eK) (l:=L) rfl rfl rfl).trans (ay [(11,11),(7,7),(1,1),(0,0)] rfl rfl rfl ⟨⟨rfl,rfl⟩,⟨rfl,rfl⟩,⟨rfl,rfl⟩,⟨rfl,rfl⟩,⟨rfl,rfl⟩,⟨rfl,rfl⟩,⟨rfl,rfl⟩,⟨rfl,rfl⟩,⟨rfl,rfl⟩,⟨rfl,rfl⟩,trivial⟩ ⟨⟨rfl,rfl,rfl,rfl,dS rfl⟩,⟨rfl,rfl⟩,dS (by simp),⟨rfl,rfl⟩,trivial⟩)
   refine Vc.loop (α:={j:Nat // j≤L.length}) (fun q=>([(42,i64 q.1),(41,i64 L.length),(40, .c (.hd 11)),(9, .c (.px 7 0)),(7, .c (.hd 1)),(26,i64 k),(25,i64 ws.length),(24,im eW ws),(3, .c (.px 0 0)),(2,im 3 cs)],[(11, .hl eK q.1 L.length [] L),(7, .bx eW [.sc (.string (gW ws k).f0), .sc (.int .i64 (gW ws k).f1)]),(1, .row 1 eK (acc++(L.take q.1).map (jG (gW ws k).f1))),(0,nC r)])) (fun q=>L.length - q.1) ⟨0,Nat.zero_le _⟩ (lD.trans (σ':=(⟨[(42,i64 0),(41,i64 L.length),(40, .c (.hd 11)),(9, .c (.px 7 0)),(7, .c (.hd 1)),(26,i64 k),(25,i64 ws.length),(24,im eW ws),(3, .c (.px 0 0)),(2,im 3 cs)],[(11, .row 11 eK L),(7, .bx eW [.sc (.string (gW ws k).f0), .sc (.int .i64 (gW ws k).f1)]),(1, .row 1 eK acc),(0,nC r)],Tryz.f65.ntmps,A⟩:St T)) (ay [(11,11),(7,7),(1,1),(0,0)] rfl rfl rfl ⟨⟨rfl,rfl⟩,⟨rfl,rfl⟩,⟨rfl,rfl⟩,⟨rfl,rfl⟩,⟨rfl,rfl⟩,⟨rfl,rfl⟩,⟨rfl,rfl⟩,⟨rfl,rfl⟩,⟨rfl,rfl⟩,⟨rfl,rfl⟩,trivial⟩ ⟨dS rfl,⟨rfl,rfl⟩,dS rfl,⟨rfl,rfl⟩,trivial⟩) (himp _)) ?_
   rintro⟨j,hj⟩
   refine Vc.seq 12 hT ?_
   conv=>whnf
   refine Vc.seq 13 hT ?_
   conv=>whnf
   refine Split.mk (fun c=>?_) (fun c=>?_)
   ·have hj2:j<L.length:=gX c
    clear c
    conv=>whnf
    have TP:∀n,lD (⟨[(42,i64 j),(41,i64 L.length),(40, .c (.hd 11)),(9, .c (.px 7 0)),(7, .c (.hd 1)),(26,i64 k),(25,i64 ws.length),(24,im eW ws),(3, .c (.px 0 0)),(2,im 3 cs)],[(11, .hl eK j L.length [] L),(7, .bx eW [.sc (.string (gW ws k).f0), .sc (.int .i64 (gW ws k).f1)]),(1, .row 1 eK (acc++(L.take j).map (jG (gW ws k).f1))),(0,nC r)],n,A⟩:St T) ⟨[(42,i64 j),(41,i64 L.length),(40, .c (.hd 11)),(9, .c (.px 7 0)),(7, .c (.hd 1)),(26,i64 k),(25,i64 ws.length),(24,im eW ws),(3, .c (.px 0 0)),(2,im 3 cs)],[(11, .hl eK j j [.sc (.string (gK L j).f0), .hd 31, .sc (.int .i64 (gK L j).f2)] L),(31, .row 31 5 (gK L j).f1),(7, .bx eW [.sc (.string (gW ws k).f0), .sc (.int .i64 (gW ws k).f1)]),(1, .row 1 eK (acc++(L.take j).map (jG (gW ws k).f1))),(0,nC r)],n,A⟩:=fun n=>(Ou (r:=11) (i:=j) (nx:=30) rfl (Nat.le_refl _) (Nat.le_refl _) hj2 rfl rfl (fun p hp=>by rw [List.mem_singleton.1 hp];rfl)).trans (ay [(11,11),(31,31),(7,7),(1,1),(0,0)] rfl rfl rfl ⟨⟨rfl,rfl⟩,⟨rfl,rfl⟩,⟨rfl,rfl⟩,⟨rfl,rfl⟩,⟨rfl,rfl⟩,⟨rfl,rfl⟩,⟨rfl,rfl⟩,⟨rfl,rfl⟩,⟨rfl,rfl⟩,⟨rfl,rfl⟩,trivial⟩ ⟨⟨rfl,rfl,rfl,rfl,dS rfl⟩,sr5 rfl,⟨rfl,rfl⟩,dS rfl,⟨rfl,rfl⟩,trivial⟩)
    refine Vc.imp (lD.trans (σ':=(⟨[(42,i64 j),(41,i64 L.length),(40, .c (.hd 11)),(9, .c (.px 7 0)),(7, .c (.hd 1)),(26,i64 k),(25,i64 ws.length),(24,im eW ws),(3, .c (.px 0 0)),(2,im 3 cs)],[(11, .hl eK j L.length [] L),(7, .bx eW [.sc (.string (gW ws k).f0), .sc (.int .i64 (gW ws k).f1)]),(1, .row 1 eK (acc++(L.take j).map (jG (gW ws k).f1))),(0,nC r)],Tryz.f65.ntmps,A⟩:St T)) (ay [(11,11),(7,7),(1,1),(0,0)] rfl rfl rfl ⟨⟨rfl,rfl⟩,⟨rfl,rfl⟩,⟨rfl,rfl⟩,⟨rfl,rfl⟩,⟨rfl,rfl⟩,⟨rfl,rfl⟩,⟨rfl,rfl⟩,⟨rfl,rfl⟩,⟨rfl,rfl⟩,⟨rfl,rfl⟩,trivial⟩ ⟨⟨rfl,rfl,rfl,rfl,dS rfl⟩,⟨rfl,rfl⟩,dS rfl,⟨rfl,rfl⟩,trivial⟩) (TP _)) ?_
    refine Vc.of 40 hT ?_
    conv=>whnf
    refine Need.mk (idx hj2) ?_
    conv=>whnf
    refine Need.mk rfl ?_
    conv=>whnf
    refine Need.mk (fA (a:=(acc++(L.take j).map (jG (gW ws k).f1)).length) (b:=1) (by rw [List.length_append,List.length_map,List.length_take];omega) (by decide)) ?_
    conv=>whnf
    have Ie:∀n,lD (⟨[(42,i64 ((j+1:Nat):Int)),(41,i64 L.length),(40, .c (.hd 11)),(9, .c (.px 7 0)),(7, .c (.hd 1)),(26,i64 k),(25,i64 ws.length),(24,im eW ws),(3, .c (.px 0 0)),(2,im 3 cs)],[(11, .hl eK j j [.sc (.string (gK L j).f0), .hd 31, .sc (.int .i64 (gK L j).f2)] L),(7, .bx eW [.sc (.string (gW ws k).f0), .sc (.int .i64 (gW ws k).f1)]),(1, .row 1 eK (acc++(L.take (j+1)).map (jG (gW ws k).f1))),(0,nC r)],n,A⟩:St T) ⟨[(42,i64 ((j+1:Nat):Int)),(41,i64 L.length),(40, .c (.hd 11)),(9, .c (.px 7 0)),(7, .c (.hd 1)),(26,i64 k),(25,i64 ws.length),(24,im eW ws),(3, .c (.px 0 0)),(2,im 3 cs)],[(11, .hl eK (j+1) L.length [] L),(7, .bx eW [.sc (.string (gW ws k).f0), .sc (.int .i64 (gW ws k).f1)]),(1, .row 1 eK (acc++(L.take (j+1)).map (jG (gW ws k).f1))),(0,nC r)],n,A⟩:=fun n=>(FX (r:=11) (i:=j) (l:=L) rfl rfl rfl).trans (ay [(11,11),(7,7),(1,1),(0,0)] rfl rfl rfl ⟨⟨rfl,rfl⟩,⟨rfl,rfl⟩,⟨rfl,rfl⟩,⟨rfl,rfl⟩,⟨rfl,rfl⟩,⟨rfl,rfl⟩,⟨rfl,rfl⟩,⟨rfl,rfl⟩,⟨rfl,rfl⟩,⟨rfl,rfl⟩,trivial⟩ ⟨⟨rfl,rfl,rfl,rfl,dS rfl⟩,⟨rfl,rfl⟩,dS rfl,⟨rfl,rfl⟩,trivial⟩)
    exact bM.mk ⟨⟨j+1,hj2⟩,Nat.sub_lt_sub_left hj2 (Nat.lt_succ_self j),lD.trans (σ':=(⟨[(42,i64 ((j+1:Nat):Int)),(41,i64 L.length),(40, .c (.hd 11)),(9, .c (.px 7 0)),(7, .c (.hd 1)),(26,i64 k),(25,i64 ws.length),(24,im eW ws),(3, .c (.px 0 0)),(2,im 3 cs)],[(11, .hl eK j j [.sc (.string (gK L j).f0), .hd 31, .sc (.int .i64 (gK L j).f2)] L),(7, .bx eW [.sc (.string (gW ws k).f0), .sc (.int .i64 (gW ws k).f1)]),(1, .row 1 eK (acc++(L.take (j+1)).map (jG (gW ws k).f1))),(0,nC r)],Tryz.f65.ntmps,A⟩:St T)) (ay [(11,11),(31,31),(7,7),(1,42),(0,0)] rfl rfl rfl ⟨⟨rfl,congrArg i64 (eu hj2 (by omega))⟩,⟨rfl,rfl⟩,⟨rfl,rfl⟩,⟨rfl,rfl⟩,⟨rfl,rfl⟩,⟨rfl,rfl⟩,⟨rfl,rfl⟩,⟨rfl,rfl⟩,⟨rfl,rfl⟩,⟨rfl,rfl⟩,trivial⟩ ⟨⟨rfl,rfl,rfl,rfl,dS rfl⟩,⟨rfl,rfl⟩,dS (Ot hj2),⟨rfl,rfl⟩,trivial⟩) (Ie _)⟩
   ·have hj2:j=L.length:=Nat.le_antisymm hj (gY c)
    clear c
    subst hj2
    conv=>whnf
    refine Vc.of 40 hT ?_
    conv=>whnf
    have hacc:acc++(L.take L.length).map (jG (gW ws k).f1)=kX r.k ws cs (k+1):=by rw [List.take_length];exact hstep.symm
    exact bM.mk ⟨⟨k+1,hk2⟩,Nat.sub_lt_sub_left hk2 (Nat.lt_succ_self k),ay [(1,1),(0,0)] rfl rfl rfl ⟨⟨rfl,congrArg i64 (eu hk2 (by omega))⟩,⟨rfl,rfl⟩,⟨rfl,rfl⟩,⟨rfl,rfl⟩,⟨rfl,rfl⟩,⟨rfl,rfl⟩,trivial⟩ ⟨dS hacc,⟨rfl,rfl⟩,trivial⟩⟩
 ·have hk2:k=ws.length:=Nat.le_antisymm hk (gY c)
  clear c
  subst hk2
  conv=>whnf
  refine Vc.of 11 hT ?_
  conv=>whnf
  exact aC.mk ⟨rfl,rfl⟩ ⟨rfl,rfl⟩ ⟨dS rfl,trivial⟩
end Go.Proofs.YtcnfgfomholheaaGreatDoor.Q
end
section
namespace Go.Proofs.YtcnfgfomholheaaGreatDoor.Q
open Go.RowKit Go.Proofs.YtcnfgfomholheaaGreatDoor.Z Go.Proofs.YtcnfgfomholheaaGreatDoor.Pure
set_option linter.unusedVariables false
set_option linter.unusedSimpArgs false
set_option maxRecDepth 100000
set_option maxHeartbeats 4000000
theorem J3 (r:RT) (ws:List SW) (cs:List Int) (h:GR r) (hl:ws.length≤1048576) (hz:∀w∈ws,(w:SW).f0.size≤1048576):aH T Tryz.prog 63 [.ag (cR r), .c (.sl eW ws), .c (.sl 3 cs)] (.c (.ow eK (jW r ws cs))):=by
 have hko:=TM r h
 have FV:¬cs.length=ws.length→jW r ws cs=[]:=fun h=>by unfold jW;rw [decide_eq_false h];rfl
 have FW:nX r=false→jW r ws cs=[]:=fun h=>by unfold jW;rw [h,Bool.and_false];rfl
 have hyes:cs.length=ws.length→nX r=true→jW r ws cs=kX r.k ws cs ws.length:=fun h1 h2=>by unfold jW;rw [decide_eq_true h1,h2];rfl
 generalize jW r ws cs=R at FV FW hyes⊢
 refine mQ hT Tryz.func63 (by kernel_rfl) rfl rfl (fun A=>?_)
 refine Vc.seq 0 hT ?_
 conv=>whnf
 refine Vc.seq 2 hT ?_
 conv=>whnf
 refine Vc.seq 3 hT ?_
 conv=>whnf
 refine Split.mk (fun c=>?_) (fun c=>?_)
 ·have e:=FV (fun e=>wG c e.symm)
  subst e
  conv=>whnf
  repeat (first | (refine Split.mk (fun _=>?_) (fun e=>jO e);conv=>whnf) | (refine bZ.mk ⟨by kernel_rfl,by kernel_rfl⟩ ?_;conv=>whnf))
  exact aC.mk ⟨rfl,rfl⟩ ⟨rfl,rfl⟩ ⟨dS rfl,trivial⟩
 have hcl:cs.length=ws.length:=(wH c).symm
 clear c FV
 conv=>whnf
 refine aG.mk _ hko ?_
 conv=>whnf
 refine Split.mk (fun c=>?_) (fun c=>?_)
 ·have e:=FW (dA c)
  subst e
  conv=>whnf
  exact aC.mk ⟨rfl,rfl⟩ ⟨rfl,rfl⟩ ⟨dS rfl,trivial⟩
 have Wj:=dM c
 have hk8:r.k.length≤8:=by
  have h1:=Wj
  unfold nX qZ at h1
  simp only [Bool.and_eq_true,decide_eq_true_eq] at h1
  have:=h1.2.2.2.2
  omega
 have e:=hyes hcl Wj
 subst e
 clear c FW hyes
 conv=>whnf
 refine Vc.yA ?_
 refine Vc.seq 4 hT ?_
 conv=>whnf
 refine Vc.block ?_
 refine Vc.loop (α:={k:Nat // k≤ws.length}) (fun p=>([(8,i64 p.1),(7, .c (.hd 1)),(3, .c (.px 0 0)),(1,im eW ws),(2,im 3 cs)],[(1, .row 1 eK (kX r.k ws cs p.1)),(0,nC r)])) (fun p=>ws.length - p.1) ⟨0,Nat.zero_le _⟩ (ay [(1,2),(0,0)] rfl rfl rfl ⟨⟨rfl,rfl⟩,⟨rfl,rfl⟩,⟨rfl,rfl⟩,⟨rfl,rfl⟩,⟨rfl,rfl⟩,trivial⟩ ⟨dS rfl,⟨rfl,rfl⟩,trivial⟩) ?_
 rintro⟨k,hk⟩
 refine Vc.seq 5 hT ?_
 conv=>whnf
 refine Split.mk (fun c=>?_) (fun c=>?_)
 ·have hk2:k<ws.length:=gX c
  clear c
  have hcs:k<cs.length:=by omega
  have hstep:=Cm (l:=r.k) (ws:=ws) (cs:=cs) (k:=k)
  have hz1:=hz _ (Wi hk2)
  have Wn:=QJ r.k (gW ws k).f0 h.bd.k h.bd.b h.t hz1
  have hal:(kX r.k ws cs k).length≤8388600:=Nat.le_trans (zV (l:=r.k) (ws:=ws) (cs:=cs) k) (Nat.le_trans (Nat.mul_le_mul (show k≤1048575 by omega) hk8) (by decide))
  conv=>whnf
  refine Vc.yA ?_
  refine Vc.block ?_
  refine Vc.seq 7 hT ?_
  conv=>whnf
  refine Need.mk (idx hcs) ?_
  conv=>whnf
  refine Split.mk (fun c=>?_) (fun c=>?_)
  ·unfold ru at hstep
   rw [show(gI cs k==128)=true from c,cond_true,List.append_nil] at hstep
   conv=>whnf
   refine Vc.of 8 hT ?_
   conv=>whnf
   have hacc:kX r.k ws cs k=kX r.k ws cs (k+1):=hstep.symm
   exact bM.mk ⟨⟨k+1,hk2⟩,Nat.sub_lt_sub_left hk2 (Nat.lt_succ_self k),ay [(1,1),(0,0)] rfl rfl rfl ⟨⟨rfl,congrArg i64 (eu hk2 (by omega))⟩,⟨rfl,rfl⟩,⟨rfl,rfl⟩,⟨rfl,rfl⟩,⟨rfl,rfl⟩,trivial⟩ ⟨dS hacc,⟨rfl,rfl⟩,trivial⟩⟩
  unfold ru at hstep
  rw [show(gI cs k==128)=false from c,cond_false] at hstep
  clear c
  conv=>whnf
  refine Vc.seq 11 hT ?_
  conv=>whnf
  refine Need.mk (idx hk2) ?_
  conv=>whnf
  refine aG.mk _ Wn ?_
  conv=>whnf
  refine bZ.mk ⟨by kernel_rfl,by kernel_rfl⟩ ?_
  conv=>whnf
  have hLl:=ql (gW ws k).f0 r.k
  generalize kK (gW ws k).f0 r.k=L at hstep Wn hLl
  generalize kX r.k ws cs k=acc at hstep hal
  refine Vc.seq 12 hT ?_
  conv=>whnf
  refine Vc.block ?_
  have himp:∀n,lD (⟨[(10,i64 0),(9, .c (.hd 11)),(8,i64 k),(7, .c (.hd 1)),(3, .c (.px 0 0)),(1,im eW ws),(2,im 3 cs)],[(11, .row 11 eK L),(1, .row 1 eK acc),(0,nC r)],n,A⟩:St T) ⟨[(10,i64 0),(9, .c (.hd 11)),(8,i64 k),(7, .c (.hd 1)),(3, .c (.px 0 0)),(1,im eW ws),(2,im 3 cs)],[(11, .hl eK 0 L.length [] L),(1, .row 1 eK (acc++(L.take 0).map (jG (gW ws k).f1))),(0,nC r)],n,A⟩:=fun n=>(Wp (r:=11) (bv:=11) (e:=eK) (l:=L) rfl rfl rfl).trans (ay [(11,11),(1,1),(0,0)] rfl rfl rfl ⟨⟨rfl,rfl⟩,⟨rfl,rfl⟩,⟨rfl,rfl⟩,⟨rfl,rfl⟩,⟨rfl,rfl⟩,⟨rfl,rfl⟩,⟨rfl,rfl⟩,trivial⟩ ⟨⟨rfl,rfl,rfl,rfl,dS rfl⟩,dS (by simp),⟨rfl,rfl⟩,trivial⟩)
  refine Vc.loop (α:={j:Nat // j≤L.length}) (fun q=>([(10,i64 q.1),(9, .c (.hd 11)),(8,i64 k),(7, .c (.hd 1)),(3, .c (.px 0 0)),(1,im eW ws),(2,im 3 cs)],[(11, .hl eK q.1 L.length [] L),(1, .row 1 eK (acc++(L.take q.1).map (jG (gW ws k).f1))),(0,nC r)])) (fun q=>L.length - q.1) ⟨0,Nat.zero_le _⟩ (lD.trans (σ':=(⟨[(10,i64 0),(9, .c (.hd 11)),(8,i64 k),(7, .c (.hd 1)),(3, .c (.px 0 0)),(1,im eW ws),(2,im 3 cs)],[(11, .row 11 eK L),(1, .row 1 eK acc),(0,nC r)],Tryz.f63.ntmps,A⟩:St T)) (ay [(11,11),(1,1),(0,0)] rfl rfl rfl ⟨⟨rfl,rfl⟩,⟨rfl,rfl⟩,⟨rfl,rfl⟩,⟨rfl,rfl⟩,⟨rfl,rfl⟩,⟨rfl,rfl⟩,⟨rfl,rfl⟩,trivial⟩ ⟨dS rfl,dS rfl,⟨rfl,rfl⟩,trivial⟩) (himp _)) ?_
  rintro⟨j,hj⟩
  refine Vc.seq 12 hT ?_
  conv=>whnf
  refine Split.mk (fun c=>?_) (fun c=>?_)
  ·have hj2:j<L.length:=gX c
   clear c
   have RH:=Ot (L:=L) (acc:=acc) (q:=(gW ws k).f1) hj2
   conv=>whnf
   have TP:∀n,lD (⟨[(10,i64 j),(9, .c (.hd 11)),(8,i64 k),(7, .c (.hd 1)),(3, .c (.px 0 0)),(1,im eW ws),(2,im 3 cs)],[(11, .hl eK j L.length [] L),(1, .row 1 eK (acc++(L.take j).map (jG (gW ws k).f1))),(0,nC r)],n,A⟩:St T) ⟨[(10,i64 j),(9, .c (.hd 11)),(8,i64 k),(7, .c (.hd 1)),(3, .c (.px 0 0)),(1,im eW ws),(2,im 3 cs)],[(11, .hl eK j j [.sc (.string (gK L j).f0), .hd 31, .sc (.int .i64 (gK L j).f2)] L),(31, .row 31 5 (gK L j).f1),(1, .row 1 eK (acc++(L.take j).map (jG (gW ws k).f1))),(0,nC r)],n,A⟩:=fun n=>(Ou (r:=11) (i:=j) (nx:=30) rfl (Nat.le_refl _) (Nat.le_refl _) hj2 rfl rfl (fun p hp=>by rw [List.mem_singleton.1 hp];rfl)).trans (ay [(11,11),(31,31),(1,1),(0,0)] rfl rfl rfl ⟨⟨rfl,rfl⟩,⟨rfl,rfl⟩,⟨rfl,rfl⟩,⟨rfl,rfl⟩,⟨rfl,rfl⟩,⟨rfl,rfl⟩,⟨rfl,rfl⟩,trivial⟩ ⟨⟨rfl,rfl,rfl,rfl,dS rfl⟩,sr5 rfl,dS rfl,⟨rfl,rfl⟩,trivial⟩)
   refine Vc.imp (lD.trans (σ':=(⟨[(10,i64 j),(9, .c (.hd 11)),(8,i64 k),(7, .c (.hd 1)),(3, .c (.px 0 0)),(1,im eW ws),(2,im 3 cs)],[(11, .hl eK j L.length [] L),(1, .row 1 eK (acc++(L.take j).map (jG (gW ws k).f1))),(0,nC r)],Tryz.f63.ntmps,A⟩:St T)) (ay [(11,11),(1,1),(0,0)] rfl rfl rfl ⟨⟨rfl,rfl⟩,⟨rfl,rfl⟩,⟨rfl,rfl⟩,⟨rfl,rfl⟩,⟨rfl,rfl⟩,⟨rfl,rfl⟩,⟨rfl,rfl⟩,trivial⟩ ⟨⟨rfl,rfl,rfl,rfl,dS rfl⟩,dS rfl,⟨rfl,rfl⟩,trivial⟩) (TP _)) ?_
   refine Vc.of 40 hT ?_
   conv=>whnf
   refine Need.mk (idx hk2) ?_
   conv=>whnf
   refine Need.mk (idx hj2) ?_
   conv=>whnf
   refine Need.mk rfl ?_
   conv=>whnf
   refine bZ.mk ⟨by kernel_rfl,by kernel_rfl⟩ ?_
   conv=>whnf
   refine Split.mk (fun c=>?_) (fun c=>?_)
   ·rw [if_pos (show(gW ws k).f1<(gK L j).f2 from of_decide_eq_true c)] at RH
    conv=>whnf
    refine Need.mk (idx hk2) ?_
    conv=>whnf
    refine Need.mk (idx hj2) ?_
    conv=>whnf
    refine Need.mk rfl ?_
    conv=>whnf
    refine Need.mk (idx hj2) ?_
    conv=>whnf
    refine Need.mk rfl ?_
    conv=>whnf
    refine Need.mk (fA (a:=(acc++(L.take j).map (jG (gW ws k).f1)).length) (b:=1) (by rw [List.length_append,List.length_map,List.length_take];omega) (by decide)) ?_
    conv=>whnf
    have Ie:∀n,lD (⟨[(10,i64 ((j+1:Nat):Int)),(9, .c (.hd 11)),(8,i64 k),(7, .c (.hd 1)),(3, .c (.px 0 0)),(1,im eW ws),(2,im 3 cs)],[(11, .hl eK j j [.sc (.string (gK L j).f0), .hd 31, .sc (.int .i64 (gW ws k).f1)] L),(1, .row 1 eK (acc++(L.take (j+1)).map (jG (gW ws k).f1))),(0,nC r)],n,A⟩:St T) ⟨[(10,i64 ((j+1:Nat):Int)),(9, .c (.hd 11)),(8,i64 k),(7, .c (.hd 1)),(3, .c (.px 0 0)),(1,im eW ws),(2,im 3 cs)],[(11, .hl eK (j+1) L.length [] L),(1, .row 1 eK (acc++(L.take (j+1)).map (jG (gW ws k).f1))),(0,nC r)],n,A⟩:=fun n=>(FX (r:=11) (i:=j) (l:=L) rfl rfl rfl).trans (ay [(11,11),(1,1),(0,0)] rfl rfl rfl ⟨⟨rfl,rfl⟩,⟨rfl,rfl⟩,⟨rfl,rfl⟩,⟨rfl,rfl⟩,⟨rfl,rfl⟩,⟨rfl,rfl⟩,⟨rfl,rfl⟩,trivial⟩ ⟨⟨rfl,rfl,rfl,rfl,dS rfl⟩,dS rfl,⟨rfl,rfl⟩,trivial⟩)
    exact bM.mk ⟨⟨j+1,hj2⟩,Nat.sub_lt_sub_left hj2 (Nat.lt_succ_self j),lD.trans (σ':=(⟨[(10,i64 ((j+1:Nat):Int)),(9, .c (.hd 11)),(8,i64 k),(7, .c (.hd 1)),(3, .c (.px 0 0)),(1,im eW ws),(2,im 3 cs)],[(11, .hl eK j j [.sc (.string (gK L j).f0), .hd 31, .sc (.int .i64 (gW ws k).f1)] L),(1, .row 1 eK (acc++(L.take (j+1)).map (jG (gW ws k).f1))),(0,nC r)],Tryz.f63.ntmps,A⟩:St T)) (ay [(11,11),(31,31),(1,41),(0,0)] rfl rfl rfl ⟨⟨rfl,congrArg i64 (eu hj2 (by omega))⟩,⟨rfl,rfl⟩,⟨rfl,rfl⟩,⟨rfl,rfl⟩,⟨rfl,rfl⟩,⟨rfl,rfl⟩,⟨rfl,rfl⟩,trivial⟩ ⟨⟨rfl,rfl,rfl,rfl,dS rfl⟩,dS RH,⟨rfl,rfl⟩,trivial⟩) (Ie _)⟩
   ·rw [if_neg (show ¬(gW ws k).f1<(gK L j).f2 from of_decide_eq_false c)] at RH
    conv=>whnf
    refine Need.mk (idx hj2) ?_
    conv=>whnf
    refine Need.mk rfl ?_
    conv=>whnf
    refine Need.mk (fA (a:=(acc++(L.take j).map (jG (gW ws k).f1)).length) (b:=1) (by rw [List.length_append,List.length_map,List.length_take];omega) (by decide)) ?_
    conv=>whnf
    have Ie:∀n,lD (⟨[(10,i64 ((j+1:Nat):Int)),(9, .c (.hd 11)),(8,i64 k),(7, .c (.hd 1)),(3, .c (.px 0 0)),(1,im eW ws),(2,im 3 cs)],[(11, .hl eK j j [.sc (.string (gK L j).f0), .hd 31, .sc (.int .i64 (gK L j).f2)] L),(1, .row 1 eK (acc++(L.take (j+1)).map (jG (gW ws k).f1))),(0,nC r)],n,A⟩:St T) ⟨[(10,i64 ((j+1:Nat):Int)),(9, .c (.hd 11)),(8,i64 k),(7, .c (.hd 1)),(3, .c (.px 0 0)),(1,im eW ws),(2,im 3 cs)],[(11, .hl eK (j+1) L.length [] L),(1, .row 1 eK (acc++(L.take (j+1)).map (jG (gW ws k).f1))),(0,nC r)],n,A⟩:=fun n=>(FX (r:=11) (i:=j) (l:=L) rfl rfl rfl).trans (ay [(11,11),(1,1),(0,0)] rfl rfl rfl ⟨⟨rfl,rfl⟩,⟨rfl,rfl⟩,⟨rfl,rfl⟩,⟨rfl,rfl⟩,⟨rfl,rfl⟩,⟨rfl,rfl⟩,⟨rfl,rfl⟩,trivial⟩ ⟨⟨rfl,rfl,rfl,rfl,dS rfl⟩,dS rfl,⟨rfl,rfl⟩,trivial⟩)
    exact bM.mk ⟨⟨j+1,hj2⟩,Nat.sub_lt_sub_left hj2 (Nat.lt_succ_self j),lD.trans (σ':=(⟨[(10,i64 ((j+1:Nat):Int)),(9, .c (.hd 11)),(8,i64 k),(7, .c (.hd 1)),(3, .c (.px 0 0)),(1,im eW ws),(2,im 3 cs)],[(11, .hl eK j j [.sc (.string (gK L j).f0), .hd 31, .sc (.int .i64 (gK L j).f2)] L),(1, .row 1 eK (acc++(L.take (j+1)).map (jG (gW ws k).f1))),(0,nC r)],Tryz.f63.ntmps,A⟩:St T)) (ay [(11,11),(31,31),(1,41),(0,0)] rfl rfl rfl ⟨⟨rfl,congrArg i64 (eu hj2 (by omega))⟩,⟨rfl,rfl⟩,⟨rfl,rfl⟩,⟨rfl,rfl⟩,⟨rfl,rfl⟩,⟨rfl,rfl⟩,⟨rfl,rfl⟩,trivial⟩ ⟨⟨rfl,rfl,rfl,rfl,dS rfl⟩,dS RH,⟨rfl,rfl⟩,trivial⟩) (Ie _)⟩
  ·have hj2:j=L.length:=Nat.le_antisymm hj (gY c)
   clear c
   subst hj2
   conv=>whnf
   refine Vc.of 40 hT ?_
   conv=>whnf
   have hacc:acc++(L.take L.length).map (jG (gW ws k).f1)=kX r.k ws cs (k+1):=by rw [List.take_length];exact hstep.symm
   exact bM.mk ⟨⟨k+1,hk2⟩,Nat.sub_lt_sub_left hk2 (Nat.lt_succ_self k),ay [(1,1),(0,0)] rfl rfl rfl ⟨⟨rfl,congrArg i64 (eu hk2 (by omega))⟩,⟨rfl,rfl⟩,⟨rfl,rfl⟩,⟨rfl,rfl⟩,⟨rfl,rfl⟩,trivial⟩ ⟨dS hacc,⟨rfl,rfl⟩,trivial⟩⟩
 ·have hk2:k=ws.length:=Nat.le_antisymm hk (gY c)
  clear c
  subst hk2
  conv=>whnf
  refine Vc.of 11 hT ?_
  conv=>whnf
  exact aC.mk ⟨rfl,rfl⟩ ⟨rfl,rfl⟩ ⟨dS rfl,trivial⟩
end Go.Proofs.YtcnfgfomholheaaGreatDoor.Q
end
section
namespace Go.Proofs.YtcnfgfomholheaaGreatDoor.Q
open Go.RowKit Go.Proofs.YtcnfgfomholheaaGreatDoor.Z Go.Proofs.YtcnfgfomholheaaGreatDoor.Pure
set_option linter.unusedVariables false
set_option linter.unusedSimpArgs false
set_option maxRecDepth 100000
set_option maxHeartbeats 4000000
end Go.Proofs.YtcnfgfomholheaaGreatDoor.Q
end
section
namespace Go.Proofs.YtcnfgfomholheaaGreatDoor.Q
open Go.RowKit Go.Proofs.YtcnfgfomholheaaGreatDoor.Z Go.Proofs.YtcnfgfomholheaaGreatDoor.X Go.Proofs.YtcnfgfomholheaaGreatDoor.Pure
set_option linter.unusedVariables false
set_option linter.unusedSimpArgs false
set_option maxRecDepth 100000
set_option maxHeartbeats 4000000
theorem aaD {l:List LW} {x:Int} (h0:0≤x) (hx:x≤1048576) (h:0≤thenS (dO l.length x) (iq (fun y:LW=>dO y.f0.size) l)):l.length≤1048576∧∀y∈l,(y:LW).f0.size≤1048576:=by
 obtain⟨h1,h2⟩:=lW h
 have h3:=nJ h1
 refine⟨by omega,fun y hy=>?_⟩
 obtain⟨v,v1,v2,v3⟩:=vP (F:=fun y:LW=>dO y.f0.size) (fun a _ x hx=>jf hx) h1 h2 y hy
 have g3:=nJ v3
 have:=jf (n:=l.length) h0
 omega
end Go.Proofs.YtcnfgfomholheaaGreatDoor.Q
end
section
namespace Go.Proofs.YtcnfgfomholheaaGreatDoor.Q
open Go.RowKit Go.Proofs.YtcnfgfomholheaaGreatDoor.Z Go.Proofs.YtcnfgfomholheaaGreatDoor.X Go.Proofs.YtcnfgfomholheaaGreatDoor.Pure
set_option linter.unusedVariables false
set_option linter.unusedSimpArgs false
set_option maxRecDepth 100000
set_option maxHeartbeats 4000000
theorem Yz {l:List SK} {ws:List SW} {cs:List Int} {k:Nat} {y:SK} (h:y∈kX l ws cs k):∃z∈l,y.f1=z.f1:=by
 unfold kX at h
 obtain⟨i,_,h2⟩:=List.mem_flatMap.1 h
 unfold ru at h2
 cases hc:gI cs i==128 with
 | true=>rw [hc] at h2;cases h2
 | false=>
   rw [hc] at h2
   obtain⟨z,hz,rfl⟩:=List.mem_map.1 h2
   exact⟨z,FU hz,rfl⟩
theorem YA {r:RT} {ws:List SW} {cs:List Int} (hk:BK r.k) (hl:ws.length≤1048576):(jW r ws cs).length≤8388608∧∀y∈jW r ws cs,(y:SK).f1.length≤1048576:=by
 unfold jW
 cases hd:decide (cs.length=ws.length) && nX r with
 | false=>exact⟨Nat.zero_le _,fun y hy=>by cases hy⟩
 | true=>
   rw [Bool.and_eq_true] at hd
   have hk8:r.k.length≤8:=by
    have h1:=hd.2
    unfold nX qZ at h1
    simp only [Bool.and_eq_true,decide_eq_true_eq] at h1
    have:=h1.2.2.2.2
    omega
   refine⟨Nat.le_trans (zV (l:=r.k) (ws:=ws) (cs:=cs) ws.length) (Nat.le_trans (Nat.mul_le_mul hl hk8) (by decide)),fun y hy=>?_⟩
   obtain⟨z,hz,e⟩:=Yz hy
   rw [e];exact hk.b z hz
theorem Nb (a:RL) (l:List LW) (cs:List Int) (ha:abx a) (hl1:l.length≤140737488351232) (hl2:∀x∈l,(x:LW).f0.size≤140737488351232) (_:cs.length≤140737488351232) (_:∀x∈cs,(Lit.int .i64 x).wf=true):aH T Tryz.prog 11 [.ag (VW a), .c (.sl pF l), .c (.sl 3 cs)] (.c (.sc (.bool true))):=by
 refine mQ hT Tryz.func11 (by kernel_rfl) rfl rfl (fun A=>?_)
 refine Vc.seq 0 hT ?_
 conv=>whnf
 refine Vc.seq 1 hT ?_
 conv=>whnf
 refine Split.mk (fun c1=>?_) (fun c1=>?_)
 ·conv=>whnf
  exact aC.mk ⟨rfl,rfl⟩ ⟨rfl,rfl⟩ ⟨rfl,trivial⟩
 have hf:cs.length≤1048576:=ac7 c1
 clear c1
 conv=>whnf
 refine Vc.seq 1 hT ?_
 conv=>whnf
 refine Vc.seq 1 hT ?_
 conv=>whnf
 refine aG.mk _ (abB a _ ha.1 ha.2 (by decide) (by decide)) ?_
 conv=>whnf
 refine Vc.seq 2 hT ?_
 conv=>whnf
 refine Split.mk (fun c1=>?_) (fun c1=>?_)
 ·conv=>whnf
  exact aC.mk ⟨rfl,rfl⟩ ⟨rfl,rfl⟩ ⟨rfl,trivial⟩
 have hsz:0≤Rz a 1048576:=Ov c1
 clear c1
 obtain⟨hL,hB,hcB,hkB,hk1,hk2,hle⟩:=abG (by decide) (by decide) hsz
 conv=>whnf
 refine Vc.seq 2 hT ?_
 conv=>whnf
 refine aG.mk _ (aaE l _ hsz hle hl1 hl2) ?_
 conv=>whnf
 refine Vc.seq 2 hT ?_
 conv=>whnf
 refine Split.mk (fun c1=>?_) (fun c1=>?_)
 ·conv=>whnf
  exact aC.mk ⟨rfl,rfl⟩ ⟨rfl,rfl⟩ ⟨rfl,trivial⟩
 obtain⟨hll,hlz⟩:=aaD hsz hle (Ov c1)
 clear c1
 have hto:=abC a hL hk1 hk2
 have hwl:(l.map tW).length=l.length:=List.length_map _
 have hwz:∀w∈l.map tW,(w:SW).f0.size≤1048576:=fun w hw=>by
  obtain⟨x,hx,rfl⟩:=List.mem_map.1 hw
  exact hlz x hx
 generalize hws:(l.map tW:List SW)=ws at hwl hwz
 have htl:aH T Tryz.prog 56 [.c (.sl pF l)] (.c (.ow eW ws)):=by subst hws;exact aaF l hll
 clear hws
 generalize tR a=B at hcB hB hkB hto
 have aea:cnt B.t≤1048576:=by omega
 clear hcB hsz hL hk1 hk2 hle
 have hG:=GR.of hB (Nat.le_trans aea (by decide)) hkB
 have YB:ws.length≤1048576:=by omega
 have him:=JZ B ws cs hG YB hwz
 have hsp:=J3 B ws cs hG YB hwz
 obtain⟨hRl,hRb⟩:=YA (cs:=cs) hkB YB
 generalize jW B ws cs=R at him hsp hRl hRb
 have htc:=abH cs hf
 have hbB:V5 B:=hG.bd
 have afv:=V8 B hkB (by omega)
 have hmB:=Yw B 1 hbB (by decide) (aaA B hkB (by omega))
 have heB:=abE B B hbB
 have hel:=aaG ws ws (by omega)
 have hec:=abI cs cs (by omega)
 have hml:=Wq ws (nV B 1).2 (by omega) (RG B) (by omega)
 have hp:=RG B
 have hmc:=YC cs ((nV B 1).2+2*ws.length) (by omega) (by omega) (by omega)
 have hRt:(bP (β:=SK) dV R 1).2≤4611686018427387904:=by
  have h1:=zQ R 1 1048576 hRb
  have h2:(2+1048576)*R.length≤(2+1048576)*8388608:=Nat.mul_le_mul_left _ hRl
  omega
 have abJ:∀y∈R,(y:SK).f1.length≤2097152:=fun y hy=>Nat.le_trans (hRb y hy) (by decide)
 have hmR:=LG R 1 (by omega) abJ (by decide) hRt
 have hhR:=Ws R 1 (by omega) abJ (by decide) hRt
 have heR:=RF R R (by omega) (fun y hy=>Nat.le_trans (hRb y hy) (by decide))
 conv=>whnf
 refine Vc.cut (α:=Unit) 60 (fun _=>True) (fun _=>[(8, .c (.hd 1)),(3, .c (.px 0 0)),(1,im pF l),(2,im 3 cs)]) (fun _=>[(1, .row 1 eK R),(0,yx a)]) hT ?_ (fun _ _=>?_)
 ·conv=>whnf
  refine aG.mk _ hto ?_
  conv=>whnf
  refine aG.mk _ htl ?_
  conv=>whnf
  refine aG.mk _ htc ?_
  conv=>whnf
  refine aG.mk _ hsp ?_
  conv=>whnf
  exact ku.mk ⟨(),trivial,ay [(1,67),(0,0)] rfl rfl rfl ⟨⟨rfl,rfl⟩,⟨rfl,rfl⟩,⟨rfl,rfl⟩,⟨rfl,rfl⟩,trivial⟩ ⟨dS rfl,⟨rfl,rfl⟩,trivial⟩⟩
 refine Vc.cut (α:=Unit) 60 (fun _=>True) (fun _=>[(9, .c (.px 2 0)),(8, .c (.hd 1)),(3, .c (.px 0 0)),(1,im pF l),(2,im 3 cs)]) (fun _=>[(2, .bx eG [.sc (.int .i64 B.v), .hd 3, .hd 4, .hd 5, .hd 6]),(3, .row 3 9 B.t.f0),(4, .row 4 eN B.t.f1),(5, .row 5 eS B.t.f2),(6, .row 6 eK B.k),(1, .row 1 eK R),(0,yx a)]) hT ?_ (fun _ _=>?_)
 ·conv=>whnf
  refine aG.mk _ hto ?_
  conv=>whnf
  exact ku.mk ⟨(),trivial,ay [(2,65),(3,61),(4,62),(5,63),(6,64),(1,1),(0,0)] rfl rfl rfl ⟨⟨rfl,rfl⟩,⟨rfl,rfl⟩,⟨rfl,rfl⟩,⟨rfl,rfl⟩,⟨rfl,rfl⟩,trivial⟩ ⟨⟨rfl,rfl⟩,ZO rfl,ZN rfl,ZM rfl,dS rfl,dS rfl,⟨rfl,rfl⟩,trivial⟩⟩
 refine Vc.cut (α:=Unit) 60 (fun _=>True) (fun _=>[(10, .c (.hd 7)),(9, .c (.px 2 0)),(8, .c (.hd 1)),(3, .c (.px 0 0)),(1,im pF l),(2,im 3 cs)]) (fun _=>[(7, .row 7 eW ws),(2, .bx eG [.sc (.int .i64 B.v), .hd 3, .hd 4, .hd 5, .hd 6]),(3, .row 3 9 B.t.f0),(4, .row 4 eN B.t.f1),(5, .row 5 eS B.t.f2),(6, .row 6 eK B.k),(1, .row 1 eK R),(0,yx a)]) hT ?_ (fun _ _=>?_)
 ·conv=>whnf
  refine aG.mk _ htl ?_
  conv=>whnf
  exact ku.mk ⟨(),trivial,ay [(7,60),(2,2),(3,3),(4,4),(5,5),(6,6),(1,1),(0,0)] rfl rfl rfl ⟨⟨rfl,rfl⟩,⟨rfl,rfl⟩,⟨rfl,rfl⟩,⟨rfl,rfl⟩,⟨rfl,rfl⟩,⟨rfl,rfl⟩,trivial⟩ ⟨ZQ rfl,⟨rfl,rfl⟩,ZO rfl,ZN rfl,ZM rfl,dS rfl,dS rfl,⟨rfl,rfl⟩,trivial⟩⟩
 refine Vc.cut (α:=Unit) 60 (fun _=>True) (fun _=>[(11, .c (.hd 8)),(10, .c (.hd 7)),(9, .c (.px 2 0)),(8, .c (.hd 1)),(3, .c (.px 0 0)),(1,im pF l),(2,im 3 cs)]) (fun _=>[(8, .row 8 3 cs),(7, .row 7 eW ws),(2, .bx eG [.sc (.int .i64 B.v), .hd 3, .hd 4, .hd 5, .hd 6]),(3, .row 3 9 B.t.f0),(4, .row 4 eN B.t.f1),(5, .row 5 eS B.t.f2),(6, .row 6 eK B.k),(1, .row 1 eK R),(0,yx a)]) hT ?_ (fun _ _=>?_)
 ·conv=>whnf
  refine aG.mk _ htc ?_
  conv=>whnf
  exact ku.mk ⟨(),trivial,ay [(8,60),(7,7),(2,2),(3,3),(4,4),(5,5),(6,6),(1,1),(0,0)] rfl rfl rfl ⟨⟨rfl,rfl⟩,⟨rfl,rfl⟩,⟨rfl,rfl⟩,⟨rfl,rfl⟩,⟨rfl,rfl⟩,⟨rfl,rfl⟩,⟨rfl,rfl⟩,trivial⟩ ⟨ZR rfl,ZQ rfl,⟨rfl,rfl⟩,ZO rfl,ZN rfl,ZM rfl,dS rfl,dS rfl,⟨rfl,rfl⟩,trivial⟩⟩
 refine Vc.cut (α:=Unit) 60 (fun _=>True) (fun _=>[(12, .c (.hd 9)),(11, .c (.hd 8)),(10, .c (.hd 7)),(9, .c (.px 2 0)),(8, .c (.hd 1)),(3, .c (.px 0 0)),(1,im pF l),(2,im 3 cs)]) (fun _=>[(9, .row 9 eK R),(8, .row 8 3 cs),(7, .row 7 eW ws),(2, .bx eG [.sc (.int .i64 B.v), .hd 3, .hd 4, .hd 5, .hd 6]),(3, .row 3 9 B.t.f0),(4, .row 4 eN B.t.f1),(5, .row 5 eS B.t.f2),(6, .row 6 eK B.k),(1, .row 1 eK R),(0,yx a)]) hT ?_ (fun _ _=>?_)
 ·conv=>whnf
  refine aG.mk _ him ?_
  conv=>whnf
  exact ku.mk ⟨(),trivial,ay [(9,60),(8,8),(7,7),(2,2),(3,3),(4,4),(5,5),(6,6),(1,1),(0,0)] rfl rfl rfl ⟨⟨rfl,rfl⟩,⟨rfl,rfl⟩,⟨rfl,rfl⟩,⟨rfl,rfl⟩,⟨rfl,rfl⟩,⟨rfl,rfl⟩,⟨rfl,rfl⟩,⟨rfl,rfl⟩,trivial⟩ ⟨dS rfl,ZR rfl,ZQ rfl,⟨rfl,rfl⟩,ZO rfl,ZN rfl,ZM rfl,dS rfl,dS rfl,⟨rfl,rfl⟩,trivial⟩⟩
 refine Vc.seq 60 hT ?_
 conv=>whnf
 refine aG.mk _ heR ?_
 conv=>whnf
 refine Split.mk (fun c1=>(iH (dA c1) rfl).elim) (fun c1=>?_)
 clear c1
 conv=>whnf
 refine Vc.seq 60 hT ?_
 conv=>whnf
 refine aG.mk _ hto ?_
 conv=>whnf
 refine aG.mk _ heB ?_
 conv=>whnf
 refine bZ.mk ⟨by kernel_rfl,by kernel_rfl⟩ ?_
 conv=>whnf
 refine Split.mk (fun c1=>(iH (dA c1) rfl).elim) (fun c1=>?_)
 clear c1
 conv=>whnf
 refine Vc.seq 70 hT ?_
 conv=>whnf
 refine aG.mk _ htl ?_
 conv=>whnf
 refine aG.mk _ hel ?_
 conv=>whnf
 refine Split.mk (fun c1=>(iH (dA c1) rfl).elim) (fun c1=>?_)
 clear c1
 conv=>whnf
 refine Vc.seq 80 hT ?_
 conv=>whnf
 refine aG.mk _ htc ?_
 conv=>whnf
 refine aG.mk _ hec ?_
 conv=>whnf
 refine Split.mk (fun c1=>(iH (dA c1) rfl).elim) (fun c1=>?_)
 clear c1
 conv=>whnf
 refine Vc.seq 130 hT ?_
 conv=>whnf
 refine Vc.cut (α:=Unit) 100 (fun _=>True) (fun _=>[(13,i64 (((nV B 1).2:Nat):Int)),(12, .c (.hd 9)),(11, .c (.hd 8)),(10, .c (.hd 7)),(8, .c (.hd 1)),(3, .c (.px 0 0)),(1,im pF l),(2,im 3 cs)]) (fun _=>[(9, .row 9 eK R),(8, .row 8 3 cs),(7, .row 7 eW ws),(1, .row 1 eK R),(0,yx a)]) hT ?_ (fun _ _=>?_)
 ·conv=>whnf
  refine aG.wr [[NW.rd,NW.wr 9 (nV B 1).1.t.f0,NW.wr eN (nV B 1).1.t.f1,NW.wr eS (nV B 1).1.t.f2,NW.wr eK (nV B 1).1.k],[NW.rd]] (.c (.sc (.int .i64 (((nV B 1).2:Nat):Int)))) ?_
  conv=>whnf
  refine lC.mk hmB ?_
  conv=>whnf
  exact ku.mk ⟨(),trivial,ay [(9,9),(8,8),(7,7),(1,1),(0,0)] rfl rfl rfl ⟨⟨rfl,rfl⟩,⟨rfl,rfl⟩,⟨rfl,rfl⟩,⟨rfl,rfl⟩,⟨rfl,rfl⟩,⟨rfl,rfl⟩,⟨rfl,rfl⟩,⟨rfl,rfl⟩,trivial⟩ ⟨dS rfl,ZR rfl,ZQ rfl,dS rfl,⟨rfl,rfl⟩,trivial⟩⟩
 refine Vc.cut (α:=Unit) 100 (fun _=>True) (fun _=>[(13,i64 ((((nV B 1).2+2*ws.length):Nat):Int)),(12, .c (.hd 9)),(11, .c (.hd 8)),(8, .c (.hd 1)),(3, .c (.px 0 0)),(1,im pF l),(2,im 3 cs)]) (fun _=>[(9, .row 9 eK R),(8, .row 8 3 cs),(1, .row 1 eK R),(0,yx a)]) hT ?_ (fun _ _=>?_)
 ·conv=>whnf
  refine aG.wr [[NW.wr eW (jF 2 fW (nV B 1).2 ws.length)],[NW.rd]] (.c (.sc (.int .i64 ((((nV B 1).2+2*ws.length):Nat):Int)))) ?_
  conv=>whnf
  refine lC.mk hml ?_
  conv=>whnf
  exact ku.mk ⟨(),trivial,ay [(9,9),(8,8),(1,1),(0,0)] rfl rfl rfl ⟨⟨rfl,rfl⟩,⟨rfl,rfl⟩,⟨rfl,rfl⟩,⟨rfl,rfl⟩,⟨rfl,rfl⟩,⟨rfl,rfl⟩,⟨rfl,rfl⟩,trivial⟩ ⟨dS rfl,ZR rfl,dS rfl,⟨rfl,rfl⟩,trivial⟩⟩
 refine Vc.cut (α:=Unit) 100 (fun _=>True) (fun _=>[(13,i64 ((((nV B 1).2+2*ws.length+1*cs.length):Nat):Int)),(12, .c (.hd 9)),(8, .c (.hd 1)),(3, .c (.px 0 0)),(1,im pF l),(2,im 3 cs)]) (fun _=>[(9, .row 9 eK R),(1, .row 1 eK R),(0,yx a)]) hT ?_ (fun _ _=>?_)
 ·conv=>whnf
  refine aG.wr [[NW.wr 3 (jF 1 fI ((nV B 1).2+2*ws.length) cs.length)],[NW.rd]] (.c (.sc (.int .i64 ((((nV B 1).2+2*ws.length+1*cs.length):Nat):Int)))) ?_
  conv=>whnf
  refine lC.mk hmc ?_
  conv=>whnf
  exact ku.mk ⟨(),trivial,ay [(9,9),(1,1),(0,0)] rfl rfl rfl ⟨⟨rfl,rfl⟩,⟨rfl,rfl⟩,⟨rfl,rfl⟩,⟨rfl,rfl⟩,⟨rfl,rfl⟩,⟨rfl,rfl⟩,trivial⟩ ⟨dS rfl,dS rfl,⟨rfl,rfl⟩,trivial⟩⟩
 refine Vc.seq 60 hT ?_
 conv=>whnf
 refine Split.mk (fun c1=>ZU c1) (fun c1=>?_)
 clear c1
 conv=>whnf
 refine aG.mk _ heR ?_
 conv=>whnf
 refine Split.mk (fun c1=>(iH (dA c1) rfl).elim) (fun c1=>?_)
 clear c1
 conv=>whnf
 refine Vc.seq 100 hT ?_
 conv=>whnf
 refine Vc.cut (α:=Unit) 100 (fun _=>True) (fun _=>[(14,i64 (((bP (β:=SK) dV R 1).2:Nat):Int)),(12, .c (.hd 9)),(8, .c (.hd 1)),(3, .c (.px 0 0)),(1,im pF l),(2,im 3 cs)]) (fun _=>[(9, .row 9 eK ((bP (β:=SK) dV R 1).1)),(1, .row 1 eK R),(0,yx a)]) hT ?_ (fun _ _=>?_)
 ·conv=>whnf
  refine aG.wr [[NW.wr eK (bP (β:=SK) dV R 1).1],[NW.rd]] (.c (.sc (.int .i64 (((bP (β:=SK) dV R 1).2:Nat):Int)))) ?_
  conv=>whnf
  refine lC.mk hmR ?_
  conv=>whnf
  exact ku.mk ⟨(),trivial,ay [(9,9),(1,1),(0,0)] rfl rfl rfl ⟨⟨rfl,rfl⟩,⟨rfl,rfl⟩,⟨rfl,rfl⟩,⟨rfl,rfl⟩,⟨rfl,rfl⟩,⟨rfl,rfl⟩,trivial⟩ ⟨dS rfl,dS rfl,⟨rfl,rfl⟩,trivial⟩⟩
 refine Vc.seq 60 hT ?_
 conv=>whnf
 refine Vc.seq 60 hT ?_
 conv=>whnf
 refine aG.mk (.c (.sc (.int .i64 (((bP (β:=SK) dV R 1).2:Nat):Int)))) hhR ?_
 conv=>whnf
 refine Vc.seq 60 hT ?_
 conv=>whnf
 refine Split.mk (fun c1=>ZU c1) (fun c1=>?_)
 clear c1
 conv=>whnf
 refine Vc.seq 60 hT ?_
 conv=>whnf
 refine Split.mk (fun c1=>(wF c1 rfl).elim) (fun c1=>?_)
 clear c1
 conv=>whnf
 refine Vc.cut (α:=Unit) 60 (fun _=>True) (fun _=>[(16, .c (.hd 10)),(14,i64 (((bP (β:=SK) dV R 1).2:Nat):Int)),(12, .c (.hd 9)),(8, .c (.hd 1)),(3, .c (.px 0 0)),(1,im pF l),(2,im 3 cs)]) (fun _=>[(10, .row 10 eK R),(9, .row 9 eK ((bP (β:=SK) dV R 1).1)),(1, .row 1 eK R),(0,yx a)]) hT ?_ (fun _ _=>?_)
 ·conv=>whnf
  refine aG.mk _ hto ?_
  conv=>whnf
  refine aG.mk _ htl ?_
  conv=>whnf
  refine aG.mk _ htc ?_
  conv=>whnf
  refine aG.mk _ him ?_
  conv=>whnf
  exact ku.mk ⟨(),trivial,ay [(10,67),(9,9),(1,1),(0,0)] rfl rfl rfl ⟨⟨rfl,rfl⟩,⟨rfl,rfl⟩,⟨rfl,rfl⟩,⟨rfl,rfl⟩,⟨rfl,rfl⟩,⟨rfl,rfl⟩,⟨rfl,rfl⟩,trivial⟩ ⟨dS rfl,dS rfl,dS rfl,⟨rfl,rfl⟩,trivial⟩⟩
 refine Vc.seq 60 hT ?_
 conv=>whnf
 refine aG.mk _ heR ?_
 conv=>whnf
 refine Split.mk (fun c1=>(iH (dA c1) rfl).elim) (fun c1=>?_)
 clear c1
 conv=>whnf
 refine Vc.seq 60 hT ?_
 conv=>whnf
 refine Vc.seq 60 hT ?_
 conv=>whnf
 refine aG.mk (.c (.sc (.int .i64 (((bP (β:=SK) dV R 1).2:Nat):Int)))) hhR ?_
 conv=>whnf
 refine Vc.seq 60 hT ?_
 conv=>whnf
 refine Split.mk (fun c1=>ZU c1) (fun c1=>?_)
 clear c1
 conv=>whnf
 refine Vc.seq 60 hT ?_
 conv=>whnf
 refine Split.mk (fun c1=>(wF c1 rfl).elim) (fun c1=>?_)
 clear c1
 conv=>whnf
 refine Vc.of 60 hT ?_
 conv=>whnf
 exact aC.mk ⟨rfl,rfl⟩ ⟨rfl,rfl⟩ ⟨rfl,trivial⟩
end Go.Proofs.YtcnfgfomholheaaGreatDoor.Q
end
