/- Several texts of this claim in one (a claim holds at most 60 files). -/
import Derived.Test.YtcnfgfomholheaaGreatDoorZy
import Derived.Test.YtcnfgfomholheaaGreatDoorZp
import Derived.Laws.Cover1
import Derived.Laws.IdiomCopy
import Derived.Lib.Overlaps
import Derived.Lib.SliceRun
import Derived.Maps.Range
import Derived.Shelf.Spec.SlicesInsertGrow
import Derived.Shelf.RegionOpenPlain
import Derived.Test.YtcnfgfomholheaaGreatDoorZc
import Derived.Test.YtcnfgfomholheaaGreatDoorPx8
section
namespace Go.Proofs.YtcnfgfomholheaaGreatDoor.Q
open Go.RowKit Go.Proofs.YtcnfgfomholheaaGreatDoor.Z Go.Proofs.YtcnfgfomholheaaGreatDoor.Pure
set_option linter.unusedVariables false
set_option linter.unusedSimpArgs false
set_option maxRecDepth 100000
set_option maxHeartbeats 4000000
def acU (t:ByteArray) (l:List SS):List SS:=l.filter fun s=>!(s.f0.toList==t.toList)
theorem Tn {α:Type} {p:α→Bool} {d:α}:∀{l:List α} {i:Nat},i≤l.length→(∀j,j<i→p (l.getD j d)=true)→(i=l.length∨p (l.getD i d)=false)→l.take i=l.takeWhile p∧l.drop i=l.dropWhile p
 | [],i,hi,_,_=>by simp
 | a::l,0,_,_,h=>by
   rcases h with h | h
   ·simp at h
   ·have h:p a=false:=h
    simp [List.takeWhile_cons,List.dropWhile_cons,h]
 | a::l,i+1,hi,h1,h2=>by
   have ha:p a=true:=h1 0 (Nat.succ_pos i)
   have ih:=Tn (p:=p) (d:=d) (l:=l) (i:=i) (by simpa using hi) (fun j hj=>h1 (j+1) (by omega)) (by simpa using h2)
   simp [List.takeWhile_cons,List.dropWhile_cons,ha,ih.1,ih.2]
theorem qg {l l':List SS} (h:l=l'):bU (T:=T) eS l eS l':=fO h
theorem pI {l l':List SN} (h:l=l'):bU (T:=T) eN l eN l':=fO h
theorem Ac {l l':List SE} (h:l=l'):bU (T:=T) eE l eE l':=fO h
theorem qh {l l':List ByteArray} (h:l=l'):bU (T:=T) 9 l 9 l':=fO h
end Go.Proofs.YtcnfgfomholheaaGreatDoor.Q
end
section
namespace Go.Proofs.YtcnfgfomholheaaGreatDoor.Q
open Go.RowKit Go.Proofs.YtcnfgfomholheaaGreatDoor.Z Go.Proofs.YtcnfgfomholheaaGreatDoor.Pure
set_option linter.unusedVariables false
set_option linter.unusedSimpArgs false
set_option maxRecDepth 100000
set_option maxHeartbeats 4000000
def QX (t s:ByteArray):Bool:=Op.bytesLess s.toList t.toList
def g9 (l:List ByteArray) (k:Nat):ByteArray:=l.getD k (T.df 9)
structure Bs (l:List ByteArray) (t:ByteArray) (i j:Nat):Prop where
 le:i≤j
 hi:j≤l.length
 lo:∀k,k<i→QX t (g9 l k)=true
 up:∀k,j≤k→k<l.length→QX t (g9 l k)=false
def abe (t:ByteArray) (l:List ByteArray):Nat:=(l.takeWhile (QX t)).length
theorem Bs.pos {l:List ByteArray} {t:ByteArray} {i:Nat} (h:Bs l t i i):abe t l=i:=by
 have h1:=h.hi
 have:=(Tn (p:=QX t) (d:=T.df 9) (l:=l) (i:=i) h1 h.lo (by
  rcases Nat.lt_or_ge i l.length with h2 | h2
  ·exact .inr (h.up i (Nat.le_refl _) h2)
  ·exact .inl (by omega))).1
 unfold abe
 rw [←this,List.length_take]
 omega
end Go.Proofs.YtcnfgfomholheaaGreatDoor.Q
end
section
namespace Go.Proofs.YtcnfgfomholheaaGreatDoor.Q
open Go.RowKit Go.Proofs.YtcnfgfomholheaaGreatDoor.Z Go.Proofs.YtcnfgfomholheaaGreatDoor.Pure
set_option linter.unusedVariables false
set_option linter.unusedSimpArgs false
set_option maxRecDepth 100000
set_option maxHeartbeats 4000000
theorem Gz:∀(a b:List UInt8),Op.bytesLess a b=true→Op.bytesLess b a=false
 | [],[],h=>by simp [Op.bytesLess] at h
 | [],b::y,_=>rfl
 | a::x,[],h=>by simp [Op.bytesLess] at h
 | a::x,b::y,h=>by
   simp only [Op.bytesLess,Bool.or_eq_true,Bool.and_eq_true,decide_eq_true_eq,beq_iff_eq] at h
   simp only [Op.bytesLess,Bool.or_eq_false_iff,Bool.and_eq_false_iff,decide_eq_false_iff_not,beq_eq_false_iff_ne,ne_eq]
   rcases h with h | ⟨h1,h2⟩
   ·exact⟨fun h'=>absurd (UInt8.lt_trans h h') (UInt8.lt_irrefl _), .inl (fun e=>by subst e;exact UInt8.lt_irrefl _ h)⟩
   ·subst h1
    exact⟨UInt8.lt_irrefl _, .inr (Gz x y h2)⟩
theorem ED (a:List UInt8):Op.bytesLess a a=false:=by
 cases h:Op.bytesLess a a with
 | false=>rfl
 | true=>exact absurd (Gz a a h) (by rw [h];decide)
theorem qj:∀(a b c:List UInt8),Op.bytesLess a b=true→Op.bytesLess b c=true→Op.bytesLess a c=true
 | [],[],_,h,_=>by simp [Op.bytesLess] at h
 | a::x,[],_,h,_=>by simp [Op.bytesLess] at h
 | _,b::y,[],_,h=>by simp [Op.bytesLess] at h
 | [],b::y,c::z,_,_=>rfl
 | a::x,b::y,c::z,h,h2=>by
   simp only [Op.bytesLess,Bool.or_eq_true,Bool.and_eq_true,decide_eq_true_eq,beq_iff_eq] at h h2⊢
   rcases h with h | ⟨rfl,h⟩
   ·rcases h2 with h2 | ⟨rfl,h2⟩
    ·exact .inl (UInt8.lt_trans h h2)
    ·exact .inl h
   ·rcases h2 with h2 | ⟨rfl,h2⟩
    ·exact .inl h2
    ·exact .inr ⟨rfl,qj x y z h h2⟩
inductive Tr:SN→Prop
 | mk (n:SN) (hl:n.f0.length=n.f1.length) (hr:n.f0.Pairwise (fun a b=>Op.bytesLess a.toList b.toList=true)) (hk:∀k∈n.f1,Tr k):Tr n
theorem Tr.len {n:SN} (h:Tr n):n.f0.length=n.f1.length:=by cases h;assumption
theorem Tr.kid {n:SN} (h:Tr n):∀k∈n.f1,Tr k:=by cases h;assumption
theorem Tr.rise {n:SN} (h:Tr n):n.f0.Pairwise (fun a b=>Op.bytesLess a.toList b.toList=true):=by cases h;assumption
theorem Tr.up {n:SN} (h:Tr n) (t:ByteArray):∀a b,a≤b→b<n.f0.length→QX t (g9 n.f0 b)=true→QX t (g9 n.f0 a)=true:=by
 cases h with
 | mk _ _ hr _=>
   intro a b hab hb h
   rcases Nat.lt_or_eq_of_le hab with h1 | rfl
   ·have h2:=List.pairwise_iff_getElem.1 hr a b (by omega) hb h1
    rw [show g9 n.f0 b=n.f0[b] from getD_in _ _ _ hb] at h
    have e:=qj _ _ _ h2 h
    rw [←getD_in n.f0 a (T.df 9) (by omega)] at e
    exact e
   ·exact h
abbrev XZ (n:SN):RS T.Tb:= .ag [.ow 9 n.f0, .ow eN n.f1, .ow eS n.f2]
end Go.Proofs.YtcnfgfomholheaaGreatDoor.Q
end
section
namespace Go.Proofs.YtcnfgfomholheaaGreatDoor.Q
open Go.RowKit Go.Proofs.YtcnfgfomholheaaGreatDoor.Z Go.Proofs.YtcnfgfomholheaaGreatDoor.Pure
set_option linter.unusedVariables false
set_option linter.unusedSimpArgs false
set_option maxRecDepth 100000
set_option maxHeartbeats 4000000
def nV (p:List ByteArray) (s:SS):SE:=⟨dB p,s.f0,s.f1,s.f2⟩
theorem Fb (p:List ByteArray) (n:SN):iM p n=n.f2.map (nV p)++fA p n.f0 n.f1:=aaj p n
theorem tZ {p:List ByteArray} {d:ByteArray} {e:SN}:∀{ns:List ByteArray} {ks:List SN} {k:Nat},k<ns.length→k<ks.length→fA p (ns.take (k+1)) (ks.take (k+1))=fA p (ns.take k) (ks.take k)++iM (p++[ns.getD k d]) (ks.getD k e)
 | [],_,_,h,_=>by simp at h
 | _::_,[],_,_,h=>by simp at h
 | x::r,y::q,0,_,_=>by
   simp only [List.take_succ_cons,List.take_zero,fA,List.append_nil,List.nil_append]
   rfl
 | x::r,y::q,k+1,h,h2=>by
   have:=tZ (p:=p) (d:=d) (e:=e) (ns:=r) (ks:=q) (k:=k) (by simpa using h) (by simpa using h2)
   simp only [List.take_succ_cons] at this⊢
   rw [fA,fA,this,List.append_assoc]
   rfl
theorem oD {p:List ByteArray}:∀{ns:List ByteArray} {ks:List SN} {k:Nat},(fA p (ns.take k) (ks.take k)).length≤(fA p ns ks).length
 | [],ks,k=>by rw [List.take_nil,fA];exact Nat.zero_le _
 | _::_,[],0=>by rw [List.take_zero,fA];exact Nat.zero_le _
 | _::_,[],k+1=>by rw [List.take_nil,List.take_succ_cons,fA];exact Nat.zero_le _
 | x::r,y::q,0=>by rw [List.take_zero,fA];exact Nat.zero_le _
 | x::r,y::q,k+1=>by
   have:=oD (p:=p) (ns:=r) (ks:=q) (k:=k)
   simp only [List.take_succ_cons,fA,List.length_append]
   omega
theorem Ad {l:List SS} {p:List ByteArray} {k:Nat} {d:SS} (h:k<l.length):(l.take k).map (nV p)++[nV p (l.getD k d)]=(l.take (k+1)).map (nV p):=by
 rw [List.take_succ_eq_append_getElem h,List.map_append,getD_in (α:=SS) l k d h];rfl
theorem Nv (n:SN) (p:List ByteArray) (hn:Bd n) (hl:n.f0.length=n.f1.length) (hp:p.length≤7) (hz:∀x∈p,x.size≤1048576) (hc:(iM p n).length≤4194304)
  (ih:∀i,i<n.f1.length→aG T Tryz.prog 136 [.ag (T.cells eN (bZ T eN n.f1 i)), .c (.sl 9 (p++[g9 n.f0 i]))] (.c (.ow eE (iM (p++[g9 n.f0 i]) (bZ T eN n.f1 i))))):aG T Tryz.prog 136 [.ag (T.cells eN n), .c (.sl 9 p)] (.c (.ow eE (iM p n))):=by
 have hl2:=hn.l2
 rw [Fb] at hc⊢
 rw [List.length_append,List.length_map] at hc
 refine aH hT Tryz.func136 (by kernel_rfl) rfl rfl (fun A=>?_)
 conv=>whnf
 refine dR.mk {k:Nat // k≤n.f2.length} (fun q=>(2,[(14,i64 q.1),(13,i64 n.f2.length),(12,im eS n.f2),(5, .c (.hd 1)),(2, .c (.px 0 0)),(1,im 9 p)],[(1, .row 1 eE ((n.f2.take q.1).map (nV p))),(0,Ae n)])) (fun q=>n.f2.length - q.1) ⟨0,Nat.zero_le _⟩ (aC [(1,1),(0,0)] rfl rfl rfl ⟨⟨rfl,rfl⟩,⟨rfl,rfl⟩,⟨rfl,rfl⟩,⟨rfl,rfl⟩,⟨rfl,rfl⟩,⟨rfl,rfl⟩,trivial⟩ ⟨Ac rfl,⟨rfl,rfl⟩,trivial⟩) ?_
 rintro⟨k,hk⟩
 conv=>whnf
 refine Split.mk (fun c=>?_) (fun c=>?_)
 ·have hk2:k<n.f2.length:=iJ c
  clear c
  conv=>whnf
  refine Need.mk (idx hk2) ?_
  conv=>whnf
  refine ay.mk _ (Nw p (Nat.le_trans hp (by decide)) (rG p hp hz)) ?_
  conv=>whnf
  refine Need.mk (dD (a:=((n.f2.take k).map (nV p)).length) (b:=1) (by rw [List.length_map,List.length_take];omega) (by decide)) ?_
  conv=>whnf
  refine bC.mk ⟨by kernel_rfl,by kernel_rfl⟩ ?_
  conv=>whnf
  exact bM.mk ⟨⟨k+1,hk2⟩,Nat.sub_lt_sub_left hk2 (Nat.lt_succ_self k),aC [(1,5),(0,0)] rfl rfl rfl ⟨⟨rfl,congrArg i64 (dZ hk2 (by omega))⟩,⟨rfl,rfl⟩,⟨rfl,rfl⟩,⟨rfl,rfl⟩,⟨rfl,rfl⟩,⟨rfl,rfl⟩,trivial⟩ ⟨Ac (Ad (d:=T.df eS) hk2),⟨rfl,rfl⟩,trivial⟩⟩
 ·have hk2:k=n.f2.length:=Nat.le_antisymm hk (iK c)
  clear c
  subst hk2
  have hl1:=hn.l1
  conv=>whnf
  refine dR.mk {k:Nat // k≤n.f1.length} (fun q=>(2,[(34,i64 q.1),(33,i64 n.f1.length),(32,im eN n.f1),(5, .c (.hd 1)),(2, .c (.px 0 0)),(1,im 9 p)],[(1, .row 1 eE (n.f2.map (nV p)++fA p (n.f0.take q.1) (n.f1.take q.1))),(0,Ae n)])) (fun q=>n.f1.length - q.1) ⟨0,Nat.zero_le _⟩ (aC [(1,1),(0,0)] rfl rfl rfl ⟨⟨rfl,rfl⟩,⟨rfl,rfl⟩,⟨rfl,rfl⟩,⟨rfl,rfl⟩,⟨rfl,rfl⟩,⟨rfl,rfl⟩,trivial⟩ ⟨Ac (by rw [List.take_length];simp [fA];rfl),⟨rfl,rfl⟩,trivial⟩) ?_
  rintro⟨k,hk⟩
  conv=>whnf
  refine Split.mk (fun c=>?_) (fun c=>?_)
  ·have hk2:k<n.f1.length:=iJ c
   have hk3:k<n.f0.length:=by omega
   clear c
   conv=>whnf
   refine Need.mk (idx hk2) ?_
   conv=>whnf
   refine Need.mk ⟨yP,dD (a:=0) (b:=p.length) (by omega) (by decide)⟩ ?_
   conv=>whnf
   refine Need.mk (idx hk3) ?_
   conv=>whnf
   refine Need.mk (dD (a:=p.length) (b:=1) (by omega) (by decide)) ?_
   conv=>whnf
   refine ay.mk _ (ih k hk2) ?_
   conv=>whnf
   have hsn:=tZ (p:=p) (d:=T.df 9) (e:=T.df eN) hk3 hk2
   have hle:=oD (p:=p) (ns:=n.f0) (ks:=n.f1) (k:=k+1)
   rw [hsn,List.length_append] at hle
   refine Need.mk (dD (a:=(n.f2.map (nV p)++fA p (n.f0.take k) (n.f1.take k)).length) (b:=(iM (p++[g9 n.f0 k]) (bZ T eN n.f1 k)).length) (by rw [List.length_append,List.length_map];have hle':_+(iM (p++[g9 n.f0 k]) (bZ T eN n.f1 k)).length≤_:=hle;omega) (by decide)) ?_
   conv=>whnf
   refine bC.mk ⟨by kernel_rfl,by kernel_rfl⟩ ?_
   conv=>whnf
   exact bM.mk ⟨⟨k+1,hk2⟩,Nat.sub_lt_sub_left hk2 (Nat.lt_succ_self k),aC [(1,8),(0,0)] rfl rfl rfl ⟨⟨rfl,congrArg i64 (dZ hk2 (by omega))⟩,⟨rfl,rfl⟩,⟨rfl,rfl⟩,⟨rfl,rfl⟩,⟨rfl,rfl⟩,⟨rfl,rfl⟩,trivial⟩ ⟨Ac (show(n.f2.map (nV p)++fA p (n.f0.take k) (n.f1.take k))++iM (p++[g9 n.f0 k]) (bZ T eN n.f1 k)=n.f2.map (nV p)++fA p (n.f0.take (k+1)) (n.f1.take (k+1)) by rw [hsn,List.append_assoc];rfl),⟨rfl,rfl⟩,trivial⟩⟩
  ·have hk2:k=n.f1.length:=Nat.le_antisymm hk (iK c)
   clear c
   conv=>whnf
   exact aA.mk ⟨rfl,rfl⟩ ⟨rfl,rfl⟩ ⟨Ac (by show n.f2.map (nV p)++fA p (n.f0.take k) (n.f1.take k)=_;rw [hk2,List.take_length,←hl,List.take_length]),trivial⟩
theorem KH {p:List ByteArray} {n:SN} {i:Nat} (h:i<n.f1.length) (hl:n.f0.length=n.f1.length):(iM (p++[g9 n.f0 i]) (bZ T eN n.f1 i)).length≤(iM p n).length:=by
 have h3:i<n.f0.length:=by omega
 have hsn:=tZ (p:=p) (d:=T.df 9) (e:=T.df eN) h3 h
 have hle:=oD (p:=p) (ns:=n.f0) (ks:=n.f1) (k:=i+1)
 rw [hsn,List.length_append] at hle
 rw [Fb,List.length_append]
 have hle':_+(iM (p++[g9 n.f0 i]) (bZ T eN n.f1 i)).length≤_:=hle
 omega
theorem Ny {l:List ByteArray} {i:Nat} (h:i<l.length):g9 l i∈l:=getD_mem (l:=l) (d:=T.df 9) h
theorem Nz {l:List SN} {i:Nat} (h:i<l.length):bZ T eN l i∈l:=getD_mem (l:=l) (d:=T.df eN) h
inductive Dp:Nat→SN→Prop
 | mk (d:Nat) (n:SN) (h:n.f1≠[]→0<d) (hk:∀k∈n.f1,Dp (d - 1) k):Dp d n
theorem Dp.pos {d:Nat} {n:SN} (h:Dp d n) (hne:n.f1≠[]):0<d:=by cases h with | mk _ _ h _=>exact h hne
theorem Dp.kid {d:Nat} {n:SN} (h:Dp d n):∀k∈n.f1,Dp (d - 1) k:=by cases h with | mk _ _ _ h=>exact h
theorem entriesOf:∀(n:SN) (p:List ByteArray) (d:Nat),Bd n→Tr n→Dp d n→p.length+d≤7→(∀x∈p,x.size≤1048576)→(iM p n).length≤4194304→aG T Tryz.prog 136 [.ag (T.cells eN n), .c (.sl 9 p)] (.c (.ow eE (iM p n))):=fun n p d hn ht hd hp hz hc=>
 Nv n p hn ht.len (by omega) hz hc (fun i hi=>by
  have hm:bZ T eN n.f1 i∈n.f1:=Nz hi
  have h9:g9 n.f0 i∈n.f0:=Ny (by rw [ht.len];exact hi)
  have hpos:=hd.pos (fun e=>by rw [e] at hi;simp at hi)
  have hx:(bZ T eN n.f1 i:SN)∈n.f1:=hm
  exact entriesOf (bZ T eN n.f1 i) (p++[g9 n.f0 i]) (d - 1) (hn.kid _ hm) (ht.kid _ hm) (hd.kid _ hm) (by rw [List.length_append];show p.length+1+(d - 1)≤7;omega) (fun y hy=>(List.mem_append.1 hy).elim (hz y) (fun h=>by rw [List.mem_singleton.1 h];exact hn.z0 _ h9)) (Nat.le_trans (KH hi ht.len) hc))
termination_by n=>SizeOf.sizeOf n
decreasing_by exact lY hm
theorem Qo (n:SN) (hn:Bd n) (hg:jJ n=true→Tr n∧Dp 7 n) (hc:(jZ n).length≤4194304):aG T Tryz.prog 71 [.ag (T.cells eN n)] (.c (.ow eE (jZ n))):=by
 refine aH hT Tryz.func71 (by kernel_rfl) rfl rfl (fun A=>?_)
 conv=>whnf
 refine ay.mk _ (GH n hn) ?_
 conv=>whnf
 refine Split.mk (fun c=>?_) (fun c=>?_)
 ·have h0:jJ n=false:=bI c
  conv=>whnf
  exact aA.mk ⟨rfl,rfl⟩ ⟨rfl,rfl⟩ ⟨⟨rfl,show jZ n=[] by unfold jZ;rw [h0];rfl⟩,trivial⟩
 ·have h0:jJ n=true:=bQ c
  have he:jZ n=iM [] n:=by unfold jZ;rw [if_pos h0]
  rw [he] at hc⊢
  conv=>whnf
  refine ay.mk _ (KI (entriesOf n [] 7 hn (hg h0).1 (hg h0).2 (by decide) (fun x hx=>by cases hx) hc)) ?_
  conv=>whnf
  exact aA.mk ⟨rfl,rfl⟩ ⟨rfl,rfl⟩ ⟨rfl,trivial⟩
end Go.Proofs.YtcnfgfomholheaaGreatDoor.Q
end
section
namespace Go.Proofs.YtcnfgfomholheaaGreatDoor.Q
open Go.RowKit Go.Proofs.YtcnfgfomholheaaGreatDoor.Z Go.Proofs.YtcnfgfomholheaaGreatDoor.Pure
set_option linter.unusedVariables false
set_option linter.unusedSimpArgs false
set_option maxRecDepth 100000
set_option maxHeartbeats 4000000
end Go.Proofs.YtcnfgfomholheaaGreatDoor.Q
end
section
namespace Go.Proofs.YtcnfgfomholheaaGreatDoor.Q
open Go.RowKit Go.Proofs.YtcnfgfomholheaaGreatDoor.Z Go.Proofs.YtcnfgfomholheaaGreatDoor.Pure
set_option linter.unusedVariables false
set_option linter.unusedSimpArgs false
set_option maxRecDepth 100000
set_option maxHeartbeats 4000000
theorem Qp (n:SN) (hn:Bd n) (ih:∀k∈n.f1,aG T Tryz.prog 95 [.ag (T.cells eN k)] (XZ k)):aG T Tryz.prog 95 [.ag (T.cells eN n)] (XZ n):=by
 have hl0:=hn.l0
 have hl1:=hn.l1
 have hl2:=hn.l2
 refine lJ hT Tryz.func95 (by kernel_rfl) rfl rfl (fun A=>?_)
 refine Vc.seq 0 hT ?_
 conv=>whnf
 refine Vc.seq 2 hT ?_
 conv=>whnf
 refine Need.mk ⟨yP,dD (a:=0) (b:=n.f0.length) (by omega) (by decide)⟩ ?_
 conv=>whnf
 refine Need.mk ⟨Zh,dD (a:=0) (b:=n.f2.length) (by omega) (by decide)⟩ ?_
 conv=>whnf
 refine bC.mk ⟨by kernel_rfl,by kernel_rfl⟩ ?_
 conv=>whnf
 refine Vc.of 10 hT ?_
 conv=>whnf
 refine dR.mk {k:Nat // k≤n.f1.length} (fun p=>(8,[(4,i64 p.1),(3, .c (.px 6 0)),(2, .c (.px 1 0)),(1, .c (.px 0 0))],[(6, .bx eN [.hd 3, .hd 7, .hd 5]),(3, .row 3 9 n.f0),(7, .row 7 eN (n.f1.take p.1)),(5, .row 5 eS n.f2),(1,bxZ),(0,Ae n)])) (fun p=>n.f1.length - p.1) ⟨0,Nat.zero_le _⟩ ((NC 6 1 20 eN (t:=eN) (cs:=[.hd 3, .sc (.slice none 0 0), .hd 5]) rfl rfl rfl).trans (aC [(6,6),(3,3),(7,20),(5,5),(1,1),(0,0)] rfl rfl rfl ⟨⟨rfl,rfl⟩,⟨rfl,rfl⟩,⟨rfl,rfl⟩,⟨rfl,rfl⟩,trivial⟩ ⟨⟨rfl,rfl⟩,qh rfl,pI rfl,qg rfl,⟨rfl,rfl⟩,⟨rfl,rfl⟩,trivial⟩)) ?_
 rintro⟨k,hk⟩
 conv=>whnf
 refine Split.mk (fun c=>?_) (fun c=>?_)
 ·have hk2:k<n.f1.length:=iJ c
  clear c
  conv=>whnf
  refine Need.mk (idx hk2) ?_
  conv=>whnf
  refine ay.mk _ (ih _ (Nz hk2)) ?_
  conv=>whnf
  refine Need.mk (dD (a:=(n.f1.take k).length) (b:=1) (by rw [List.length_take];omega) (by decide)) ?_
  conv=>whnf
  exact bM.mk ⟨⟨k+1,hk2⟩,Nat.sub_lt_sub_left hk2 (Nat.lt_succ_self k),aC [(6,6),(3,3),(7,13),(5,5),(1,1),(0,0)] rfl rfl rfl ⟨⟨rfl,congrArg i64 (dZ hk2 (by omega))⟩,⟨rfl,rfl⟩,⟨rfl,rfl⟩,⟨rfl,rfl⟩,trivial⟩ ⟨⟨rfl,rfl⟩,qh rfl,pI (take_snoc hk2),qg rfl,⟨rfl,rfl⟩,⟨rfl,rfl⟩,trivial⟩⟩
 ·have hk2:k=n.f1.length:=Nat.le_antisymm hk (iK c)
  subst hk2
  conv=>whnf
  exact aA.mk ⟨rfl,rfl⟩ ⟨rfl,rfl⟩ ⟨rfl,pI (List.take_length),rfl,trivial⟩
theorem ND:∀(n:SN),Bd n→aG T Tryz.prog 95 [.ag (T.cells eN n)] (XZ n):=fun n hn=>
 Qp n hn (fun k hk=>ND k (by cases hn with | mk _ _ _ _ _ _ h=>exact h k hk))
termination_by n=>SizeOf.sizeOf n
decreasing_by exact lY hk
end Go.Proofs.YtcnfgfomholheaaGreatDoor.Q
end
section
namespace Go.Proofs.YtcnfgfomholheaaGreatDoor.Q
open Go.RowKit Go.Proofs.YtcnfgfomholheaaGreatDoor.Z Go.Proofs.YtcnfgfomholheaaGreatDoor.Pure
set_option linter.unusedVariables false
set_option linter.unusedSimpArgs false
set_option maxRecDepth 100000
set_option maxHeartbeats 4000000
abbrev adP (n:SN):RS T.Tb:= .ag [.im 9 n.f0, .im eN n.f1, .im eS n.f2]
end Go.Proofs.YtcnfgfomholheaaGreatDoor.Q
end
section
namespace Go.Proofs.YtcnfgfomholheaaGreatDoor.Q
open Go.RowKit Go.Proofs.YtcnfgfomholheaaGreatDoor.Z Go.Proofs.YtcnfgfomholheaaGreatDoor.Pure
set_option linter.unusedVariables false
set_option linter.unusedSimpArgs false
def prs (n:SN):List (ByteArray × SN):=n.f0.zip n.f1
abbrev ltB (a b:ByteArray):Prop:=Op.bytesLess a.toList b.toList=true
inductive Gd:SN→Prop
 | mk (n:SN) (ht:Tr n) (hf:∀k∈n.f1,k.f1≠[]∨k.f2≠[]) (hk:∀k∈n.f1,Gd k):Gd n
theorem Gd.tr {n:SN} (h:Gd n):Tr n:=by cases h;assumption
theorem Gd.full {n:SN} (h:Gd n):∀k∈n.f1,k.f1≠[]∨k.f2≠[]:=by cases h;assumption
theorem Gd.kid {n:SN} (h:Gd n):∀k∈n.f1,Gd k:=by cases h;assumption
end Go.Proofs.YtcnfgfomholheaaGreatDoor.Q
end
section
namespace Go.Proofs.YtcnfgfomholheaaGreatDoor.Q
open Go.RowKit Go.Proofs.YtcnfgfomholheaaGreatDoor.Z Go.Proofs.YtcnfgfomholheaaGreatDoor.X Go.Proofs.YtcnfgfomholheaaGreatDoor.Pure
set_option linter.unusedVariables false
set_option linter.unusedSimpArgs false
theorem KJ {p:List ByteArray}:∀{ns:List ByteArray} {y:Option ByteArray} {ks:List SN},ns.length=ks.length→lK p ns y ks=true→ns.Pairwise ltB∧∀x∈ns,mO y x=true
 | [],y,ks,_,_=>⟨.nil,fun x hx=>by cases hx⟩
 | x::r,y,[],h,_=>by simp at h
 | x::r,y,k::q,h,ho=>by
   obtain⟨h1,_,_,_,h5⟩:=rZ.1 ho
   obtain⟨a,b⟩:=KJ (by simpa using h) h5
   refine⟨List.pairwise_cons.2 ⟨fun z hz=>b z hz,a⟩,fun z hz=>?_⟩
   rcases List.mem_cons.1 hz with rfl | hz
   ·exact h1
   ·cases y with
    | none=>rfl
    | some y=>exact qj _ _ _ h1 (b z hz)
theorem QY {p:List ByteArray}:∀{ns:List ByteArray} {y:Option ByteArray} {ks:List SN},lK p ns y ks=true→∀x k,(x,k)∈ns.zip ks→Jk x k=true∧(k.f1.length≠0∨k.f2.length≠0)∧okI (p++[x]) k=true
 | [],y,ks,_,x,k,h=>by simp at h
 | x::r,y,[],_,x',k',h=>by simp at h
 | x::r,y,k::q,ho,x',k',h=>by
   obtain⟨_,h2,h3,h4,h5⟩:=rZ.1 ho
   rw [List.zip_cons_cons] at h
   rcases List.mem_cons.1 h with h | h
   ·cases h;exact⟨h2,h3,h4⟩
   ·exact QY h5 x' k' h
theorem aak {n:SN} (hl:n.f0.length=n.f1.length) {k:SN} (hk:k∈n.f1):∃x,(x,k)∈prs n:=by
 have:k∈(prs n).map (·.2):=by unfold prs;rw [List.map_snd_zip (by omega)];exact hk
 obtain⟨⟨x,k'⟩,h,rfl⟩:=List.mem_map.1 this
 exact⟨x,h⟩
theorem Zi:∀(n:SN) (p:List ByteArray),okI p n=true→Gd n∧Dp (7 - p.length) n:=fun n p h=>by
 obtain⟨h1,h2,h3,h4,h5⟩:=su.1 h
 have hk:∀k∈n.f1,(Gd k∧Dp (7 - (p.length+1)) k)∧(k.f1≠[]∨k.f2≠[])∧p.length+1≤6:=fun k hk=>by
  obtain⟨x,hx⟩:=aak h1 hk
  obtain⟨_,a2,a3⟩:=QY h5 x k hx
  have:=Zi k (p++[x]) a3
  have h7:=(su.1 a3).2.1
  rw [List.length_append] at this h7
  refine⟨this,a2.imp (fun h e=>h (by rw [e];rfl)) (fun h e=>h (by rw [e];rfl)),h7⟩
 refine⟨.mk n (.mk n h1 (KJ h1 h5).1 (fun k h=>(hk k h).1.1.tr)) (fun k h=>(hk k h).2.1) (fun k h=>(hk k h).1.1), .mk _ n (fun hne=>?_) (fun k h=>?_)⟩
 ·obtain⟨k,h⟩:=List.exists_mem_of_ne_nil _ hne
  have:=(hk k h).2.2
  omega
 ·have:=(hk k h).1.2
  rw [show 7 - p.length - 1=7 - (p.length+1) by omega]
  exact this
termination_by n=>SizeOf.sizeOf n
decreasing_by exact lY hk
theorem Vy {n:SN} (h:jJ n=true):okI [] n=true∧n.f2=[]:=by
 unfold jJ at h
 simp only [Bool.and_eq_true,decide_eq_true_eq] at h
 exact⟨h.2,List.length_eq_zero_iff.1 h.1⟩
theorem GI {n:SN} (h:jJ n=true):Tr n∧Dp 7 n:=by
 have:=Zi n [] (Vy h).1
 exact⟨this.1.tr,this.2⟩
end Go.Proofs.YtcnfgfomholheaaGreatDoor.Q
end
section
namespace Go.Proofs.YtcnfgfomholheaaGreatDoor.Q
open Go.RowKit Go.Proofs.YtcnfgfomholheaaGreatDoor.Z Go.Proofs.YtcnfgfomholheaaGreatDoor.X Go.Proofs.YtcnfgfomholheaaGreatDoor.Pure
set_option linter.unusedVariables false
set_option linter.unusedSimpArgs false
end Go.Proofs.YtcnfgfomholheaaGreatDoor.Q
end
section
namespace Go.Proofs.YtcnfgfomholheaaGreatDoor.Q
open Go.RowKit Go.Proofs.YtcnfgfomholheaaGreatDoor.Z Go.Proofs.YtcnfgfomholheaaGreatDoor.X Go.Proofs.YtcnfgfomholheaaGreatDoor.Pure
set_option linter.unusedVariables false
set_option linter.unusedSimpArgs false
theorem NG:∀(l:List SS) (k:Nat),(aY dO l k).2=k+3*l.length
 | [],k=>rfl
 | p::l,k=>by
   show(aY dO l (k+3)).2=_
   rw [NG l (k+3),List.length_cons];omega
mutual
theorem Jl:∀(n:SN) (k:Nat),(bH n k).2≤k+3*cnt n
 | ⟨a,b,c⟩,k=>by
   rw [bH,cnt]
   show(aY dO c (qM b (k+1*a.length)).2).2≤_
   rw [NG]
   have:=NH b (k+1*a.length)
   omega
theorem NH:∀(l:List SN) (k:Nat),(qM l k).2≤k+3*sW l
 | [],k=>by rw [qM,sW];exact Nat.le_refl _
 | p::l,k=>by
   rw [qM,sW]
   show(qM l (bH p k).2).2≤_
   have h1:=Jl p k
   have h2:=NH l (bH p k).2
   omega
end
theorem pJ {n:Nat} {x:Int} (h:0≤dW n x):dW n x+n≤x:=by unfold dW at*;split at h<;>(try split)<;>omega
def sumF {α:Type} (g:α→Nat):List α→Nat
 | []=>0
 | a::l=>g a+sumF g l
theorem QZ {α:Type} {F:α→Int→Int} {g:α→Nat}:∀{l:List α} {x:Int},(∀a∈l,∀x,0≤x→0≤F a x→F a x+g a≤x)→0≤x→0≤iD F l x→iD F l x+sumF g l≤x
 | [],x,_,_,_=>by show x+((0:Nat):Int)≤x;omega
 | a::l,x,hF,h0,h=>by
   obtain⟨h1,h2⟩:=lZ h
   have e:iD F (a::l) x=iD F l (F a x):=yQ h1
   have h3:=hF a List.mem_cons_self x h0 h1
   have h4:=QZ (g:=g) (l:=l) (fun b hb=>hF b (List.mem_cons_of_mem _ hb)) h1 h2
   rw [e]
   show _+((g a+sumF g l:Nat):Int)≤x
   omega
theorem yc {α:Type} {F:α→Int→Int}:∀{l:List α} {x:Int},(∀a∈l,∀x,0≤x→F a x≤x)→0≤x→0≤iD F l x→∀a∈l,∃v,0≤v∧v≤x∧0≤F a v
 | [],x,_,_,_,a,ha=>by cases ha
 | b::l,x,hF,h0,h,a,ha=>by
   obtain⟨h1,h2⟩:=lZ h
   rcases List.mem_cons.1 ha with rfl | ha
   ·exact⟨x,h0,Int.le_refl _,h1⟩
   ·have h3:=hF b List.mem_cons_self x h0
    obtain⟨v,v1,v2,v3⟩:=yc (l:=l) (fun b hb=>hF b (List.mem_cons_of_mem _ hb)) h1 h2 a ha
    exact⟨v,v1,by omega,v3⟩
theorem Q5:∀l:List LN,sumF (fun a=>cnt (tN a)) l=sW (l.map tN)
 | []=>by rw [List.map_nil,sW];rfl
 | a::l=>by rw [List.map_cons,sW,←Q5 l];rfl
theorem Q7 {l:List ByteArray} {x:Int} (h0:0≤x) (h:0≤EF l x):EF l x+l.length≤x:=by
 obtain⟨h1,h2⟩:=lZ h
 have e:EF l x=_:=yQ h1
 have h3:=pJ h1
 have h4:=ql (F:=fun y:ByteArray=>dW y.size) (l:=l) (fun a _ x hx=>jl hx) h1
 rw [e];omega
theorem Q8 {l:List LS} {x:Int} (h0:0≤x) (h:0≤Af l x):Af l x+l.length≤x:=by
 obtain⟨h1,h2⟩:=lZ h
 have e:Af l x=_:=yQ h1
 have h3:=pJ h1
 have h4:=ql (F:=fun y:LS=>dW y.f0.size) (l:=l) (fun a _ x hx=>jl hx) h1
 rw [e];omega
theorem KL {a:LN} {x:Int} (h0:0≤x) (h:0≤l7 a x):∃x1 x2 x3:Int,EF a.f0 x=x1∧0≤x1∧x1≤x∧dW a.f1.length x1=x2∧0≤x2∧x2≤x1∧iD l7 a.f1 x2=x3∧0≤x3∧x3≤x2∧0≤Af a.f2 x3∧l7 a x=Af a.f2 x3:=by
 rw [NJ] at h⊢
 obtain⟨h1,h2⟩:=lZ h
 obtain⟨h3,h4⟩:=lZ h2
 obtain⟨h5,h6⟩:=lZ h3
 have e1:=yQ (K:=fun x=>thenS (thenS (dW a.f1.length x) (iD l7 a.f1)) fun x=>Af a.f2 x) h1
 have e2:=yQ (K:=fun x=>Af a.f2 x) h3
 have e3:=yQ (K:=iD l7 a.f1) h5
 refine⟨_,_,_,rfl,h1,NK h0,rfl,h5,jl h1,rfl,h6,ql (fun b _ y hy=>uX b hy) h5,?_,?_⟩
 ·rw [←e3];exact h4
 ·rw [e1,e2,e3]
theorem Q9:∀(a:LN) (x:Int),0≤x→0≤l7 a x→l7 a x+cnt (tN a)≤x:=fun a x h0 h=>by
 obtain⟨x1,x2,x3,e1,a1,b1,e2,a2,b2,e3,a3,b3,h4,e⟩:=KL h0 h
 have g1:=Q7 h0 (by rw [e1];exact a1)
 have g2:=QZ (F:=l7) (g:=fun a=>cnt (tN a)) (l:=a.f1) (fun k hk y hy hz=>Q9 k y hy hz) a2 (by rw [e3];exact a3)
 have g3:=Q8 a3 h4
 rw [e1] at g1
 rw [e3,Q5] at g2
 rw [e,Tq,abf]
 show _+(((a.f0.length+(a.f2.map tS).length+sW (a.f1.map tN):Nat)):Int)≤x
 rw [List.length_map]
 omega
termination_by a=>SizeOf.sizeOf a
decreasing_by exact yg hk
theorem Vz:∀(a:LN) (x:Int),0≤x→x≤1048576→0≤l7 a x→Bd (tN a)∧NM a:=fun a x h0 hx h=>by
 obtain⟨x1,x2,x3,e1,a1,b1,e2,a2,b2,e3,a3,b3,h4,e⟩:=KL h0 h
 have h1:0≤EF a.f0 x:=by rw [e1];exact a1
 have g1:=Q7 h0 h1
 have g3:=Q8 a3 h4
 have g2:=pJ (n:=a.f1.length) (x:=x1) (by rw [e2];exact a2)
 rw [e1] at g1
 rw [e2] at g2
 have z0:∀y∈a.f0,y.size≤1048576:=fun y hy=>by
  obtain⟨q1,q2⟩:=lZ h1
  obtain⟨v,v1,v2,v3⟩:=yc (F:=fun y:ByteArray=>dW y.size) (fun a _ x hx=>jl hx) q1 q2 y hy
  have:=pJ v3
  have:=jl (n:=a.f0.length) h0
  omega
 have z2:∀y∈a.f2,y.f0.size≤1048576:=fun y hy=>by
  obtain⟨q1,q2⟩:=lZ h4
  obtain⟨v,v1,v2,v3⟩:=yc (F:=fun y:LS=>dW y.f0.size) (fun a _ x hx=>jl hx) q1 q2 y hy
  have:=pJ v3
  have:=jl (n:=a.f2.length) a3
  omega
 have hk:∀k∈a.f1,Bd (tN k)∧NM k:=fun k hk=>by
  obtain⟨v,v1,v2,v3⟩:=yc (F:=l7) (fun b _ y hy=>uX b hy) a2 (by rw [e3];exact a3) k hk
  exact Vz k v v1 (by omega) v3
 refine⟨?_, .mk a (by omega) (by omega) (by omega) (fun k h=>(hk k h).2)⟩
 rw [Tq]
 refine .mk _ (by show a.f0.length≤_;omega) z0 (by show(a.f1.map tN).length≤_;rw [List.length_map];omega) (by show(a.f2.map tS).length≤_;rw [List.length_map];omega) (fun y hy=>?_) (fun y hy=>?_)
 ·obtain⟨z,hz,rfl⟩:=List.mem_map.1 hy
  exact z2 z hz
 ·obtain⟨z,hz,rfl⟩:=List.mem_map.1 hy
  exact(hk z hz).1
termination_by a=>SizeOf.sizeOf a
decreasing_by exact yg hk
end Go.Proofs.YtcnfgfomholheaaGreatDoor.Q
end
section
namespace Go.Proofs.YtcnfgfomholheaaGreatDoor.Q
open Go.RowKit Go.Proofs.YtcnfgfomholheaaGreatDoor.Z Go.Proofs.YtcnfgfomholheaaGreatDoor.Pure
set_option linter.unusedVariables false
set_option linter.unusedSimpArgs false
set_option maxRecDepth 100000
set_option maxHeartbeats 4000000
structure RT where
 v:Int
 t:SN
 k:List SK
structure RL where
 v:Int
 t:LN
 k:List LK
abbrev eG:Nat:=56
abbrev eGL:Nat:=52
abbrev cR (r:RT):List (C0 T.Tb):=[.sc (.int .i64 r.v), .sl 9 r.t.f0, .sl eN r.t.f1, .sl eS r.t.f2, .sl eK r.k]
abbrev Vx (r:RL):List (C0 T.Tb):=[.sc (.int .i64 r.v), .sl 9 r.t.f0, .sl qK r.t.f1, .sl AP r.t.f2, .sl AQ r.k]
abbrev X0 (r:RT):RS T.Tb:= .ag [.sc (.int .i64 r.v), .ow 9 r.t.f0, .ow eN r.t.f1, .ow eS r.t.f2, .ow eK r.k]
abbrev AU (r:RL):dA T:= .bx eGL ((Vx r).map (toCell none))
theorem jE {l l':List SK} (h:l=l'):bU (T:=T) eK l eK l':=fO h
theorem sr5 {l l':List Int} (h:l=l'):bU (T:=T) 5 l 5 l':=fO h
def AV (l:List LK) (x:Int):Int:=thenS (dW l.length x) (iD oO l)
def Rf (a:RL) (x:Int):Int:=thenS (l7 a.t x) (AV a.k)
def abg (l:List LK):Prop:=l.length≤140737488351232∧∀y∈l,(y:LK).f0.size≤140737488351232∧(y:LK).f1.length≤140737488351232
def abd (a:RL):Prop:=xC a.t∧abg a.k
theorem X4 (a:LK) (x:Int) (h0:0≤x) (h:oO a x<0):oO a x= -1:=by
 unfold oO thenS at*
 split at h
 ·rename_i hc;rw [if_pos hc]
 ·rename_i hc;rw [if_neg hc];exact Rh h
theorem X5 {l:List LK} {x:Int} (h0:0≤x) (h:AV l x<0):AV l x= -1:=by
 unfold AV at*
 by_cases hc:dW l.length x<0
 ·unfold thenS;rw [if_pos hc]
 ·rw [yQ (by omega)] at h⊢
  exact Jm X4 (by omega) h
theorem abh (a:RL) (x:Int) (ht:xC a.t) (hk:abg a.k) (h0:0≤x) (h1:x≤1048576):aG T Tryz.prog 36 [.ag (Vx a), .c (.sc (.int .i64 x))] (.c (.sc (.int .i64 (Rf a x)))):=by
 have hle:=uX a.t h0
 refine aH hT Tryz.func36 (by kernel_rfl) rfl rfl (fun A=>?_)
 conv=>whnf
 refine ay.mk _ (VA a.t ht x h0 h1) ?_
 conv=>whnf
 refine Split.mk (fun c=>?_) (fun c=>?_)
 ·conv=>whnf
  exact aA.mk ⟨rfl,rfl⟩ ⟨rfl,rfl⟩ ⟨iv (DJ c),trivial⟩
 ·obtain⟨e1,e2⟩:=DK (K:=AV a.k) c
  have e3:Rf a x=AV a.k (l7 a.t x):=e1
  conv=>whnf
  refine ay.mk _ (aal a.k (l7 a.t x) e2 (Int.le_trans hle h1) hk.1 hk.2) ?_
  conv=>whnf
  refine Split.mk (fun c=>?_) (fun c=>?_)
  ·conv=>whnf
   exact aA.mk ⟨rfl,rfl⟩ ⟨rfl,rfl⟩ ⟨iv (e3.trans (X5 e2 (Jo c))),trivial⟩
  ·conv=>whnf
   exact aA.mk ⟨rfl,rfl⟩ ⟨rfl,rfl⟩ ⟨iv e3,trivial⟩
def tR (a:RL):RT:=⟨a.v,tN a.t,a.k.map tK⟩
theorem abj (a:RL) (ht:NM a.t) (hk:a.k.length≤1048576) (hy:∀y∈a.k,(y:LK).f1.length≤1048576):aG T Tryz.prog 38 [.ag (Vx a)] (X0 (tR a)):=by
 refine aH hT Tryz.func38 (by kernel_rfl) rfl rfl (fun A=>?_)
 conv=>whnf
 refine ay.mk _ (VB a.t ht) ?_
 conv=>whnf
 refine ay.mk _ (aam a.k hk hy) ?_
 conv=>whnf
 exact aA.mk ⟨rfl,rfl⟩ ⟨rfl,rfl⟩ ⟨rfl,rfl,rfl,rfl,rfl,trivial⟩
structure GK (r:RT):Prop where
 t:Bd r.t
 k:r.k.length≤2097152
 b:∀y∈r.k,(y:SK).f1.length≤2097152
theorem abk {a b:RT} (h:a.v=b.v) (h2:a.t=b.t) (h3:a.k=b.k):a=b:=by cases a;cases b;cases h;cases h2;cases h3;rfl
theorem VD (a b:RT) (ha:GK a):aG T Tryz.prog 40 [.ag (cR a), .ag (cR b)] (.c (.sc (.bool (same a b)))):=by
 refine aH hT Tryz.func40 (by kernel_rfl) rfl rfl (fun A=>?_)
 conv=>whnf
 refine Split.mk (fun c=>?_) (fun c=>?_)
 ·conv=>whnf
  exact aA.mk ⟨rfl,rfl⟩ ⟨rfl,rfl⟩ ⟨bv (iH (fun e=>uY c (congrArg RT.v e))),trivial⟩
 have h1:a.v=b.v:=NP c
 conv=>whnf
 refine ay.mk _ (VE a.t ha.t b.t) ?_
 conv=>whnf
 refine Split.mk (fun c=>?_) (fun c=>?_)
 ·conv=>whnf
  exact aA.mk ⟨rfl,rfl⟩ ⟨rfl,rfl⟩ ⟨bv (iH (fun e=>iL (bI c) (congrArg RT.t e))),trivial⟩
 have h2:a.t=b.t:=of_same (bQ c)
 conv=>whnf
 refine ay.mk _ (aan a.k b.k (Nat.le_trans ha.k (by decide)) (fun y hy=>Nat.le_trans (ha.b y hy) (by decide))) ?_
 conv=>whnf
 refine Split.mk (fun c=>?_) (fun c=>?_)
 ·conv=>whnf
  exact aA.mk ⟨rfl,rfl⟩ ⟨rfl,rfl⟩ ⟨bv (iH (fun e=>iL (bI c) (congrArg RT.k e))),trivial⟩
 have h3:a.k=b.k:=of_same (bQ c)
 conv=>whnf
 exact aA.mk ⟨rfl,rfl⟩ ⟨rfl,rfl⟩ ⟨bv (qm (abk h1 h2 h3)),trivial⟩
def iO (r:RT) (k:Nat):RT × Nat:=(⟨r.v,(bH r.t k).1,(aY (β:=SK) eu r.k (bH r.t k).2).1⟩,(aY (β:=SK) eu r.k (bH r.t k).2).2)
theorem NQ (r:RT) (k:Nat) (hr:GK r) (h0:0<k) (hk:(iO r k).2≤4611686018427387904):CallWOb T Tryz.prog 41 [.ag [.c (.sc (.int .i64 r.v)), .ow 9 r.t.f0 9 (iO r k).1.t.f0, .ow eN r.t.f1 eN (iO r k).1.t.f1, .ow eS r.t.f2 eS (iO r k).1.t.f2, .ow eK r.k eK (iO r k).1.k], .c (.c (.sc (.int .i64 (k:Int))))] (.c (.sc (.int .i64 ((iO r k).2:Int)))):=by
 have g1:=ku r.t k
 have g2:=gU qN r.k (bH r.t k).2
 have hk2:(aY (β:=SK) eu r.k (bH r.t k).2).2≤4611686018427387904:=hk
 have h1:=X6 r.t k hr.t h0 (Nat.le_trans g2 hk2)
 have h2:=VF r.k (bH r.t k).2 hr.k hr.b (by omega) hk2
 refine rH hT Tryz.func41 (by kernel_rfl) rfl rfl (fun A=>?_)
 conv=>whnf
 refine ay.wr [[NW.wr 9 (bH r.t k).1.f0,NW.wr eN (bH r.t k).1.f1,NW.wr eS (bH r.t k).1.f2],[NW.rd]] (.c (.sc (.int .i64 ((bH r.t k).2:Int)))) ?_
 conv=>whnf
 refine jG.mk h1 ?_
 conv=>whnf
 refine ay.wr [[NW.wr eK (aY (β:=SK) eu r.k (bH r.t k).2).1],[NW.rd]] (.c (.sc (.int .i64 ((aY (β:=SK) eu r.k (bH r.t k).2).2:Int)))) ?_
 conv=>whnf
 refine jG.mk h2 ?_
 conv=>whnf
 exact wP.mk ⟨rfl,rfl⟩ ⟨⟨rfl,rfl⟩,rfl⟩ ⟨rfl,trivial⟩ ⟨rfl,rfl,rfl,rfl,trivial⟩
theorem X7 (r:RT) (k:Nat) (hr:GK r) (h0:0<k) (hk:(iO r k).2≤4611686018427387904):aG T Tryz.prog 42 [.ag (cR (iO r k).1), .c (.sc (.int .i64 (k:Int)))] (.c (.sc (.int .i64 ((iO r k).2:Int)))):=by
 have g1:=ku r.t k
 have g2:=gU qN r.k (bH r.t k).2
 have hk2:(aY (β:=SK) eu r.k (bH r.t k).2).2≤4611686018427387904:=hk
 have h1:=X8 r.t k hr.t h0 (Nat.le_trans g2 hk2)
 have h2:=VG r.k (bH r.t k).2 hr.k hr.b (by omega) hk2
 refine aH hT Tryz.func42 (by kernel_rfl) rfl rfl (fun A=>?_)
 conv=>whnf
 refine ay.mk _ h1 ?_
 conv=>whnf
 refine Split.mk (fun c=>Ag c) (fun c=>?_)
 clear c
 conv=>whnf
 refine ay.mk _ h2 ?_
 conv=>whnf
 refine Split.mk (fun c=>Ag c) (fun c=>?_)
 clear c
 conv=>whnf
 exact aA.mk ⟨rfl,rfl⟩ ⟨rfl,rfl⟩ ⟨rfl,trivial⟩
theorem Fe:∀(l:List SK) (k b:Nat),(∀y∈l,(y:SK).f1.length≤b)→(aY (β:=SK) eu l k).2≤k+(2+b)*l.length
 | [],k,b,_=>Nat.le_refl _
 | p::l,k,b,h=>by
   show(aY (β:=SK) eu l (k+1+1*p.f1.length+1)).2≤_
   have h1:=Fe l (k+1+1*p.f1.length+1) b (fun y hy=>h y (List.mem_cons_of_mem _ hy))
   have h2:=h p List.mem_cons_self
   rw [List.length_cons,Nat.mul_succ]
   omega
structure BK (l:List SK):Prop where
 k:l.length≤1048576
 b:∀y∈l,(y:SK).f1.length≤1048576
 t:∀y∈l,(y:SK).f0.size≤1048576
theorem aao {l:List LK} {x:Int} (h0:0≤x) (hx:x≤1048576) (h:0≤AV l x):BK (l.map tK)∧l.length≤1048576∧∀y∈l,(y:LK).f1.length≤1048576:=by
 obtain⟨h1,h2⟩:=lZ h
 have h3:=pJ h1
 have hl:l.length≤1048576:=by omega
 have each:∀y∈l,(y:LK).f1.length≤1048576∧(y:LK).f0.size≤1048576:=fun y hy=>by
  obtain⟨v,v1,v2,v3⟩:=yc (F:=oO) (fun a _ x hx=>Jp hx) h1 h2 y hy
  obtain⟨g1,g2⟩:=lZ v3
  have g3:=pJ g1
  have g4:=pJ g2
  have:=jl (n:=l.length) h0
  omega
 refine⟨⟨by rw [List.length_map];exact hl,fun y hy=>?_,fun y hy=>?_⟩,hl,fun y hy=>(each y hy).1⟩
 ·obtain⟨z,hz,rfl⟩:=List.mem_map.1 hy
  exact(each z hz).1
 ·obtain⟨z,hz,rfl⟩:=List.mem_map.1 hy
  exact(each z hz).2
theorem abl {a:RL} {x:Int} (h0:0≤x) (hx:x≤1048576) (h:0≤Rf a x):NM a.t∧Bd (tR a).t∧(cnt (tR a).t:Int)≤x∧BK (tR a).k∧a.k.length≤1048576∧(∀y∈a.k,(y:LK).f1.length≤1048576)∧Rf a x≤x:=by
 obtain⟨h1,h2⟩:=lZ h
 obtain⟨b1,b2⟩:=Vz a.t x h0 hx h1
 have c1:=Q9 a.t x h0 h1
 have hle:=uX a.t h0
 obtain⟨k1,k2,k3⟩:=aao h1 (by omega) h2
 refine⟨b2,b1,by show(cnt (tN a.t):Int)≤x;omega,k1,k2,k3,?_⟩
 unfold Rf
 exact uf h0 hle (fun h=>by unfold AV;exact uf h (jl h) (fun h=>ql (fun a _ x hx=>Jp hx) h))
theorem BK.bdr {v:Int} {t:SN} {l:List SK} (h:BK l) (ht:Bd t):GK ⟨v,t,l⟩:=⟨ht,Nat.le_trans h.k (by decide),fun y hy=>Nat.le_trans (h.b y hy) (by decide)⟩
theorem Jq (r:RT) (h:BK r.k) (hc:cnt r.t≤2097152):(iO r 1).2≤4611686018427387904:=by
 have h1:=Jl r.t 1
 have h2:=Fe r.k (bH r.t 1).2 1048576 h.b
 have h3:(2+1048576)*r.k.length≤(2+1048576)*1048576:=Nat.mul_le_mul_left _ h.k
 show(aY (β:=SK) eu r.k (bH r.t 1).2).2≤_
 omega
end Go.Proofs.YtcnfgfomholheaaGreatDoor.Q
end
section
namespace Go.Proofs.YtcnfgfomholheaaGreatDoor.Q
open Go.RowKit Go.Proofs.YtcnfgfomholheaaGreatDoor.Z Go.Proofs.YtcnfgfomholheaaGreatDoor.Pure
set_option linter.unusedVariables false
set_option linter.unusedSimpArgs false
set_option maxRecDepth 100000
set_option maxHeartbeats 4000000
def Tt (ls:List ByteArray) (c:ByteArray) (l:List SS):List SS:=bif decide (0<ls.length) then l else acU c l
structure Pk (ls:List ByteArray) (c:ByteArray) (f:ByteArray→SN→SN) (n:SN):Prop where
 no:ls.length=0→∀x k,f x k=k
 ne:0<ls.length→∀x k,(x.toList==(g9 ls 0).toList)=false→f x k=k
 eq:0<ls.length→∀x,∀k∈n.f1,(x.toList==(g9 ls 0).toList)=true→aG T Tryz.prog 96 [.ag (T.cells eN k), .c (.sl 9 ((ls.drop 1).take (ls.length - 1))), .c (.sc (.bool false)), .c (.sc (.string c))] (adP (f x k))
end Go.Proofs.YtcnfgfomholheaaGreatDoor.Q
end
section
namespace Go.Proofs.YtcnfgfomholheaaGreatDoor.Q
open Go.RowKit Go.Proofs.YtcnfgfomholheaaGreatDoor.Z Go.Proofs.YtcnfgfomholheaaGreatDoor.Pure
set_option linter.unusedVariables false
set_option linter.unusedSimpArgs false
set_option maxRecDepth 100000
set_option maxHeartbeats 4000000
end Go.Proofs.YtcnfgfomholheaaGreatDoor.Q
end
section
namespace Go.Proofs.YtcnfgfomholheaaGreatDoor.Q
open Go.RowKit Go.Proofs.YtcnfgfomholheaaGreatDoor.Z Go.Proofs.YtcnfgfomholheaaGreatDoor.Pure
set_option linter.unusedVariables false
set_option linter.unusedSimpArgs false
set_option maxRecDepth 100000
set_option maxHeartbeats 4000000
theorem Fg (n:SN) (p:List ByteArray) (hn:Bd n) (hl:n.f0.length=n.f1.length) (hp:p.length≤7) (hz:∀x∈p,x.size≤1048576) (hc:(iM p n).length≤4194304)
  (ih:∀i,i<n.f1.length→aG T Tryz.prog 178 [.ag (T.cells eN (bZ T eN n.f1 i)), .c (.sc (.string (dB (p++[g9 n.f0 i])))), .c (.sc (.int .i64 ((p.length+1:Nat):Int)))] (.c (.ow eE (iM (p++[g9 n.f0 i]) (bZ T eN n.f1 i))))):aG T Tryz.prog 178 [.ag (T.cells eN n), .c (.sc (.string (dB p))), .c (.sc (.int .i64 (p.length:Int)))] (.c (.ow eE (iM p n))):=by
 have hl2:=hn.l2
 have hjs:=rG p hp hz
 rw [Fb] at hc⊢
 rw [List.length_append,List.length_map] at hc
 refine lJ hT Tryz.func178 (by kernel_rfl) rfl rfl (fun A=>?_)
 refine Vc.of 0 hT ?_
 conv=>whnf
 refine dR.mk {k:Nat // k≤n.f2.length} (fun q=>(2,[(8,i64 q.1),(7, .c (.hd 1)),(3, .c (.px 0 0)),(1, .c (.sc (.string (dB p)))),(2,i64 p.length)],[(1, .row 1 eE ((n.f2.take q.1).map (nV p))),(0,Ae n)])) (fun q=>n.f2.length - q.1) ⟨0,Nat.zero_le _⟩ (aC [(1,1),(0,0)] rfl rfl rfl ⟨⟨rfl,rfl⟩,⟨rfl,rfl⟩,⟨rfl,rfl⟩,⟨rfl,rfl⟩,⟨rfl,rfl⟩,trivial⟩ ⟨Ac rfl,⟨rfl,rfl⟩,trivial⟩) ?_
 rintro⟨k,hk⟩
 conv=>whnf
 refine Split.mk (fun c=>?_) (fun c=>?_)
 ·have hk2:k<n.f2.length:=iJ c
  clear c
  conv=>whnf
  refine Need.mk (idx hk2) ?_
  conv=>whnf
  refine Need.mk (idx hk2) ?_
  conv=>whnf
  refine Need.mk (idx hk2) ?_
  conv=>whnf
  refine Need.mk (dD (a:=((n.f2.take k).map (nV p)).length) (b:=1) (by rw [List.length_map,List.length_take];omega) (by decide)) ?_
  conv=>whnf
  refine bC.mk ⟨by kernel_rfl,by kernel_rfl⟩ ?_
  conv=>whnf
  exact bM.mk ⟨⟨k+1,hk2⟩,Nat.sub_lt_sub_left hk2 (Nat.lt_succ_self k),aC [(1,3),(0,0)] rfl rfl rfl ⟨⟨rfl,congrArg i64 (dZ hk2 (by omega))⟩,⟨rfl,rfl⟩,⟨rfl,rfl⟩,⟨rfl,rfl⟩,⟨rfl,rfl⟩,trivial⟩ ⟨Ac (Ad (d:=T.df eS) hk2),⟨rfl,rfl⟩,trivial⟩⟩
 ·have hk2:k=n.f2.length:=Nat.le_antisymm hk (iK c)
  clear c
  subst hk2
  have hl1:=hn.l1
  conv=>whnf
  refine dR.mk {k:Nat // k≤n.f0.length} (fun q=>(2,[(9,i64 q.1),(7, .c (.hd 1)),(3, .c (.px 0 0)),(1, .c (.sc (.string (dB p)))),(2,i64 p.length)],[(1, .row 1 eE (n.f2.map (nV p)++fA p (n.f0.take q.1) (n.f1.take q.1))),(0,Ae n)])) (fun q=>n.f0.length - q.1) ⟨0,Nat.zero_le _⟩ (aC [(1,1),(0,0)] rfl rfl rfl ⟨⟨rfl,rfl⟩,⟨rfl,rfl⟩,⟨rfl,rfl⟩,⟨rfl,rfl⟩,⟨rfl,rfl⟩,trivial⟩ ⟨Ac (by rw [List.take_length];simp [fA];rfl),⟨rfl,rfl⟩,trivial⟩) ?_
  rintro⟨k,hk⟩
  conv=>whnf
  refine Split.mk (fun c=>?_) (fun c=>?_)
  ·have hk3:k<n.f0.length:=iJ c
   have hk2:k<n.f1.length:=by omega
   clear c
   have ihk:=ih k hk2
   rw [show(((p.length+1:Nat)):Int)=wrap64 ((p.length:Int)+1) from d1_ (by omega)] at ihk
   have hsn:=tZ (p:=p) (d:=T.df 9) (e:=T.df eN) hk3 hk2
   have hle:=oD (p:=p) (ns:=n.f0) (ks:=n.f1) (k:=k+1)
   rw [hsn,List.length_append] at hle
   have hap:(n.f2.map (nV p)++fA p (n.f0.take k) (n.f1.take k)).length+(iM (p++[g9 n.f0 k]) (bZ T eN n.f1 k)).length≤8388608:=by
    rw [List.length_append,List.length_map]
    have hle':_+(iM (p++[g9 n.f0 k]) (bZ T eN n.f1 k)).length≤_:=hle
    omega
   have hx:(g9 n.f0 k).size≤1048576:=hn.z0 _ (Ny hk3)
   conv=>whnf
   refine Need.mk (idx hk3) ?_
   conv=>whnf
   refine Split.mk (fun c=>?_) (fun c=>?_)
   ·have h1:0<p.length:=kN c
    have e:(dB p++(⟨#[47]⟩:ByteArray))++g9 n.f0 k=dB (p++[g9 n.f0 k]):=(if_pos h1).symm.trans (AX p p.length rfl _)
    rw [←e] at ihk
    have hs1:(dB p++(⟨#[47]⟩:ByteArray)).size=(dB p).size+1:=rJ _ _
    conv=>whnf
    refine Need.mk (show(dB p).size+1≤9223372036854775807 by omega) ?_
    conv=>whnf
    refine Need.mk (show(dB p++(⟨#[47]⟩:ByteArray)).size+(g9 n.f0 k).size≤9223372036854775807 by omega) ?_
    conv=>whnf
    refine Need.mk (idx hk2) ?_
    conv=>whnf
    refine ay.mk _ ihk ?_
    conv=>whnf
    refine Need.mk (dD (a:=(n.f2.map (nV p)++fA p (n.f0.take k) (n.f1.take k)).length) (b:=(iM (p++[g9 n.f0 k]) (bZ T eN n.f1 k)).length) hap (by decide)) ?_
    conv=>whnf
    exact bM.mk ⟨⟨k+1,hk3⟩,Nat.sub_lt_sub_left hk3 (Nat.lt_succ_self k),aC [(1,3),(0,0)] rfl rfl rfl ⟨⟨rfl,congrArg i64 (dZ hk3 (by omega))⟩,⟨rfl,rfl⟩,⟨rfl,rfl⟩,⟨rfl,rfl⟩,⟨rfl,rfl⟩,trivial⟩ ⟨Ac (show(n.f2.map (nV p)++fA p (n.f0.take k) (n.f1.take k))++iM (p++[g9 n.f0 k]) (bZ T eN n.f1 k)=n.f2.map (nV p)++fA p (n.f0.take (k+1)) (n.f1.take (k+1)) by rw [hsn,List.append_assoc];rfl),⟨rfl,rfl⟩,trivial⟩⟩
   ·have h1:p.length=0:=kP c
    have e:g9 n.f0 k=dB (p++[g9 n.f0 k]):=(if_neg (show ¬0<p.length by omega)).symm.trans (AX p p.length rfl _)
    rw [←e] at ihk
    conv=>whnf
    refine Need.mk (idx hk2) ?_
    conv=>whnf
    refine ay.mk _ ihk ?_
    conv=>whnf
    refine Need.mk (dD (a:=(n.f2.map (nV p)++fA p (n.f0.take k) (n.f1.take k)).length) (b:=(iM (p++[g9 n.f0 k]) (bZ T eN n.f1 k)).length) hap (by decide)) ?_
    conv=>whnf
    exact bM.mk ⟨⟨k+1,hk3⟩,Nat.sub_lt_sub_left hk3 (Nat.lt_succ_self k),aC [(1,3),(0,0)] rfl rfl rfl ⟨⟨rfl,congrArg i64 (dZ hk3 (by omega))⟩,⟨rfl,rfl⟩,⟨rfl,rfl⟩,⟨rfl,rfl⟩,⟨rfl,rfl⟩,trivial⟩ ⟨Ac (show(n.f2.map (nV p)++fA p (n.f0.take k) (n.f1.take k))++iM (p++[g9 n.f0 k]) (bZ T eN n.f1 k)=n.f2.map (nV p)++fA p (n.f0.take (k+1)) (n.f1.take (k+1)) by rw [hsn,List.append_assoc];rfl),⟨rfl,rfl⟩,trivial⟩⟩
  ·have hk2:k=n.f0.length:=Nat.le_antisymm hk (iK c)
   clear c
   conv=>whnf
   exact aA.mk ⟨rfl,rfl⟩ ⟨rfl,rfl⟩ ⟨Ac (by show n.f2.map (nV p)++fA p (n.f0.take k) (n.f1.take k)=_;rw [hk2,List.take_length,hl,List.take_length]),trivial⟩
theorem Ah:∀(n:SN) (p:List ByteArray) (d:Nat),Bd n→Tr n→Dp d n→p.length+d≤7→(∀x∈p,x.size≤1048576)→(iM p n).length≤4194304→aG T Tryz.prog 178 [.ag (T.cells eN n), .c (.sc (.string (dB p))), .c (.sc (.int .i64 (p.length:Int)))] (.c (.ow eE (iM p n))):=fun n p d hn ht hd hp hz hc=>
 Fg n p hn ht.len (by omega) hz hc (fun i hi=>by
  have hm:bZ T eN n.f1 i∈n.f1:=Nz hi
  have h9:g9 n.f0 i∈n.f0:=Ny (by rw [ht.len];exact hi)
  have hpos:=hd.pos (fun e=>by rw [e] at hi;simp at hi)
  have hx:(bZ T eN n.f1 i:SN)∈n.f1:=hm
  have hlen:(p++[g9 n.f0 i]).length=p.length+1:=by rw [List.length_append];rfl
  have:=Ah (bZ T eN n.f1 i) (p++[g9 n.f0 i]) (d - 1) (hn.kid _ hm) (ht.kid _ hm) (hd.kid _ hm) (by rw [hlen];omega) (fun y hy=>(List.mem_append.1 hy).elim (hz y) (fun h=>by rw [List.mem_singleton.1 h];exact hn.z0 _ h9)) (Nat.le_trans (KH hi ht.len) hc)
  rw [hlen] at this
  exact this)
termination_by n=>SizeOf.sizeOf n
decreasing_by exact lY hm
theorem specEntries (n:SN) (hn:Bd n) (hg:jJ n=true→Tr n∧Dp 7 n) (hc:(jZ n).length≤4194304):aG T Tryz.prog 107 [.ag (T.cells eN n)] (.c (.ow eE (jZ n))):=by
 refine aH hT Tryz.func107 (by kernel_rfl) rfl rfl (fun A=>?_)
 conv=>whnf
 refine ay.mk _ (GN n hn) ?_
 conv=>whnf
 refine Split.mk (fun c=>?_) (fun c=>?_)
 ·have h0:jJ n=false:=bI c
  conv=>whnf
  exact aA.mk ⟨rfl,rfl⟩ ⟨rfl,rfl⟩ ⟨Ac (show []=jZ n by unfold jZ;rw [h0];rfl),trivial⟩
 ·have h0:jJ n=true:=bQ c
  have he:jZ n=iM [] n:=by unfold jZ;rw [if_pos h0]
  rw [he] at hc⊢
  conv=>whnf
  refine ay.mk _ (Ah n [] 7 hn (hg h0).1 (hg h0).2 (by decide) (fun x hx=>by cases hx) hc) ?_
  conv=>whnf
  exact aA.mk ⟨rfl,rfl⟩ ⟨rfl,rfl⟩ ⟨rfl,trivial⟩
end Go.Proofs.YtcnfgfomholheaaGreatDoor.Q
end
section
namespace Go.Proofs.YtcnfgfomholheaaGreatDoor.Q
open Go.RowKit Go.Proofs.YtcnfgfomholheaaGreatDoor.Z Go.Proofs.YtcnfgfomholheaaGreatDoor.X Go.Proofs.YtcnfgfomholheaaGreatDoor.Pure
set_option linter.unusedVariables false
set_option linter.unusedSimpArgs false
end Go.Proofs.YtcnfgfomholheaaGreatDoor.Q
end
section
namespace Go.Proofs.YtcnfgfomholheaaGreatDoor.Q
open Go.RowKit Go.Proofs.YtcnfgfomholheaaGreatDoor.Z Go.Proofs.YtcnfgfomholheaaGreatDoor.X Go.Proofs.YtcnfgfomholheaaGreatDoor.Pure
set_option linter.unusedVariables false
set_option linter.unusedSimpArgs false
inductive Tx:SN→Prop
 | mk (n:SN) (z0:∀x∈n.f0,ByteArray.size x≤1048576) (z2:∀x∈n.f2,(x:SS).f0.size≤1048576) (hk:∀k∈n.f1,Tx k):Tx n
theorem Tx.z0 {n:SN} (h:Tx n):∀x∈n.f0,ByteArray.size x≤1048576:=by cases h;assumption
theorem Tx.z2 {n:SN} (h:Tx n):∀x∈n.f2,(x:SS).f0.size≤1048576:=by cases h;assumption
theorem Tx.kid {n:SN} (h:Tx n):∀k∈n.f1,Tx k:=by cases h;assumption
end Go.Proofs.YtcnfgfomholheaaGreatDoor.Q
end
section
namespace Go.Proofs.YtcnfgfomholheaaGreatDoor.Q
open Go.RowKit Go.Proofs.YtcnfgfomholheaaGreatDoor.Z Go.Proofs.YtcnfgfomholheaaGreatDoor.X Go.Proofs.YtcnfgfomholheaaGreatDoor.Pure
set_option linter.unusedVariables false
set_option linter.unusedSimpArgs false
set_option maxRecDepth 100000
set_option maxHeartbeats 4000000
end Go.Proofs.YtcnfgfomholheaaGreatDoor.Q
end
section
namespace Go.Proofs.YtcnfgfomholheaaGreatDoor.Q
open Go.RowKit Go.Proofs.YtcnfgfomholheaaGreatDoor.Z Go.Proofs.YtcnfgfomholheaaGreatDoor.X Go.Proofs.YtcnfgfomholheaaGreatDoor.Pure
set_option linter.unusedVariables false
set_option linter.unusedSimpArgs false
set_option maxRecDepth 100000
set_option maxHeartbeats 4000000
end Go.Proofs.YtcnfgfomholheaaGreatDoor.Q
end
section
namespace Go.Proofs.YtcnfgfomholheaaGreatDoor.Q
open Go.RowKit Go.Proofs.YtcnfgfomholheaaGreatDoor.Z Go.Proofs.YtcnfgfomholheaaGreatDoor.X Go.Proofs.YtcnfgfomholheaaGreatDoor.Pure
set_option linter.unusedVariables false
set_option linter.unusedSimpArgs false
set_option maxRecDepth 100000
set_option maxHeartbeats 4000000
end Go.Proofs.YtcnfgfomholheaaGreatDoor.Q
end
section
namespace Go.Proofs.YtcnfgfomholheaaGreatDoor.Q
open Go.RowKit Go.Proofs.YtcnfgfomholheaaGreatDoor.Z Go.Proofs.YtcnfgfomholheaaGreatDoor.X Go.Proofs.YtcnfgfomholheaaGreatDoor.Pure
set_option linter.unusedVariables false
set_option linter.unusedSimpArgs false
set_option maxRecDepth 100000
set_option maxHeartbeats 4000000
end Go.Proofs.YtcnfgfomholheaaGreatDoor.Q
end
section
namespace Go.Proofs.YtcnfgfomholheaaGreatDoor.Q
open Go.RowKit Go.Proofs.YtcnfgfomholheaaGreatDoor.Z Go.Proofs.YtcnfgfomholheaaGreatDoor.Pure
set_option linter.unusedVariables false
set_option linter.unusedSimpArgs false
set_option maxRecDepth 100000
set_option maxHeartbeats 4000000
theorem flat5:qO T 5:=fun _=>rfl
abbrev gK (l:List SK) (i:Nat):SK:=bZ T eK l i
theorem adQ (k:SK):(⟨k.f0,k.f1,k.f2⟩:SK)=k:=by cases k;rfl
theorem aap {l:List (List Int)} {M:Nat} (h:∀x∈l,x.length≤M):l.flatten.length≤l.length*M:=by
 induction l with
 | nil=>simp
 | cons x l ih=>
   have:=h x List.mem_cons_self
   have:=ih (fun y hy=>h y (List.mem_cons_of_mem _ hy))
   simp only [List.flatten_cons,List.length_append,List.length_cons,Nat.succ_mul]
   omega
theorem VH {l:List (List Int)} {k:Nat} (hk:k<l.length):(l.take k).flatten++l.getD k []=(l.take (k+1)).flatten:=by
 rw [List.take_succ_eq_append_getElem hk]
 have:l.getD k []=l[k]:=by simp [hk]
 rw [this,List.flatten_append];simp
theorem ap_ {m n:Nat} (h:m+n≤100000000000):m+n≤maxLen∧(m+n)*1≤140737488355328:=by simp only [maxLen];omega
theorem joined (ps:List (List Int)) (hn:ps.length≤16) (hs:∀x∈ps,x.length≤4194304):aG T Tryz.prog 169 [.c (.sl 68 ps)] (.c (.ow 5 ps.flatten)):=by
 refine aH hT Tryz.func169 (by kernel_rfl) rfl rfl (fun A=>?_)
 conv=>whnf
 refine dR.mk {k:Nat // k≤ps.length} (fun p=>(2,[(9,i64 p.1),(8,i64 ps.length),(7,im 68 ps),(3, .c (.hd 0))],[(0, .row 1 5 (ps.take p.1).flatten)])) (fun p=>ps.length - p.1) ⟨0,Nat.zero_le _⟩ (aC [(0,0)] rfl rfl rfl ⟨⟨rfl,rfl⟩,⟨rfl,rfl⟩,⟨rfl,rfl⟩,⟨rfl,rfl⟩,trivial⟩ ⟨show bU (T:=T) 5 [] 5 (ps.take 0).flatten from fO rfl,trivial⟩) ?_
 rintro⟨k,hk⟩
 conv=>whnf
 refine Split.mk (fun c=>?_) (fun c=>?_)
 ·have hk2:k<ps.length:=iJ c
  clear c
  have hm:(ps.getD k []).length≤4194304:=hs _ (getD_mem (d:=[]) hk2)
  have hf:(ps.take k).flatten.length≤67108864:=by
   have h1:=aap (l:=ps.take k) (M:=4194304) (fun x hx=>hs x (List.mem_of_mem_take hx))
   have h2:(ps.take k).length≤16:=by rw [List.length_take];omega
   have h3:=Nat.mul_le_mul_right 4194304 h2
   omega
  conv=>whnf
  refine Need.mk (idx hk2) ?_
  conv=>whnf
  refine Need.mk ⟨flat5,ap_ (show(ps.take k).flatten.length+(ps.getD k []).length≤100000000000 by omega)⟩ ?_
  conv=>whnf
  exact bM.mk ⟨⟨k+1,hk2⟩,Nat.sub_lt_sub_left hk2 (Nat.lt_succ_self k),aC [(0,2)] rfl rfl rfl ⟨⟨rfl,congrArg i64 (dZ hk2 (by omega))⟩,⟨rfl,rfl⟩,⟨rfl,rfl⟩,⟨rfl,rfl⟩,trivial⟩ ⟨show bU (T:=T) 5 ((ps.take k).flatten++ps.getD k []) 5 (ps.take (k+1)).flatten from fO (VH hk2),trivial⟩⟩
 ·have hk2:k=ps.length:=Nat.le_antisymm hk (iK c)
  clear c
  conv=>whnf
  subst hk2
  exact aA.mk ⟨rfl,rfl⟩ ⟨rfl,rfl⟩ ⟨show bU (T:=T) 5 (ps.take ps.length).flatten 5 ps.flatten from fO (by rw [List.take_length]),trivial⟩
theorem all1 {M:Nat} {b:List Int} (h:b.length≤M):∀x∈[b],x.length≤M:=by intro x hx;simp at hx;subst hx;exact h
theorem Jr (b:List Int) (hs:b.length≤4194304):aG T Tryz.prog 169 [.c (.sl 68 ([b]:List (List Int)))] (.c (.ow 5 b)):=by
 have h:=joined [b] (by simp) (all1 hs)
 rwa [show([b]:List (List Int)).flatten=b by simp] at h
theorem Zj {l:List SK} {k:Nat} (h:k<l.length):l.take k++[(⟨(gK l k).f0,(gK l k).f1,(gK l k).f2⟩:SK)]=l.take (k+1):=by
 rw [adQ,show gK l k=l[k] from getD_in (α:=SK) l k (T.df eK) h,List.take_succ_eq_append_getElem h]
theorem GU {l:List SK} {i:Nat} (h:i<l.length):gK l i∈l:=getD_mem (l:=l) (d:=T.df eK) h
theorem AY (l:List SK) (hl:l.length≤2097152) (hb:∀y∈l,(y:SK).f1.length≤2097152):aG T Tryz.prog 165 [.c (.sl eK l)] (.c (.ow eK l)):=by
 refine aH hT Tryz.func165 (by kernel_rfl) rfl rfl (fun A=>?_)
 conv=>whnf
 refine dR.mk {k:Nat // k≤l.length} (fun p=>(3,[(9,i64 p.1),(8,i64 l.length),(7,im eK l),(3, .c (.hd 0))],[(0, .row 1 eK (l.take p.1))])) (fun p=>l.length - p.1) ⟨0,Nat.zero_le _⟩ (aC [(0,0)] rfl rfl rfl ⟨⟨rfl,rfl⟩,⟨rfl,rfl⟩,⟨rfl,rfl⟩,⟨rfl,rfl⟩,trivial⟩ ⟨jE rfl,trivial⟩) ?_
 rintro⟨k,hk⟩
 conv=>whnf
 refine Split.mk (fun c=>?_) (fun c=>?_)
 ·have hk2:k<l.length:=iJ c
  clear c
  have h1:=hb _ (GU hk2)
  conv=>whnf
  refine Need.mk (idx hk2) ?_
  conv=>whnf
  refine ay.mk _ (Jr (gK l k).f1 (by omega)) ?_
  conv=>whnf
  refine Need.mk (dD (a:=(l.take k).length) (b:=1) (by rw [List.length_take];omega) (by decide)) ?_
  conv=>whnf
  refine bC.mk ⟨by kernel_rfl,by kernel_rfl⟩ ?_
  conv=>whnf
  exact bM.mk ⟨⟨k+1,hk2⟩,Nat.sub_lt_sub_left hk2 (Nat.lt_succ_self k),aC [(0,6)] rfl rfl rfl ⟨⟨rfl,congrArg i64 (dZ hk2 (by omega))⟩,⟨rfl,rfl⟩,⟨rfl,rfl⟩,⟨rfl,rfl⟩,trivial⟩ ⟨jE (Zj hk2),trivial⟩⟩
 ·have hk2:k=l.length:=Nat.le_antisymm hk (iK c)
  clear c
  conv=>whnf
  subst hk2
  exact aA.mk ⟨rfl,rfl⟩ ⟨rfl,rfl⟩ ⟨jE (List.take_length),trivial⟩
theorem uZ (l:List SK) (hl:l.length≤2097152) (hb:∀y∈l,(y:SK).f1.length≤2097152):aG T Tryz.prog 187 [.c (.sl eK l)] (.c (.ow eK l)):=by
 refine aH hT Tryz.func187 (by kernel_rfl) rfl rfl (fun A=>?_)
 conv=>whnf
 refine dR.mk {k:Nat // k≤l.length} (fun p=>(3,[(4,i64 p.1),(0,im eK l),(3, .c (.hd 0))],[(0, .row 1 eK (l.take p.1))])) (fun p=>l.length - p.1) ⟨0,Nat.zero_le _⟩ (aC [(0,0)] rfl rfl rfl ⟨⟨rfl,rfl⟩,⟨rfl,rfl⟩,⟨rfl,rfl⟩,trivial⟩ ⟨jE rfl,trivial⟩) ?_
 rintro⟨k,hk⟩
 conv=>whnf
 refine Split.mk (fun c=>?_) (fun c=>?_)
 ·have hk2:k<l.length:=iJ c
  clear c
  have h1:=hb _ (GU hk2)
  conv=>whnf
  refine Need.mk (idx hk2) ?_
  conv=>whnf
  refine Need.mk (idx hk2) ?_
  conv=>whnf
  refine Need.mk ⟨flat5,dD (a:=0) (b:=(gK l k).f1.length) (by omega) (by decide)⟩ ?_
  conv=>whnf
  refine Need.mk (idx hk2) ?_
  conv=>whnf
  refine Need.mk (dD (a:=(l.take k).length) (b:=1) (by rw [List.length_take];omega) (by decide)) ?_
  conv=>whnf
  refine bC.mk ⟨by kernel_rfl,by kernel_rfl⟩ ?_
  conv=>whnf
  exact bM.mk ⟨⟨k+1,hk2⟩,Nat.sub_lt_sub_left hk2 (Nat.lt_succ_self k),aC [(0,6)] rfl rfl rfl ⟨⟨rfl,congrArg i64 (dZ hk2 (by omega))⟩,⟨rfl,rfl⟩,⟨rfl,rfl⟩,trivial⟩ ⟨jE (Zj hk2),trivial⟩⟩
 ·have hk2:k=l.length:=Nat.le_antisymm hk (iK c)
  clear c
  conv=>whnf
  subst hk2
  exact aA.mk ⟨rfl,rfl⟩ ⟨rfl,rfl⟩ ⟨jE (List.take_length),trivial⟩
def nX (l:List SK) (i:Nat):Bool:=kV (gK l i).f0 && ((decide (1≤((gK l i).f1.length:Int)) && decide (((gK l i).f1.length:Int)≤40)) && ((decide (0≤(gK l i).f2) && decide ((gK l i).f2≤2)) && !(decide (0<i) && !(Op.bytesLess (gK l (i - 1)).f0.toList (gK l i).f0.toList))))
def jF (l:List SK):Bool:=(List.range l.length).all (nX l) && decide ((l.length:Int)≤8)
theorem ng {l:List SK} {i:Nat} (h:i<l.length) (h2:nX l i=false):jF l=false:=by
 unfold jF
 rw [List.all_eq_false.2 ⟨i,List.mem_range.2 h,by rw [h2];simp⟩];rfl
theorem KN {l:List SK} (h:∀i,i<l.length→nX l i=true):jF l=decide ((l.length:Int)≤8):=by
 unfold jF
 rw [List.all_eq_true.2 (fun i hi=>h i (List.mem_range.1 hi)),Bool.true_and]
theorem yR {l:List SK} {k:Nat} (h:∀i,i<k→nX l i=true) (h2:nX l k=true):∀i,i<k+1→nX l i=true:=fun i hi=>by
 rcases Nat.lt_or_ge i k with h3 | h3
 ·exact h i h3
 ·have:i=k:=by omega
  subst this;exact h2
theorem yS (l:List SK) (hl:l.length≤2097152) (hb:∀y∈l,(y:SK).f0.size≤1048576):aG T Tryz.prog 162 [.c (.sl eK l)] (.c (.sc (.bool (jF l)))):=by
 refine aH hT Tryz.func162 (by kernel_rfl) rfl rfl (fun A=>?_)
 conv=>whnf
 refine dR.mk {k:Nat // k≤l.length∧∀i,i<k→nX l i=true} (fun p=>(0,[(7,i64 p.1),(6,i64 l.length),(5,im eK l),(0,im eK l)],[])) (fun p=>l.length - p.1) ⟨0,Nat.zero_le _,fun i hi=>absurd hi (Nat.not_lt_zero i)⟩ (aC [] rfl rfl rfl ⟨⟨rfl,rfl⟩,⟨rfl,rfl⟩,⟨rfl,rfl⟩,⟨rfl,rfl⟩,trivial⟩ trivial) ?_
 rintro⟨k,hk,hok⟩
 conv=>whnf
 refine Split.mk (fun c=>?_) (fun c=>?_)
 ·have hk2:k<l.length:=iJ c
  clear c
  have h1:=hb _ (GU hk2)
  conv=>whnf
  refine Need.mk (idx hk2) ?_
  conv=>whnf
  refine ay.mk _ (EG (gK l k).f0 (Nat.le_trans h1 (by decide))) ?_
  conv=>whnf
  refine Split.mk (fun c=>?_) (fun c=>?_)
  ·have c1:kV (gK l k).f0=false:=bI c
   conv=>whnf
   repeat (first | (refine Split.mk (fun _=>?_) (fun e=>je e);conv=>whnf) | (refine bC.mk ⟨by kernel_rfl,by kernel_rfl⟩ ?_;conv=>whnf))
   exact aA.mk ⟨rfl,rfl⟩ ⟨rfl,rfl⟩ ⟨bv (ng hk2 (by unfold nX;rw [c1];rfl)),trivial⟩
  have c1:kV (gK l k).f0=true:=bQ c
  clear c
  conv=>whnf
  refine ay.mk _ (yT ((gK l k).f1.length:Int) 1 40) ?_
  conv=>whnf
  refine Split.mk (fun c=>?_) (fun c=>?_)
  ·have c2:=bI c
   conv=>whnf
   repeat (first | (refine Split.mk (fun _=>?_) (fun e=>je e);conv=>whnf) | (refine bC.mk ⟨by kernel_rfl,by kernel_rfl⟩ ?_;conv=>whnf))
   exact aA.mk ⟨rfl,rfl⟩ ⟨rfl,rfl⟩ ⟨bv (ng hk2 (by unfold nX;rw [c1,c2];rfl)),trivial⟩
  have c2:=bQ c
  clear c
  conv=>whnf
  refine ay.mk _ (AZ (gK l k).f2) ?_
  conv=>whnf
  refine Split.mk (fun c=>?_) (fun c=>?_)
  ·have c3:=bI c
   conv=>whnf
   repeat (first | (refine Split.mk (fun _=>?_) (fun e=>je e);conv=>whnf) | (refine bC.mk ⟨by kernel_rfl,by kernel_rfl⟩ ?_;conv=>whnf))
   exact aA.mk ⟨rfl,rfl⟩ ⟨rfl,rfl⟩ ⟨bv (ng hk2 (by unfold nX;rw [c1,c2,c3];rfl)),trivial⟩
  have c3:=bQ c
  clear c
  conv=>whnf
  refine Split.mk (fun c=>?_) (fun c=>?_)
  ·have c4:0<k:=kN c
   clear c
   have hpr:=DL c4 (by omega)
   have hpt:(wrap64 ((k:Int) - 1)).toNat=k - 1:=by rw [hpr];rfl
   conv=>whnf
   refine Need.mk (by rw [hpr];exact idx (show k - 1<l.length by omega)) ?_
   conv=>whnf
   refine bC.mk ⟨by kernel_rfl,by kernel_rfl⟩ ?_
   conv=>whnf
   refine Split.mk (fun c=>?_) (fun c=>?_)
   ·have c5:Op.bytesLess (gK l (k - 1)).f0.toList (gK l k).f0.toList=false:=(congrArg (fun j=>Op.bytesLess (gK l j).f0.toList (gK l k).f0.toList) hpt.symm).trans (bI c)
    conv=>whnf
    exact aA.mk ⟨rfl,rfl⟩ ⟨rfl,rfl⟩ ⟨bv (ng hk2 (by unfold nX;rw [c1,c2,c3,c5,decide_eq_true c4];rfl)),trivial⟩
   ·have c5:Op.bytesLess (gK l (k - 1)).f0.toList (gK l k).f0.toList=true:=(congrArg (fun j=>Op.bytesLess (gK l j).f0.toList (gK l k).f0.toList) hpt.symm).trans (bQ c)
    conv=>whnf
    exact bM.mk ⟨⟨k+1,hk2,yR hok (by unfold nX;rw [c1,c2,c3,c5];simp)⟩,Nat.sub_lt_sub_left hk2 (Nat.lt_succ_self k),aC [] rfl rfl rfl ⟨⟨rfl,congrArg i64 (dZ hk2 (by omega))⟩,⟨rfl,rfl⟩,⟨rfl,rfl⟩,⟨rfl,rfl⟩,trivial⟩ trivial⟩
  ·have c4:k=0:=kP c
   clear c
   subst c4
   conv=>whnf
   refine bC.mk ⟨by kernel_rfl,by kernel_rfl⟩ ?_
   conv=>whnf
   refine Split.mk (fun e=>jM e) (fun _=>?_)
   conv=>whnf
   exact bM.mk ⟨⟨0+1,hk2,yR hok (by unfold nX;rw [c1,c2,c3];rfl)⟩,Nat.sub_lt_sub_left hk2 (Nat.lt_succ_self 0),aC [] rfl rfl rfl ⟨⟨rfl,congrArg i64 (dZ hk2 (by omega))⟩,⟨rfl,rfl⟩,⟨rfl,rfl⟩,⟨rfl,rfl⟩,trivial⟩ trivial⟩
 ·have hk2:k=l.length:=Nat.le_antisymm hk (iK c)
  clear c
  conv=>whnf
  subst hk2
  exact aA.mk ⟨rfl,rfl⟩ ⟨rfl,rfl⟩ ⟨bv (KN hok),trivial⟩
theorem yU (l:List SK) (hl:l.length≤2097152) (hb:∀y∈l,(y:SK).f0.size≤1048576):aG T Tryz.prog 160 [.c (.sl eK l)] (.c (.sc (.bool (jF l)))):=by
 refine aH hT Tryz.func160 (by kernel_rfl) rfl rfl (fun A=>?_)
 conv=>whnf
 refine dR.mk {k:Nat // k≤l.length∧∀i,i<k→nX l i=true} (fun p=>(0,[(3,i64 p.1),(0,im eK l)],[])) (fun p=>l.length - p.1) ⟨0,Nat.zero_le _,fun i hi=>absurd hi (Nat.not_lt_zero i)⟩ (aC [] rfl rfl rfl ⟨⟨rfl,rfl⟩,⟨rfl,rfl⟩,trivial⟩ trivial) ?_
 rintro⟨k,hk,hok⟩
 conv=>whnf
 refine Split.mk (fun c=>?_) (fun c=>?_)
 ·have hk2:k<l.length:=iJ c
  clear c
  have h1:=hb _ (GU hk2)
  conv=>whnf
  refine Need.mk (idx hk2) ?_
  conv=>whnf
  refine ay.mk _ (EH (gK l k).f0 (Nat.le_trans h1 (by decide))) ?_
  conv=>whnf
  refine Split.mk (fun c=>?_) (fun c=>?_)
  ·have c1:kV (gK l k).f0=false:=bI c
   conv=>whnf
   repeat (first | (refine Split.mk (fun _=>?_) (fun e=>je e);conv=>whnf) | (refine bC.mk ⟨by kernel_rfl,by kernel_rfl⟩ ?_;conv=>whnf))
   exact aA.mk ⟨rfl,rfl⟩ ⟨rfl,rfl⟩ ⟨bv (ng hk2 (by unfold nX;rw [c1];rfl)),trivial⟩
  have c1:kV (gK l k).f0=true:=bQ c
  clear c
  conv=>whnf
  refine Need.mk (idx hk2) ?_
  conv=>whnf
  refine ay.mk _ (Ba ((gK l k).f1.length:Int) 1 40) ?_
  conv=>whnf
  refine Split.mk (fun c=>?_) (fun c=>?_)
  ·have c2:=bI c
   conv=>whnf
   repeat (first | (refine Split.mk (fun _=>?_) (fun e=>je e);conv=>whnf) | (refine bC.mk ⟨by kernel_rfl,by kernel_rfl⟩ ?_;conv=>whnf))
   exact aA.mk ⟨rfl,rfl⟩ ⟨rfl,rfl⟩ ⟨bv (ng hk2 (by unfold nX;rw [c1,c2];rfl)),trivial⟩
  have c2:=bQ c
  clear c
  conv=>whnf
  refine Need.mk (idx hk2) ?_
  conv=>whnf
  refine ay.mk _ (Ba (gK l k).f2 0 2) ?_
  conv=>whnf
  refine Split.mk (fun c=>?_) (fun c=>?_)
  ·have c3:=bI c
   conv=>whnf
   repeat (first | (refine Split.mk (fun _=>?_) (fun e=>je e);conv=>whnf) | (refine bC.mk ⟨by kernel_rfl,by kernel_rfl⟩ ?_;conv=>whnf))
   exact aA.mk ⟨rfl,rfl⟩ ⟨rfl,rfl⟩ ⟨bv (ng hk2 (by unfold nX;rw [c1,c2,c3];rfl)),trivial⟩
  have c3:=bQ c
  clear c
  conv=>whnf
  refine Split.mk (fun c=>?_) (fun c=>?_)
  ·have c4:0<k:=kN c
   clear c
   have hpr:=DL c4 (by omega)
   have hpt:(wrap64 ((k:Int) - 1)).toNat=k - 1:=by rw [hpr];rfl
   conv=>whnf
   refine Need.mk (by rw [hpr];exact idx (show k - 1<l.length by omega)) ?_
   conv=>whnf
   refine Need.mk (idx hk2) ?_
   conv=>whnf
   refine bC.mk ⟨by kernel_rfl,by kernel_rfl⟩ ?_
   conv=>whnf
   refine Split.mk (fun c=>?_) (fun c=>?_)
   ·have c5:Op.bytesLess (gK l (k - 1)).f0.toList (gK l k).f0.toList=false:=(congrArg (fun j=>Op.bytesLess (gK l j).f0.toList (gK l k).f0.toList) hpt.symm).trans (bI c)
    conv=>whnf
    exact aA.mk ⟨rfl,rfl⟩ ⟨rfl,rfl⟩ ⟨bv (ng hk2 (by unfold nX;rw [c1,c2,c3,c5,decide_eq_true c4];rfl)),trivial⟩
   ·have c5:Op.bytesLess (gK l (k - 1)).f0.toList (gK l k).f0.toList=true:=(congrArg (fun j=>Op.bytesLess (gK l j).f0.toList (gK l k).f0.toList) hpt.symm).trans (bQ c)
    conv=>whnf
    exact bM.mk ⟨⟨k+1,hk2,yR hok (by unfold nX;rw [c1,c2,c3,c5];simp)⟩,Nat.sub_lt_sub_left hk2 (Nat.lt_succ_self k),aC [] rfl rfl rfl ⟨⟨rfl,congrArg i64 (dZ hk2 (by omega))⟩,⟨rfl,rfl⟩,trivial⟩ trivial⟩
  ·have c4:k=0:=kP c
   clear c
   subst c4
   conv=>whnf
   refine bC.mk ⟨by kernel_rfl,by kernel_rfl⟩ ?_
   conv=>whnf
   refine Split.mk (fun e=>jM e) (fun _=>?_)
   conv=>whnf
   exact bM.mk ⟨⟨0+1,hk2,yR hok (by unfold nX;rw [c1,c2,c3];rfl)⟩,Nat.sub_lt_sub_left hk2 (Nat.lt_succ_self 0),aC [] rfl rfl rfl ⟨⟨rfl,congrArg i64 (dZ hk2 (by omega))⟩,⟨rfl,rfl⟩,trivial⟩ trivial⟩
 ·have hk2:k=l.length:=Nat.le_antisymm hk (iK c)
  clear c
  conv=>whnf
  subst hk2
  exact aA.mk ⟨rfl,rfl⟩ ⟨rfl,rfl⟩ ⟨bv (KN hok),trivial⟩
end Go.Proofs.YtcnfgfomholheaaGreatDoor.Q
end
section
namespace Go.Proofs.YtcnfgfomholheaaGreatDoor.Q
open Go.RowKit Go.Proofs.YtcnfgfomholheaaGreatDoor.Z Go.Proofs.YtcnfgfomholheaaGreatDoor.Pure
set_option linter.unusedVariables false
set_option linter.unusedSimpArgs false
set_option maxRecDepth 100000
set_option maxHeartbeats 4000000
theorem Zk {n:Nat} (h:decide ((n:Int)>1048576)=false):n≤1048576:=by simp at h;omega
end Go.Proofs.YtcnfgfomholheaaGreatDoor.Q
end
section
namespace Go.Proofs.YtcnfgfomholheaaGreatDoor.Q
open Go.RowKit Go.Proofs.YtcnfgfomholheaaGreatDoor.Z Go.Proofs.YtcnfgfomholheaaGreatDoor.Pure
set_option linter.unusedVariables false
set_option linter.unusedSimpArgs false
set_option maxRecDepth 100000
set_option maxHeartbeats 4000000
theorem NR (r:RT) (hr:GK r):aG T Tryz.prog 122 [.ag (cR r)] (X0 r):=by
 refine aH hT Tryz.func122 (by kernel_rfl) rfl rfl (fun A=>?_)
 conv=>whnf
 refine ay.mk _ (NS r.t hr.t) ?_
 conv=>whnf
 refine ay.mk _ (AY r.k hr.k hr.b) ?_
 conv=>whnf
 refine bC.mk ⟨by kernel_rfl,by kernel_rfl⟩ ?_
 conv=>whnf
 exact aA.mk ⟨rfl,rfl⟩ ⟨rfl,rfl⟩ ⟨rfl,rfl,rfl,rfl,rfl,trivial⟩
theorem NT (r:RT) (hr:GK r):aG T Tryz.prog 120 [.ag (cR r)] (X0 r):=by
 refine aH hT Tryz.func120 (by kernel_rfl) rfl rfl (fun A=>?_)
 conv=>whnf
 refine ay.mk _ (ND r.t hr.t) ?_
 conv=>whnf
 refine ay.mk _ (uZ r.k hr.k hr.b) ?_
 conv=>whnf
 refine bC.mk ⟨by kernel_rfl,by kernel_rfl⟩ ?_
 conv=>whnf
 exact aA.mk ⟨rfl,rfl⟩ ⟨rfl,rfl⟩ ⟨rfl,rfl,rfl,rfl,rfl,trivial⟩
structure GR (r:RT):Prop where
 bd:GK r
 c:cnt r.t≤2097000
 t:∀y∈r.k,(y:SK).f0.size≤1048576
theorem GR.el {r:RT} (h:GR r):(jZ r.t).length≤4194304:=Nat.le_trans (X9 r.t) (by have:=h.c;omega)
def ug (r:RT):Bool:=(decide (0≤r.v) && decide (r.v≤1000000)) && (jJ r.t && (decide (((jZ r.t).length:Int)≤14) && jF r.k))
theorem NU (r:RT):ug r=((decide (0≤r.v) && decide (r.v≤1000000)) && (jJ r.t && (decide (((jZ r.t).length:Int)≤14) && jF r.k))):=rfl
theorem Tv (r:RT) (h:GR r):aG T Tryz.prog 85 [.ag (cR r)] (.c (.sc (.bool (ug r)))):=by
 have he:=Qo r.t h.bd.t GI h.el
 have hn:=GH r.t h.bd.t
 have hk:=yS r.k h.bd.k h.t
 have hR:=NU r
 generalize ug r=R at hR⊢
 replace hR:=hR.symm
 refine aH hT Tryz.func85 (by kernel_rfl) rfl rfl (fun A=>?_)
 conv=>whnf
 refine ay.mk _ (yT _ _ _) ?_
 conv=>whnf
 refine Split.mk (fun c1=>?_) (fun c1=>?_)
 ·replace hR:=dH c1 hR
  clear c1
  conv=>whnf
  refine ay.mk _ hn ?_
  conv=>whnf
  refine Split.mk (fun c1=>?_) (fun c1=>?_)
  ·replace hR:=dH c1 hR
   clear c1
   conv=>whnf
   refine ay.mk _ he ?_
   conv=>whnf
   refine Split.mk (fun c1=>?_) (fun c1=>?_)
   ·replace hR:=dH c1 hR
    clear c1
    conv=>whnf
    refine ay.mk _ hk ?_
    conv=>whnf
    exact aA.mk ⟨rfl,rfl⟩ ⟨rfl,rfl⟩ ⟨bv hR.symm,trivial⟩
   ·conv=>whnf
    repeat (first | (refine Split.mk (fun e=>jM e) (fun _=>?_);conv=>whnf) | (refine bC.mk ⟨by kernel_rfl,by kernel_rfl⟩ ?_;conv=>whnf))
    exact aA.mk ⟨rfl,rfl⟩ ⟨rfl,rfl⟩ ⟨bv (dP c1 hR),trivial⟩
  ·conv=>whnf
   repeat (first | (refine Split.mk (fun e=>jM e) (fun _=>?_);conv=>whnf) | (refine bC.mk ⟨by kernel_rfl,by kernel_rfl⟩ ?_;conv=>whnf))
   exact aA.mk ⟨rfl,rfl⟩ ⟨rfl,rfl⟩ ⟨bv (dP c1 hR),trivial⟩
 ·conv=>whnf
  repeat (first | (refine Split.mk (fun e=>jM e) (fun _=>?_);conv=>whnf) | (refine bC.mk ⟨by kernel_rfl,by kernel_rfl⟩ ?_;conv=>whnf))
  exact aA.mk ⟨rfl,rfl⟩ ⟨rfl,rfl⟩ ⟨bv (dP c1 hR),trivial⟩
theorem Tz (r:RT) (h:GR r):aG T Tryz.prog 84 [.ag (cR r)] (.c (.sc (.bool (ug r)))):=by
 have he:=specEntries r.t h.bd.t GI h.el
 have hn:=GN r.t h.bd.t
 have hk:=yU r.k h.bd.k h.t
 have hR:=NU r
 generalize ug r=R at hR⊢
 replace hR:=hR.symm
 refine aH hT Tryz.func84 (by kernel_rfl) rfl rfl (fun A=>?_)
 conv=>whnf
 refine ay.mk _ (Ba _ _ _) ?_
 conv=>whnf
 refine Split.mk (fun c1=>?_) (fun c1=>?_)
 ·replace hR:=dH c1 hR
  clear c1
  conv=>whnf
  refine ay.mk _ hn ?_
  conv=>whnf
  refine Split.mk (fun c1=>?_) (fun c1=>?_)
  ·replace hR:=dH c1 hR
   clear c1
   conv=>whnf
   refine ay.mk _ he ?_
   conv=>whnf
   refine Split.mk (fun c1=>?_) (fun c1=>?_)
   ·replace hR:=dH c1 hR
    clear c1
    conv=>whnf
    refine ay.mk _ hk ?_
    conv=>whnf
    exact aA.mk ⟨rfl,rfl⟩ ⟨rfl,rfl⟩ ⟨bv hR.symm,trivial⟩
   ·conv=>whnf
    repeat (first | (refine Split.mk (fun e=>jM e) (fun _=>?_);conv=>whnf) | (refine bC.mk ⟨by kernel_rfl,by kernel_rfl⟩ ?_;conv=>whnf))
    exact aA.mk ⟨rfl,rfl⟩ ⟨rfl,rfl⟩ ⟨bv (dP c1 hR),trivial⟩
  ·conv=>whnf
   repeat (first | (refine Split.mk (fun e=>jM e) (fun _=>?_);conv=>whnf) | (refine bC.mk ⟨by kernel_rfl,by kernel_rfl⟩ ?_;conv=>whnf))
   exact aA.mk ⟨rfl,rfl⟩ ⟨rfl,rfl⟩ ⟨bv (dP c1 hR),trivial⟩
 ·conv=>whnf
  repeat (first | (refine Split.mk (fun e=>jM e) (fun _=>?_);conv=>whnf) | (refine bC.mk ⟨by kernel_rfl,by kernel_rfl⟩ ?_;conv=>whnf))
  exact aA.mk ⟨rfl,rfl⟩ ⟨rfl,rfl⟩ ⟨bv (dP c1 hR),trivial⟩
def qP (r:RT):Bool:=ug r && decide (r.v<1000000)
theorem Qq (r:RT) (h:GR r):aG T Tryz.prog 123 [.ag (cR r)] (.c (.sc (.bool (qP r)))):=by
 refine aH hT Tryz.func123 (by kernel_rfl) rfl rfl (fun A=>?_)
 conv=>whnf
 refine ay.mk _ (Tv r h) ?_
 conv=>whnf
 refine Split.mk (fun c1=>?_) (fun c1=>?_)
 ·conv=>whnf
  exact aA.mk ⟨rfl,rfl⟩ ⟨rfl,rfl⟩ ⟨bv (by unfold qP;rw [c1];rfl),trivial⟩
 ·conv=>whnf
  exact aA.mk ⟨rfl,rfl⟩ ⟨rfl,rfl⟩ ⟨bv (by unfold qP;rw [c1];rfl),trivial⟩
abbrev Zl (r:RT) (b:Bool):RS T.Tb:= .tu [(true,[.sc (.int .i64 r.v), .ow 9 r.t.f0, .ow eN r.t.f1, .ow eS r.t.f2, .ow eK r.k]),(false,[.sc (.bool b)])]
theorem aaq {r:RT} (h:ug r=true):qP r=!(r.v==1000000):=by
 have h2:=h
 unfold ug at h2
 simp only [Bool.and_eq_true,decide_eq_true_eq] at h2
 unfold qP
 rw [h,Bool.true_and]
 rw [Bool.eq_iff_iff]
 simp
 omega
theorem abm {r:RT} (h:ug r=false):qP r=false:=by unfold qP;rw [h];rfl
theorem GR.of {r:RT} (hB:Bd r.t) (hc:cnt r.t≤2097000) (hk:BK r.k):GR r:=⟨hk.bdr hB,hc,hk.t⟩
theorem VI (r:RT) (h:BK r.k) (hc:cnt r.t≤2097152):(iO r 1).2≤2305843009213693952:=by
 have h1:=Jl r.t 1
 have h2:=Fe r.k (bH r.t 1).2 1048576 h.b
 have h3:(2+1048576)*r.k.length≤(2+1048576)*1048576:=Nat.mul_le_mul_left _ h.k
 show(aY (β:=SK) eu r.k (bH r.t 1).2).2≤_
 omega
theorem aar (r:RT):0<(iO r 1).2:=by
 have g1:=ku r.t 1
 have g2:(bH r.t 1).2≤(iO r 1).2:=gU qN r.k (bH r.t 1).2
 omega
end Go.Proofs.YtcnfgfomholheaaGreatDoor.Q
end
section
namespace Go.Proofs.YtcnfgfomholheaaGreatDoor.Q
open Go.RowKit Go.Proofs.YtcnfgfomholheaaGreatDoor.X Go.Proofs.YtcnfgfomholheaaGreatDoorW.PrintWords Go.Proofs.YtcnfgfomholheaaGreatDoorW.PrintLast Go.Proofs.YtcnfgfomholheaaGreatDoorW.PrintMore
open Go.Proofs.YtcnfgfomholheaaGreatDoor.Z (V El ck Ow Fam row_part row_in ow_open CallWOb)
set_option linter.unusedVariables false
set_option linter.unusedSimpArgs false
theorem Js.calls (B:Nat) (t:ByteArray) (a v q:Value) (w:World) (ha:∃s,a= .string s) (h1:v.oneCell'=true) (h2:q.oneCell'=true) (hB:w.cell? ⟨B,0,none⟩=some (.string t)):
  Calls Tryz.prog 167 #[.agg #[a,v,q], .pointer (some ⟨B,0,none⟩)] w fun e w'=>e= .returned (.bool (Jt t a))∧Below w.heap.size w w':=by
 obtain⟨s,rfl⟩:=ha
 have hB2:=fun o=>Go.Lib.cell?_alloc_some o hB
 go_enter Tryz.func167,Tryz.ntmps167
 go_wp2
 go_ret
 exact⟨by first | rfl | (simp;done),aj (Below.refl _ _) _⟩
set_option maxHeartbeats 4000000 in
set_option maxRecDepth 100000 in
theorem VJ.calls (B:Nat) (t:ByteArray) (ts:List jh) (hS:∀c∈ts,∃s,c.2.1=Value.string s) (A:Option Addr) (n cap base:Nat) (w:World) (hR:kL 121 w base (.slice A n cap) ts) (hB:w.cell? ⟨B,0,none⟩=some (.string t)):
  Calls Tryz.prog 200 #[.slice A n cap, .func (.func 167) #[] #[.pointer (some ⟨B,0,none⟩)]] w fun e w'=>e= .returned (.int .i64 (Bc t ts))∧Below w.heap.size w w':=by
 have hn:=pK hR
 have hm:n≤9223372036854775807:=Kd.Tm (by have:=(Kd.bJ hR);rw [←this.1] at this;exact this.2.2)
 have HR:=Aside0.mk hR
 have HB:=Aside0.mk hB
 have HN:=Aside0.mk hn
 have Zm:=Aside0.mk hS
 clear hR hB hn hS
 go_enter Tryz.func200,Tryz.ntmps200
 go_wp2
 go_loopg [5,8] n (fun gg _ s8 wr=>∃kk:Nat,kk≤n∧n - kk≤gg∧s8= .int .i64 kk∧Aside0 (Below w.heap.size w wr)∧Aside0 (∀j c,j<kk→ts[j]? =some c→xE t c=false))
 case atStart=>exact⟨0,Nat.zero_le _,by omega,rfl,⟨Below.refl _ w⟩,⟨fun j c hj=>absurd hj (Nat.not_lt_zero _)⟩⟩
 case round=>
  obtain⟨kk,hkk,hg,rfl,BW,AA⟩:=hrel
  by_cases hlt:kk<n
  ·have hltz:(kk:Int)<(n:Int):=by omega
   obtain⟨c,hc⟩:∃c,ts[kk]? =some c:=⟨_,List.getElem?_eq_getElem (by have:=HN.out;omega)⟩
   obtain⟨g,rfl,_,_⟩:=yV HR.out (by omega)
   obtain⟨c0,c1,c2,fz,oc⟩:=ni (kC HR.out BW.out) kk c hc
   have hBB:wr.cell? ⟨B,0,none⟩=some (.string t):=(by rw [BW.out.cell (by
    rcases Nat.lt_or_ge B w.heap.size with h' | h'
    ·exact h'
    ·exact absurd HB.out (by simp [World.cell?,Array.getElem?_eq_none h']))];exact HB.out)
   have hcall:=Js.calls B t c.2.1 c.2.2.1 c.2.2.2 wr (Zm.out c (List.mem_of_getElem? hc)) (oc _ (by simp [cu])) (oc _ (by simp [cu])) hBB
   rw [show Jt t c.2.1=xE t c from rfl] at hcall
   have HC:=Aside0.mk hc
   clear hc fz oc hBB
   cases hq:xE t c with
   | true=>
     rw [hq] at hcall
     have HQ:=Aside0.mk hq
     clear hq
     go_wp2_with (go_at_call 167;refine hcall.mono ?_;rintro e w' ⟨rfl,hb'⟩)
     go_ret
     refine⟨?_,bG BW.out hb'⟩
     have e:Bc t ts=(kk:Int):=by
      unfold Bc
      obtain⟨hk,hg⟩:=List.getElem?_eq_some_iff.1 HC.out
      rw [List.findIdx?_eq_some_iff_getElem.2 ⟨hk,by rw [hg];exact HQ.out,fun j hj=>by rw [AA.out j _ hj (List.getElem?_eq_getElem (by omega))];simp⟩]
     rw [e]
     rfl
   | false=>
     rw [hq] at hcall
     have HQ:=Aside0.mk hq
     clear hq
     go_wp2_with (go_at_call 167;refine hcall.mono ?_;rintro e w' ⟨rfl,hb'⟩)
     go_roundg (n - (kk+1))
     case measure=>omega
     case rel=>
      refine⟨kk+1,by omega,by omega,by go_num,⟨bG BW.out hb'⟩,⟨fun j c' hj hc'=>?_⟩⟩
      by_cases e:j=kk
      ·subst e
       obtain rfl:=Option.some.inj (HC.out.symm.trans hc')
       exact HQ.out
      ·exact AA.out j c' (by omega) hc'
  ·have hltz:¬(kk:Int)<(n:Int):=by omega
   have:kk=n:=by omega
   subst this
   go_wp2
   go_ret
   refine⟨?_,BW.out⟩
   have e:Bc t ts= -1:=by
    unfold Bc
    rw [List.findIdx?_eq_none_iff.2 (fun x hx=>by
     obtain⟨j,hj,rfl⟩:=List.mem_iff_getElem.1 hx
     exact AA.out j _ (by have:=HN.out;omega) (List.getElem?_eq_getElem hj))]
   rw [e]
   rfl
set_option maxHeartbeats 8000000 in
set_option maxRecDepth 100000 in
theorem TA.calls (B:Nat) (t:ByteArray) (ts:List jh) (hS:∀c∈ts,∃s,c.2.1=Value.string s) (A:Option Addr) (n cap base:Nat) (w:World) (hR:kL 121 w base (.slice A n cap) ts) (hB:w.cell? ⟨B,0,none⟩=some (.string t)) (hne:∀ad,A=some ad→ad.block≠B):
  Calls Tryz.prog 166 #[.slice A n cap, .func (.func 167) #[] #[.pointer (some ⟨B,0,none⟩)]] w fun e w'=>∃m,e= .returned (.slice A m cap)∧kL 121 w' base (.slice A m cap) (ts.filter (kp t))∧w.grownBy w' (Value.slice A n cap).ownBlock:=by
 have hn:=pK hR
 have hm:n≤9223372036854775807:=Kd.Tm (by have:=(Kd.bJ hR);rw [←this.1] at this;exact this.2.2)
 have hcn:n≤cap:=(Kd.bJ hR).2.1
 have hI:=VJ.calls B t ts hS A n cap base w hR hB
 have hsp:Bc t ts= -1∧(∀c∈ts,xE t c=false)∨∃k0,k0<n∧Bc t ts=(k0:Int)∧(∃c,ts[k0]? =some c∧xE t c=true)∧∀j c,j<k0→ts[j]? =some c→xE t c=false:=by
  unfold Bc
  cases h:ts.findIdx? (xE t) with
  | none=>exact .inl ⟨rfl,fun c hc=>List.findIdx?_eq_none_iff.1 h c hc⟩
  | some i=>
    obtain⟨hi,h1,h2⟩:=List.findIdx?_eq_some_iff_getElem.1 h
    refine .inr ⟨i,by omega,rfl,⟨_,List.getElem?_eq_getElem hi,h1⟩,fun j c hj hc=>?_⟩
    obtain⟨hj',rfl⟩:=List.getElem?_eq_some_iff.1 hc
    have:=h2 j hj
    simpa using this
 have HR:=Aside0.mk hR
 have HB:=Aside0.mk hB
 have HN:=Aside0.mk hn
 have HE:=Aside0.mk hne
 have Zm:=Aside0.mk hS
 clear hR hB hn hne hS
 rcases hsp with ⟨e1,hall⟩ | ⟨k0,hk0,e1,hhit,hall⟩
 ·rw [e1] at hI
  have hf:ts.filter (kp t)=ts:=List.filter_eq_self.2 (fun c hc=>by unfold kp;rw [hall c hc];rfl)
  have HF:=Aside0.mk hf
  have HI:=Aside0.mk hI
  clear e1 hall hf hI
  go_enter Tryz.func166,Tryz.ntmps166
  go_wp2_with (go_at_call 200;refine HI.out.mono ?_;rintro e w' ⟨rfl,hb'⟩)
  go_ret
  refine⟨n,rfl,?_,grown_below (World.grownBy.refl _ _) hb'⟩
  rw [HF.out]
  exact kC HR.out hb'
 ·rw [e1] at hI
  obtain⟨g,rfl,hgl,hgb⟩:=yV HR.out (by omega)
  have HI:=Aside0.mk hI
  have HA:=Aside0.mk hall
  have HH:=Aside0.mk hhit
  have GL:=Aside0.mk hgl
  have GB:=Aside0.mk hgb
  have HS:=Aside0.mk hk0
  clear hI hall hhit e1 hgl hgb
  have hne1:((k0:Int)== -1)=false:=beq_eq_false_iff_ne.2 (by omega)
  go_enter Tryz.func166,Tryz.ntmps166
  go_wp2_with (go_at_call 200;refine HI.out.mono ?_;rintro e w0' ⟨rfl,hb0⟩)
  go_loopg [5,6,7] n (fun gg s5 s6 _ wr=>∃(i j:Nat) (ts':List jh),s5= .int .i64 i∧s6= .int .i64 j∧i<j∧j≤n∧n - j≤gg∧Aside0 (ts'.length=ts.length)∧Aside0 (ts'.take i=(ts.take j).filter (kp t))∧Aside0 (ts'.drop j=ts.drop j)∧Aside0 (kL 121 wr base (.slice (some ⟨g,0,none⟩) n cap) ts')∧Aside0 (w.grownBy wr (some g)))
  case atStart=>
   refine⟨k0,k0+1,ts,rfl,by go_num,by omega,by omega,by omega,⟨rfl⟩,⟨?_⟩,⟨rfl⟩,⟨kC HR.out hb0⟩,⟨grown_below (World.grownBy.refl _ _) hb0⟩⟩
   obtain⟨c,hc,hh⟩:=HH.out
   rw [List.take_add_one,hc,List.filter_append]
   have:[c].filter (kp t)=[]:=by simp [kp,hh]
   rw [show(some c).toList=[c] from rfl,this,List.append_nil]
   refine(List.filter_eq_self.2 (fun x hx=>?_)).symm
   obtain⟨j,hj,rfl⟩:=List.mem_take_iff_getElem.1 hx
   unfold kp
   rw [HA.out j _ (by omega) (List.getElem?_eq_getElem (by omega))]
   rfl
  case round=>
   obtain⟨i,j,ts',rfl,rfl,hij,hjn,hgg,L',T',D',R',G'⟩:=hrel
   have hcell:=yX G'.out HB.out (fun e=>HE.out _ rfl e.symm)
   by_cases hlt:j<n
   ·have hltz:(j:Int)<(n:Int):=by omega
    have hjl:j<ts.length:=by have:=HN.out;omega
    obtain⟨c,hc⟩:∃c,ts[j]? =some c:=⟨_,List.getElem?_eq_getElem hjl⟩
    have hc':ts'[j]? =some c:=by
     have e:(ts'.drop j)[0]? =(ts.drop j)[0]?:=by rw [D'.out]
     rw [List.getElem?_drop,List.getElem?_drop] at e
     simpa [hc] using e
    obtain⟨c0,c1,c2,fz,oc⟩:=ni R'.out j c hc'
    have HC:=Aside0.mk hc
    have HL:=Aside0.mk hjl
    have OC:=Aside0.mk oc
    have HCB:=Aside0.mk hcell
    clear hc hc' hcell fz oc hjl
    cases hq:xE t c with
    | true=>
      have HQ:=Aside0.mk hq
      clear hq
      go_wp2_with (first | ((with_reducible refine Fa (N:=7) rfl ?_);refine KG ?hg (N:=7) ?hd (cs:=#[.string (⟨#[]⟩:ByteArray), .slice none 0 0, .int .i64 0]) (t:=121) ?hr ?_;(case hd=>rfl);(case hg=>rfl);(case hr=>first | (go_simp;done) | (go_simp;rfl));intro gb hgb w1 hbx hb1;have X1:=NV (base:=gb) (((0,[]), .string (⟨#[]⟩:ByteArray), .slice none 0 0, .int .i64 0):jh) (by intro u hu;simp [cu] at hu;rcases hu with rfl | rfl | rfl<;>rfl) hbx (Nat.le_refl _);have R1:=kC R'.out hb1;have G1:=grown_below G'.out hb1;have Z1:wr.heap.size≤gb:=Nat.le_of_eq hgb.symm;have X1:=Aside0.mk X1;have R1:=Aside0.mk R1;have G1:=Aside0.mk G1;have Z1:=Aside0.mk Z1;clear hgb hbx hb1) | ((with_reducible refine yM (t:=121) (p:=7) rfl ?_);refine Bf (o':=?oo) rfl rfl _ _ rfl 0 _ c ?tV ?hoff ?hx OC.out (by kernel_rfl) X1.out (by omega) ?_;(case tV=>rfl);(case hoff=>rfl);(case hx=>rfl);intro w2 hr2 hb2 hg2;have X2:=hr2;have R2:=KO R1.out hg2 (by have:=Z1.out;have:=GL.out;have:=G'.out.size;intro e;have e:some gb=some g:=e;injection e with e;omega);have G2:=World.grownBy.andThen G1.out hg2 (fun j hj=> .inl (by injection hj with hj;have:=Z1.out;have:=G'.out.size;omega));have HB2:=yX G2 HB.out (fun e=>HE.out _ rfl e.symm);obtain⟨b0,b1,b2,-,-⟩:=ni X2 0 c rfl;simp only [Nat.zero_mul,Nat.zero_add] at b0 b1 b2;have X2:=Aside0.mk X2;have R2:=Aside0.mk R2;have G2:=Aside0.mk G2;have HB2:=Aside0.mk HB2;clear hr2 hb2 hg2) | (go_at_call 167;refine(Js.calls B t c.2.1 c.2.2.1 c.2.2.2 _ (Zm.out c (List.mem_of_getElem? HC.out)) (OC.out _ (by simp [cu])) (OC.out _ (by simp [cu])) HB2.out).mono ?_;rintro e w3 ⟨rfl,hb3⟩;rw [show Jt t c.2.1=_ from HQ.out];have X3:=kC X2.out hb3;have R3:=kC R2.out hb3;have G3:=grown_below G2.out hb3;clear b0 b1 b2;obtain⟨b0,b1,b2,-,-⟩:=ni X3 0 c rfl;simp only [Nat.zero_mul,Nat.zero_add] at b0 b1 b2;have R3:=Aside0.mk R3;have G3:=Aside0.mk G3;clear hb3))
      go_roundg (n - (j+1))
      case measure=>omega
      case rel=>
       refine⟨i,j+1,ts',rfl,by go_num,by omega,by omega,by omega,L',⟨?_⟩,⟨?_⟩,R3,G3⟩
       ·rw [T'.out,List.take_add_one,HC.out,List.filter_append]
        simp [kp,HQ.out]
       ·have:=congrArg (List.drop 1) D'.out
        rwa [List.drop_drop,List.drop_drop] at this
    | false=>
      have HQ:=Aside0.mk hq
      clear hq
      go_wp2_with (first | ((with_reducible refine Fa (N:=7) rfl ?_);refine KG ?hg (N:=7) ?hd (cs:=#[.string (⟨#[]⟩:ByteArray), .slice none 0 0, .int .i64 0]) (t:=121) ?hr ?_;(case hd=>rfl);(case hg=>rfl);(case hr=>first | (go_simp;done) | (go_simp;rfl));intro gb hgb w1 hbx hb1;have X1:=NV (base:=gb) (((0,[]), .string (⟨#[]⟩:ByteArray), .slice none 0 0, .int .i64 0):jh) (by intro u hu;simp [cu] at hu;rcases hu with rfl | rfl | rfl<;>rfl) hbx (Nat.le_refl _);have R1:=kC R'.out hb1;have G1:=grown_below G'.out hb1;have Z1:wr.heap.size≤gb:=Nat.le_of_eq hgb.symm;have X1:=Aside0.mk X1;have R1:=Aside0.mk R1;have G1:=Aside0.mk G1;have Z1:=Aside0.mk Z1;clear hgb hbx hb1) | ((with_reducible refine yM (t:=121) (p:=7) rfl ?_);refine Bf (o':=?oo) rfl rfl _ _ rfl 0 _ c ?tV ?hoff ?hx OC.out (by kernel_rfl) X1.out (by omega) ?_;(case tV=>rfl);(case hoff=>rfl);(case hx=>rfl);intro w2 hr2 hb2 hg2;have X2:=hr2;have R2:=KO R1.out hg2 (by have:=Z1.out;have:=GL.out;have:=G'.out.size;intro e;have e:some gb=some g:=e;injection e with e;omega);have G2:=World.grownBy.andThen G1.out hg2 (fun j hj=> .inl (by injection hj with hj;have:=Z1.out;have:=G'.out.size;omega));have HB2:=yX G2 HB.out (fun e=>HE.out _ rfl e.symm);obtain⟨b0,b1,b2,-,-⟩:=ni X2 0 c rfl;simp only [Nat.zero_mul,Nat.zero_add] at b0 b1 b2;have X2:=Aside0.mk X2;have R2:=Aside0.mk R2;have G2:=Aside0.mk G2;have HB2:=Aside0.mk HB2;clear hr2 hb2 hg2) | (go_at_call 167;refine(Js.calls B t c.2.1 c.2.2.1 c.2.2.2 _ (Zm.out c (List.mem_of_getElem? HC.out)) (OC.out _ (by simp [cu])) (OC.out _ (by simp [cu])) HB2.out).mono ?_;rintro e w3 ⟨rfl,hb3⟩;rw [show Jt t c.2.1=_ from HQ.out];have X3:=kC X2.out hb3;have R3:=kC R2.out hb3;have G3:=grown_below G2.out hb3;clear b0 b1 b2;obtain⟨b0,b1,b2,-,-⟩:=ni X3 0 c rfl;simp only [Nat.zero_mul,Nat.zero_add] at b0 b1 b2;have R3:=Aside0.mk R3;have G3:=Aside0.mk G3;clear hb3) | ((with_reducible refine yM (t:=121) (p:=33) rfl ?_);refine Bf (o':=i*3) rfl rfl _ _ rfl i _ c ?tV ?hoff ?hx OC.out (by kernel_rfl) R3.out (by omega) ?_;(case tV=>first | rfl | (go_simp;done) | (go_simp;rfl) | (simp [Act.eval,Act.put];done));(case hoff=>rfl);(case hx=>rfl);intro w4 hr4 hb4 hg4;have R4:=Aside0.mk hr4;have G4:=Aside0.mk (World.grownBy.andThen G3.out hg4 (fun j hj=> .inr hj));clear hr4 hb4 hg4))
      go_roundg (n - (j+1))
      case measure=>omega
      case rel=>
       refine⟨i+1,j+1,ts'.set i c,by go_num,by go_num,by omega,by omega,by omega,⟨by rw [List.length_set];exact L'.out⟩,⟨?_⟩,⟨?_⟩,R4,G4⟩
       ·rw [List.take_succ_eq_append_getElem (by rw [List.length_set];have:=L'.out;have:=HL.out;omega),List.getElem_set_self,List.take_set_of_le (Nat.le_refl _),T'.out,List.take_add_one,HC.out,List.filter_append]
        simp [kp,HQ.out]
       ·rw [List.drop_set_of_lt (by omega)]
        have:=congrArg (List.drop 1) D'.out
        rwa [List.drop_drop,List.drop_drop] at this
   ·obtain rfl:j=n:=by omega
    have hltz:¬(j:Int)<(j:Int):=by omega
    obtain⟨cur,hh,hgb,hc1,hc2,hsz,htk,hn,hone⟩:=Fh R'.out
    have hcl:∀ty,(Builtin.clear_ #[54] ty #[.slice (some ⟨g,i*3,none⟩) (j - i) (cap - i)]).run Tryz.prog wr= .ok (.tuple #[]) (wr.setCells g (i*3) (Builtin.zeroCells #[.string (⟨#[]⟩:ByteArray), .slice none 0 0, .int .i64 0] (j - i)).toList):=fun ty=>
     Ju wr 54 121 ty (.agg #[.string (⟨#[]⟩:ByteArray), .slice none 0 0, .int .i64 0]) Tryz.underlying54 (fun _=>by kernel_rfl) (by decide) g (i*3) (j - i) _ (by decide) (by omega)
      (fun q hq=>by rw [cell_of_row wr g _ cur 121 (0,0) hh];simp;simp [Value.cells] at hq;omega) (fun q hq=>lI hh _)
    have hzl:(Builtin.zeroCells #[.string (⟨#[]⟩:ByteArray), .slice none 0 0, .int .i64 0] (j - i)).toList.length=(j - i)*3:=by rw [Array.length_toList];exact abn _ _ _ _
    generalize (Builtin.zeroCells #[.string (⟨#[]⟩:ByteArray), .slice none 0 0, .int .i64 0] (j - i)).toList=zs at hcl hzl
    have hfin:kL 121 (wr.setCells g (i*3) zs) base (.slice (some ⟨g,0,none⟩) i cap) (ts.filter (kp t)):=by
     obtain⟨cur',h3,h4,h5⟩:=mQ zs (i*3) wr cur hh (by rw [hzl,hsz];omega)
     have hT:=T'.out
     rw [List.take_of_length_le (by have:=L'.out;omega:ts.length≤j)] at hT
     have hil:(ts.filter (kp t)).length=i:=by rw [←hT,List.length_take];omega
     have:=Fj (ts:=ts.filter (kp t)) (cap:=cap) h3 hgb (by omega) hc2 (by rw [h4,hsz]) (by
      rw [h5,hil,List.append_assoc,List.take_append_of_le_length (by rw [List.length_take,Array.length_toList];omega),List.take_take,Nat.min_self,←hT,←uh,←htk,List.take_take,Nat.min_eq_left (by omega)]) (fun c hc=>hone c (by rw [←hT] at hc;exact List.mem_of_mem_take hc))
     rwa [hil] at this
    have hG:=World.grownBy.andThen G'.out (kW wr g (i*3) zs) (fun q hq=> .inr hq)
    have F1:=Aside0.mk hfin
    have F2:=Aside0.mk hG
    clear hfin hG hh hgb hc1 hc2 hsz htk hn hone hzl hcell
    go_wp2
    go_ret
    exact⟨i,rfl,F1.out,F2.out⟩
theorem TB:(Tryz.prog.info? 121).map (fun i=>(i.zero,i.size,i.bytes))=some (some (Value.agg #[.string (⟨#[]⟩:ByteArray), .slice none 0 0, .int .i64 0]),3,48):=by kernel_rfl
set_option maxHeartbeats 4000000 in
set_option maxRecDepth 100000 in
theorem Qr (ts:List jh) (c:jh) (A:Option Addr) (n cap base vb vc:Nat) (w:World) (hR:kL 121 w base (.slice A n cap) ts) (hV:kL 121 w 0 (.slice (some ⟨vb,0,none⟩) 1 vc) [c]) (hb:base≤w.heap.size) (hbig:(n+1)*48≤140737488355328):
  Calls Tryz.prog 168 #[.slice A n cap, .int .i64 n, .slice (some ⟨vb,0,none⟩) 1 vc] w fun e w'=>∃v',e= .returned v'∧kL 121 w' base v' (ts++[c])∧w.grownBy w' (Value.slice A n cap).ownBlock∧(v'.ownBlock=(Value.slice A n cap).ownBlock∨∃b,v'.ownBlock=some b∧w.heap.size≤b):=by
 have hn:=pK hR
 have hm:n≤9223372036854775807:=Kd.Tm (by have:=(Kd.bJ hR);rw [←this.1] at this;exact this.2.2)
 have hcn:n≤cap:=(Kd.bJ hR).2.1
 have HR:=Aside0.mk hR
 have HV:=Aside0.mk hV
 have HN:=Aside0.mk hn
 have HG:=Aside0.mk hbig
 have HB:=Aside0.mk hb
 have hh:(A=none→n=0):=by
  rintro rfl
  rcases Nat.eq_zero_or_pos n with h0 | h0
  ·exact h0
  ·obtain⟨g,e,_⟩:=yV hR h0
   cases e
 clear hR hV hn hbig hb
 go_enter Tryz.func168,Tryz.ntmps168
 cases A with
 | none=>
   obtain rfl:=hh rfl
   clear hh
   go_wp2_with (at_builtin;refine Kd.Aa (Kd.raw 3) (w0:=w) base rfl _ _ 54 121 _ 48 rfl Tryz.underlying54 TB rfl (by decide) (by decide) (.slice none 0 cap) (ts.map cu) ([c].map cu) (some ⟨vb,0,none⟩) 1 vc (fun _=>True) (fun _=>False) rfl rfl HR.out (Kd.bJ HV.out).2.2 (fun _ _ h_=>h_) (fun _ h_=>h_.elim) (fun _ _=>trivial) (Below.refl _ _) HB.out (by rw [List.length_map,←HN.out];exact HG.out) ?_;intro v1 w1 hr hb1 hg1 hat)
   go_ret
   exact⟨v1,rfl,by unfold kL;rw [List.map_append];exact hr,hg1,hat⟩
 | some ad=>
   clear hh
   go_wp2_with (at_builtin;refine Kd.Aa (Kd.raw 3) (w0:=w) base rfl _ _ 54 121 _ 48 rfl Tryz.underlying54 TB rfl (by decide) (by decide) (.slice (some ad) n cap) (ts.map cu) ([c].map cu) (some ⟨vb,0,none⟩) 1 vc (fun _=>True) (fun _=>False) rfl rfl HR.out (Kd.bJ HV.out).2.2 (fun _ _ h_=>h_) (fun _ h_=>h_.elim) (fun _ _=>trivial) (Below.refl _ _) HB.out (by rw [List.length_map,←HN.out];exact HG.out) ?_;intro v1 w1 hr hb1 hg1 hat)
   all_goals (go_ret;exact⟨v1,rfl,by unfold kL;rw [List.map_append];exact hr,hg1,hat⟩)
set_option maxHeartbeats 4000000 in
set_option maxRecDepth 100000 in
theorem L9 (g n c i vb m vc:Nat) (cs vs:List Value) (w:World) (hi:i<n) (hm:0<m) (hroom:n+m≤c) (hc63:c≤9223372036854775807) (hvb:vb≠g) (hcl:cs.length=n*3) (hvl:vs.length=m*3)
  (hcs:∀j v,cs[j]? =some v→w.cell? ⟨g,j,none⟩=some v) (hsp:∀j,j<(n+m)*3→(w.cell? ⟨g,j,none⟩).isSome=true) (hfz:∀j,w.frozen? ⟨g,j,none⟩=false)
  (hvs:∀j v,vs[j]? =some v→w.cell? ⟨vb,j,none⟩=some v) (h1c:∀v∈cs,v.oneCell'=true) (h1v:∀v∈vs,v.oneCell'=true)
  (tA tB:TypeId) (kA kB:Nat) (hsa:w.shape? vb=some (tA,kA)) (hsb:w.shape? g=some (tB,kB)) (hkB:kB≠0) (hfa:w.frozen? ⟨vb,0,none⟩=false) (hfe:w.frozen? ⟨vb,kA,none⟩=false):
  Calls Tryz.prog 168 #[.slice (some ⟨g,0,none⟩) n c, .int .i64 i, .slice (some ⟨vb,0,none⟩) m vc] w fun e w'=>
   e= .returned (.slice (some ⟨g,0,none⟩) (n+m) c)∧w'=(w.drew.setCells g ((i+m)*3) (cs.drop (i*3))).setCells g (i*3) vs:=by
 have hz1:¬((m:Int)=0):=by omega
 have hz2:¬((i:Int)=(n:Int)):=by omega
 have hsz:(Tryz.prog.info? 121).map (·.size)=some 3:=by kernel_rfl
 have hov:∀lb cb,(callFunc 201 #[.slice (some ⟨vb,0,none⟩) m vc, .slice (some ⟨g,(i+m)*3,none⟩) lb cb]).run Tryz.prog w= .ok (.value (.bool false)) w:=fun lb cb=>by
  rw [run_callFunc_extern Tryz.func201 (by kernel_rfl) (by kernel_rfl) (by kernel_rfl) (e:=Extern.SlicesOverlaps.overlaps #[54,54] #[4]) (by kernel_rfl),
   Go.Lib.run_overlaps_apart w 54 4 121 Tryz.underlying54 3 (fun _=>by kernel_rfl) ⟨vb,0,none⟩ ⟨g,(i+m)*3,none⟩ m vc lb cb hvb tA tB kA kB hsa hsb hkB hfa hfe]
  rfl
 have hdl:(cs.drop (i*3)).length=(n - i)*3:=by rw [List.length_drop,hcl];omega
 have hw1:IntKind.i64.wrap ((i:Int)+(m:Int))=(i:Int)+(m:Int):=by rw [IntKind.wrap_i64];omega
 have hb1:(0:Int)≤(i:Int)+(m:Int):=by omega
 have hin:i≤n:=by omega
 have htn:((i:Int)+(m:Int)).toNat=i+m:=by omega
 have hb2:¬(c=i+m):=by omega
 have hb3:(i:Int)≤(n:Int)+(m:Int):=by omega
 have hb4:¬(c=i):=by omega
 have hcp1:∀ty dc sc,(Builtin.copy_ #[54,54] ty #[.slice (some ⟨g,(i+m)*3,none⟩) (n+m - (i+m)) dc, .slice (some ⟨g,i*3,none⟩) (n+m - i) sc]).run Tryz.prog w.drew= .ok (goInt (Nat.min (n+m - i) (n+m - (i+m)))) (w.drew.setCells g ((i+m)*3) (cs.drop (i*3))):=fun ty dc sc=>
  oG w.drew _ _ ty 121 3 g ((i+m)*3) (n+m - (i+m)) dc ⟨g,i*3,none⟩ (n+m - i) sc (cs.drop (i*3)) Tryz.underlying54 hsz (by rw [hdl];simp only [Nat.min_def];split<;>omega)
   (fun j v hj=>by rw [Addr.add_lit];exact hcs (i*3+j) v (by rwa [List.getElem?_drop] at hj))
   (fun j hj=>hsp _ (by omega)) (fun j hj=>hfz _) (fun v hv=>h1c v (List.mem_of_mem_drop hv))
 obtain⟨W1,hW1⟩:∃W1,W1=w.drew.setCells g ((i+m)*3) (cs.drop (i*3)):=⟨_,rfl⟩
 have hsp1:∀k,k<(n+m)*3→(W1.cell? ⟨g,k,none⟩).isSome=true:=fun k hk=>by
  rw [hW1]
  exact isSome_setCells g (cs.drop (i*3)) ((i+m)*3) w.drew (fun j hj=>hsp ((i+m)*3+j) (by rw [hdl] at hj;omega)) k (hsp k hk)
 have hcp2:∀(W:World),(∀x,W.cell? x=W1.cell? x)→(∀x,W.frozen? x=W1.frozen? x)→∀ty dc,(Builtin.copy_ #[54,54] ty #[.slice (some ⟨g,i*3,none⟩) (n+m - i) dc, .slice (some ⟨vb,0,none⟩) m vc]).run Tryz.prog W= .ok (goInt (Nat.min m (n+m - i))) (W.setCells g (i*3) vs):=fun W hWc hWf ty dc=>
  oG W _ _ ty 121 3 g (i*3) (n+m - i) dc ⟨vb,0,none⟩ m vc vs Tryz.underlying54 hsz (by rw [hvl];simp only [Nat.min_def];split<;>omega)
   (fun j v hj=>by
    rw [Addr.add_lit,hWc,hW1,World.cell?_setCells_out g _ _ _ _ (fun h _=>absurd h hvb),Nat.zero_add]
    exact hvs j v hj)
   (fun j hj=>by rw [hWc];exact hsp1 _ (by omega)) (fun j hj=>by rw [hWf,hW1,World.frozen?_setCells];exact hfz _) h1v
 rw [←hW1] at hcp1
 go_enter Tryz.func168,Tryz.ntmps168
 have mixed:Tryz.prog.follows .mixedOrders=true:=by kernel_rfl
 go_wp2_with (simp only [hov])
 go_region_law_o (refine step_copy_runI rfl _ _ 54 54 rfl _ _ (by simp [Act.eval,Act.put]) (by simp [Act.eval,Act.put]) (hcp1 _ _ _) ?_)
 go_wp2_with (at_builtin;refine wpList_copy_runI _ rfl _ _ 54 54 rfl _ _ rfl rfl (hcp2 _ (fun _=>rfl) (fun _=>rfl) _ _) ?_)
 go_ret
 first | exact⟨rfl,rfl⟩ | exact⟨rfl,by rw [hW1]⟩
set_option maxHeartbeats 4000000 in
set_option maxRecDepth 100000 in
theorem NY (g n c i vb m vc:Nat) (cs vs:List Value) (w:World) (hi:i<n) (hm:0<m) (hnc:n≤c) (hroom:c<n+m) (hbig:(n+m)*48≤140737488355328) (hcl:cs.length=n*3) (hvl:vs.length=m*3)
  (hcs:∀j v,cs[j]? =some v→w.cell? ⟨g,j,none⟩=some v) (hvs:∀j v,vs[j]? =some v→w.cell? ⟨vb,j,none⟩=some v) (h1c:∀v∈cs,v.oneCell'=true) (h1v:∀v∈vs,v.oneCell'=true):
  Calls Tryz.prog 168 #[.slice (some ⟨g,0,none⟩) n c, .int .i64 i, .slice (some ⟨vb,0,none⟩) m vc] w fun e w'=>
   e= .returned (.slice (some ⟨w.heap.size,0,none⟩) (n+m) (grownCap w (n+m) c 121))∧
   w'=(((w.alloc (.cells ((cs.take (i*3)).toArray++Builtin.zeroCells (Value.agg #[.string (⟨#[]⟩:ByteArray), .slice none 0 0, .int .i64 0]).cells (n+m - i)++Builtin.zeroCells (Value.agg #[.string (⟨#[]⟩:ByteArray), .slice none 0 0, .int .i64 0]).cells (grownCap w (n+m) c 121 - (n+m))) 121)).drew.setCells w.heap.size (i*3) vs).drew).setCells w.heap.size ((i+m)*3) (cs.drop (i*3)):=by
 have mixed:Tryz.prog.follows .mixedOrders=true:=by kernel_rfl
 obtain⟨i0,hi0,hz0,hzs,hzb⟩:=info_parts TB
 have hz1:¬((m:Int)=0):=by omega
 have hz2:¬((i:Int)=(n:Int)):=by omega
 have hz3:(c:Int)<(n:Int)+(m:Int):=by omega
 have hsz:(Tryz.prog.info? 121).map (·.size)=some 3:=by kernel_rfl
 have hbw:g<w.heap.size:=block_lt_of_cell (hcs 0 _ (List.getElem?_eq_getElem (by omega)))
 have hvw:vb<w.heap.size:=block_lt_of_cell (hvs 0 _ (List.getElem?_eq_getElem (by omega)))
 have hkk:(n:Int)+(m:Int) - (i:Int)=((n+m - i:Nat):Int):=by omega
 have hik:i+(n+m - i)=n+m:=by omega
 have hold:(Builtin.firstCells i0.size i (.slice (some ⟨g,0,none⟩) i c)).run Tryz.prog w.drew= .ok (cs.take (i*3)).toArray w.drew:=by
  rw [hzs]
  exact run_firstCells_some w.drew 3 i ⟨g,0,none⟩ i c (cs.take (i*3)) (by rw [List.length_take];omega) (fun j v hj=>by
   rw [Addr.add_lit,Nat.zero_add]
   rw [List.getElem?_take] at hj
   split at hj
   ·exact hcs j v hj
   ·cases hj)
 have hrz:∀ty,(Builtin.append_ #[54,3] ty #[.slice (some ⟨g,0,none⟩) i c, .int .i64 ((n:Int)+(m:Int) - (i:Int))]).run Tryz.prog w=
   .ok (.slice (some ⟨w.heap.size,0,none⟩) (n+m) (grownCap w (n+m) c 121)) (w.drew.alloc (.cells ((cs.take (i*3)).toArray++Builtin.zeroCells (Value.agg #[.string (⟨#[]⟩:ByteArray), .slice none 0 0, .int .i64 0]).cells (n+m - i)++Builtin.zeroCells (Value.agg #[.string (⟨#[]⟩:ByteArray), .slice none 0 0, .int .i64 0]).cells (grownCap w (n+m) c 121 - (n+m))) 121)):=fun ty=>by
  have h:=Go.Lib.run_append_grow_zeros w 54 3 ty 121 i0 _ .i64 .i64 Tryz.underlying54 Tryz.underlying3 hi0 hz0 (some ⟨g,0,none⟩) i c (cs.take (i*3)) hold (n+m - i) (by omega) (by omega) (by omega) (by omega) (by rw [hzb];omega) (by rw [hzb,hik];exact growslice_fits hroom hbig)
  rw [hik] at h
  rw [hkk]
  exact h
 obtain⟨G,hG⟩:∃G,G=grownCap w (n+m) c 121:=⟨_,rfl⟩
 obtain⟨ROW,hROW⟩:∃ROW:Array Value,ROW=(cs.take (i*3)).toArray++Builtin.zeroCells (Value.agg #[.string (⟨#[]⟩:ByteArray), .slice none 0 0, .int .i64 0]).cells (n+m - i)++Builtin.zeroCells (Value.agg #[.string (⟨#[]⟩:ByteArray), .slice none 0 0, .int .i64 0]).cells (G - (n+m)):=⟨_,rfl⟩
 rw [←hG] at hrz⊢
 rw [←hROW] at hrz⊢
 have hRl:(n+m)*3≤ROW.size:=by
  rw [hROW]
  simp [Builtin.zeroCells,Value.cells]
  omega
 obtain⟨W1,hW1⟩:∃W1,W1=w.drew.alloc (.cells ROW 121):=⟨_,rfl⟩
 rw [←hW1] at hrz
 have hN:∀j,j<(n+m)*3→(W1.cell? ⟨w.heap.size,j,none⟩).isSome=true:=fun j hj=>by
  rw [hW1,World.cell?_alloc_at (w:=w.drew) ROW _ w.heap.size j rfl,Array.getElem?_eq_getElem (by omega)];rfl
 have hNf:∀j,W1.frozen? ⟨w.heap.size,j,none⟩=false:=fun j=>by rw [hW1];exact World.frozen?_alloc_at (w:=w.drew) ROW _ w.heap.size j rfl
 have hOb:∀j v,w.cell? ⟨g,j,none⟩=some v→W1.cell? ⟨g,j,none⟩=some v:=fun j v h=>by rw [hW1,World.cell?_alloc_past (w:=w.drew) _ g j hbw];exact h
 have hOv:∀j v,w.cell? ⟨vb,j,none⟩=some v→W1.cell? ⟨vb,j,none⟩=some v:=fun j v h=>by rw [hW1,World.cell?_alloc_past (w:=w.drew) _ vb j hvw];exact h
 have hcpA:∀(W:World),(∀x,W.cell? x=W1.cell? x)→(∀x,W.frozen? x=W1.frozen? x)→∀ty dc,(Builtin.copy_ #[54,54] ty #[.slice (some ⟨w.heap.size,i*3,none⟩) (n+m - i) dc, .slice (some ⟨vb,0,none⟩) m vc]).run Tryz.prog W= .ok (goInt (Nat.min m (n+m - i))) (W.setCells w.heap.size (i*3) vs):=fun W hWc hWf ty dc=>
  oG W _ _ ty 121 3 w.heap.size (i*3) (n+m - i) dc ⟨vb,0,none⟩ m vc vs Tryz.underlying54 hsz (by rw [hvl];simp only [Nat.min_def];split<;>omega)
   (fun j v hj=>by rw [Addr.add_lit,hWc,Nat.zero_add];exact hOv _ v (hvs j v hj))
   (fun j hj=>by rw [hWc];exact hN _ (by omega)) (fun j hj=>by rw [hWf];exact hNf _) h1v
 have hGn:n+m≤G:=by rw [hG];exact grownCap_ge w _ _ _
 have hG63:G≤9223372036854775807:=by
  have:=grownCap_le_maxLen w (n+m) c 121 (by unfold maxLen;omega)
  rw [←hG] at this
  unfold maxLen at this
  omega
 have hGi:¬(G=i):=by omega
 have hGim:¬(G=i+m):=by omega
 have hci:¬(c=i):=by omega
 have hbN:g≠w.heap.size:=by omega
 have hdl:(cs.drop (i*3)).length=(n - i)*3:=by rw [List.length_drop,hcl];omega
 have hcpB:∀(W:World),(∀x,W.cell? x=(W1.setCells w.heap.size (i*3) vs).cell? x)→(∀x,W.frozen? x=(W1.setCells w.heap.size (i*3) vs).frozen? x)→∀ty dc sc,(Builtin.copy_ #[54,54] ty #[.slice (some ⟨w.heap.size,(i+m)*3,none⟩) (n+m - (i+m)) dc, .slice (some ⟨g,i*3,none⟩) (n - i) sc]).run Tryz.prog W= .ok (goInt (Nat.min (n - i) (n+m - (i+m)))) (W.setCells w.heap.size ((i+m)*3) (cs.drop (i*3))):=fun W hWc hWf ty dc sc=>
  oG W _ _ ty 121 3 w.heap.size ((i+m)*3) (n+m - (i+m)) dc ⟨g,i*3,none⟩ (n - i) sc (cs.drop (i*3)) Tryz.underlying54 hsz (by rw [hdl];simp only [Nat.min_def];split<;>omega)
   (fun j v hj=>by
    rw [Addr.add_lit,hWc,World.cell?_setCells_out _ _ _ _ _ (fun h _=>absurd h hbN)]
    exact hOb _ v (hcs (i*3+j) v (by rwa [List.getElem?_drop] at hj)))
   (fun j hj=>by rw [hWc];exact isSome_setCells w.heap.size vs (i*3) W1 (fun q hq=>hN (i*3+q) (by rw [hvl] at hq;omega)) _ (hN _ (by rw [hdl] at hj;omega)))
   (fun j hj=>by rw [hWf,World.frozen?_setCells];exact hNf _) (fun v hv=>h1c v (List.mem_of_mem_drop hv))
 subst hW1
 have hE1:∀x,((w.alloc (.cells ROW 121)).drew).cell? x=(w.drew.alloc (.cells ROW 121)).cell? x:=fun x=>rfl
 have hE2:∀x,((w.alloc (.cells ROW 121)).drew).frozen? x=(w.drew.alloc (.cells ROW 121)).frozen? x:=fun x=>rfl
 have hF1:∀x,(((w.alloc (.cells ROW 121)).drew.setCells w.heap.size (i*3) vs).drew).cell? x=((w.drew.alloc (.cells ROW 121)).setCells w.heap.size (i*3) vs).cell? x:=fun x=>rfl
 have hF2:∀x,(((w.alloc (.cells ROW 121)).drew.setCells w.heap.size (i*3) vs).drew).frozen? x=((w.drew.alloc (.cells ROW 121)).setCells w.heap.size (i*3) vs).frozen? x:=fun x=>rfl
 have hw1:IntKind.i64.wrap ((i:Int)+(m:Int))=(i:Int)+(m:Int):=by rw [IntKind.wrap_i64];omega
 have hb1:(0:Int)≤(i:Int)+(m:Int):=by omega
 have hin:i≤n:=by omega
 have htn:((i:Int)+(m:Int)).toNat=i+m:=by omega
 have hb3:(i:Int)≤(n:Int):=by omega
 clear hkk hik hold hROW hG hRl
 go_enter Tryz.func168,Tryz.ntmps168
 go_wp2_with (first
  | (at_builtin;refine Go.Lib.wpList_append_run _ rfl _ _ _ _ rfl _ _ rfl rfl _ _ (hrz _) ?_)
  | (at_builtin;refine wpList_copy_runI _ rfl _ _ 54 54 rfl _ _ rfl rfl (hcpA _ hE1 hE2 _ _) ?_)
  | (at_builtin;refine wpList_copy_runI _ rfl _ _ 54 54 rfl _ _ rfl rfl (hcpB _ (fun _=>rfl) (fun _=>rfl) _ _ _) ?_))
 go_region_law_o (refine step_copy_runI rfl _ _ 54 54 rfl (.slice (some ⟨w.heap.size,(i+m)*3,none⟩) (n+m - (i+m)) (G - (i+m))) (.slice (some ⟨g,i*3,none⟩) (n - i) (c - i)) (by simp [Act.eval,Act.put]) (by simp [Act.eval,Act.put]) (hcpB _ hF1 hF2 3 (G - (i+m)) (c - i)) ?_)
 go_wp2
 go_ret
 exact⟨rfl,rfl⟩
theorem TD.calls (ts:List jh) (c:jh) (A:Option Addr) (n cap base i vb vc:Nat) (w:World) (hR:kL 121 w base (.slice A n cap) ts) (hi:i≤n) (hVR:kL 121 w 0 (.slice (some ⟨vb,0,none⟩) 1 vc) [c])
  (hne:∀ad,A=some ad→ad.block≠vb) (hb:base≤w.heap.size) (hbig:(n+1)*48≤140737488355328):
  Calls Tryz.prog 168 #[.slice A n cap, .int .i64 i, .slice (some ⟨vb,0,none⟩) 1 vc] w fun e w'=>∃v',e= .returned v'∧kL 121 w' base v' (ts.take i++c::ts.drop i)∧w.grownBy w' (Value.slice A n cap).ownBlock∧(v'.ownBlock=(Value.slice A n cap).ownBlock∨∃b,v'.ownBlock=some b∧w.heap.size≤b):=by
 have hn:=pK hR
 obtain⟨cv,hV,_,hv1,hv2,hvz,hvt,_,hvo⟩:=Fh hVR
 have h1:uj c:=hvo c (List.mem_singleton.2 rfl)
 replace hvt:cv.toList.take (1*3)=cu c:=by simpa using hvt
 by_cases hin:i=n
 ·subst hin
  have:=Qr ts c A i cap base vb vc w hR hVR hb hbig
  rw [List.take_of_length_le (by omega),List.drop_of_length_le (by omega)]
  exact this
 ·obtain⟨g,rfl,hgl,hgb⟩:=yV hR (by omega)
  obtain⟨cur,hh,_,hc1,hc2,hsz,htk,_,hone⟩:=Fh hR
  have hcl:(ts.flatMap cu).length=n*3:=by rw [sD,←hn]
  have hvl:(cu c).length=1*3:=rfl
  have hcs:∀j v,(ts.flatMap cu)[j]? =some v→w.cell? ⟨g,j,none⟩=some v:=by
   intro j v hj
   rw [←htk,List.getElem?_take] at hj
   split at hj
   ·rw [cell_of_row w g j cur 121 (0,0) hh];simpa using hj
   ·cases hj
  have hvs:∀j v,(cu c)[j]? =some v→w.cell? ⟨vb,j,none⟩=some v:=by
   intro j v hj
   rw [←hvt,List.getElem?_take] at hj
   split at hj
   ·rw [cell_of_row w vb j cv 121 (0,0) hV];simpa using hj
   ·cases hj
  have h1c:∀v∈ts.flatMap cu,v.oneCell'=true:=by
   intro v hv
   obtain⟨x,hx,hv⟩:=List.mem_flatMap.1 hv
   exact hone x hx v hv
  have h1v:∀v∈cu c,v.oneCell'=true:=h1
  have hd:(ts.flatMap cu).drop (i*3)=(ts.drop i).flatMap cu:=GV ts i
  have hdl:((ts.drop i).flatMap cu).length=(n - i)*3:=by rw [sD,List.length_drop,←hn]
  have htl:((ts.take i).flatMap cu).length=i*3:=by rw [sD,List.length_take];omega
  have hnew:∀x∈ts.take i++c::ts.drop i,uj x:=by
   intro x hx
   rcases List.mem_append.1 hx with hx | hx
   ·exact hone x (List.mem_of_mem_take hx)
   ·rcases List.mem_cons.1 hx with rfl | hx
    ·exact h1
    ·exact hone x (List.mem_of_mem_drop hx)
  have hil:=Ya ts c i (by omega)
  by_cases hroom:n+1≤cap
  ·refine(L9 g n cap i vb 1 vc (ts.flatMap cu) (cu c) w (by omega) (by omega) hroom (by unfold maxLen at hc2;omega) (fun e=>hne _ rfl e.symm) hcl hvl hcs (fun j hj=>by rw [cell_of_row w g j cur 121 (0,0) hh,Array.getElem?_eq_getElem (by omega)];rfl) (fun j=>lI hh _) hvs h1c h1v
    121 121 cv.size cur.size (by simp [World.shape?,hV,cu]) (by simp [World.shape?,hh]) (by omega) (lI hV _) (lI hV _)).mono ?_
   rintro e w' ⟨rfl,rfl⟩
   obtain⟨c1,a1,a2,a3,a4,a5⟩:=oH (W:=w.drew) (o:=(i+1)*3) (vs:=(ts.flatMap cu).drop (i*3)) hh (by rw [hd,hdl,hsz];omega)
   obtain⟨c2,b1,b2,b3,b4,b5⟩:=oH (o:=i*3) (vs:=cu c) a1 (by rw [a2,hsz,hvl];omega)
   have hg:w.grownBy ((w.drew.setCells g ((i+1)*3) ((ts.flatMap cu).drop (i*3))).setCells g (i*3) (cu c)) (some g):=by
    have q1:=kW w.drew g ((i+1)*3) ((ts.flatMap cu).drop (i*3))
    have q2:=World.grownBy.andThen q1 (kW _ g (i*3) (cu c)) (fun q hq=> .inr hq)
    exact⟨q2.os,q2.tape,q2.output,q2.size,q2.block⟩
   refine⟨_,rfl,?_,hg, .inl rfl⟩
   have hkey:c2.toList.take ((n+1)*3)=(ts.take i).flatMap cu++cu c++(ts.drop i).flatMap cu:=by
    have e1:c1.toList.take (i*3)=(ts.take i).flatMap cu:=by
     have:=congrArg (List.take (i*3)) a3
     rw [List.take_take,List.take_take,Nat.min_eq_left (by omega)] at this
     rw [this,←uh,←htk,List.take_take,Nat.min_eq_left (by omega)]
    rw [hd] at a4
    exact TF (x1:=c1.toList) (x2:=c1.toList) (a:=i*3) e1 b4 b3 b5 e1 (by rw [hvl,show i*3+1*3=(i+1)*3 from by omega];exact a4) (by rw [hvl,hdl];omega) htl
   have:=Fj (ts:=ts.take i++c::ts.drop i) (cap:=cap) b1 hgb (by rw [hil];omega) hc2 (by rw [b2,a2,hsz]) (by rw [hil,KP,←hn];exact hkey) hnew
   rwa [hil,←hn] at this
  ·refine(NY g n cap i vb 1 vc (ts.flatMap cu) (cu c) w (by omega) (by omega) hc1 (by omega) hbig hcl hvl hcs hvs h1c h1v).mono ?_
   rintro e w' ⟨rfl,rfl⟩
   have hGe:n+1≤grownCap w (n+1) cap 121:=grownCap_ge w _ _ _
   have hGm:grownCap w (n+1) cap 121≤maxLen:=grownCap_le_maxLen w (n+1) cap 121 (by unfold maxLen;omega)
   generalize hGG:grownCap w (n+1) cap 121=G at hGe hGm
   have hRs:(((ts.flatMap cu).take (i*3)).toArray++Builtin.zeroCells (Value.agg #[.string (⟨#[]⟩:ByteArray), .slice none 0 0, .int .i64 0]).cells (n+1 - i)++Builtin.zeroCells (Value.agg #[.string (⟨#[]⟩:ByteArray), .slice none 0 0, .int .i64 0]).cells (G - (n+1))).size=G*3:=by
    simp [Builtin.zeroCells,Value.cells,hcl]
    omega
   have hRt:(((ts.flatMap cu).take (i*3)).toArray++Builtin.zeroCells (Value.agg #[.string (⟨#[]⟩:ByteArray), .slice none 0 0, .int .i64 0]).cells (n+1 - i)++Builtin.zeroCells (Value.agg #[.string (⟨#[]⟩:ByteArray), .slice none 0 0, .int .i64 0]).cells (G - (n+1))).toList.take (i*3)=(ts.take i).flatMap cu:=by
    rw [Array.toList_append,Array.toList_append,List.append_assoc,List.take_left' (by rw [List.toList_toArray,uh,htl]),List.toList_toArray,uh]
   generalize ((ts.flatMap cu).take (i*3)).toArray++Builtin.zeroCells (Value.agg #[.string (⟨#[]⟩:ByteArray), .slice none 0 0, .int .i64 0]).cells (n+1 - i)++Builtin.zeroCells (Value.agg #[.string (⟨#[]⟩:ByteArray), .slice none 0 0, .int .i64 0]).cells (G - (n+1))=ROW at hRs hRt
   have h0:((w.alloc (.cells ROW 121)).drew).heap[w.heap.size]? =some (.cells ROW 121 (0,0)):=QU w _
   obtain⟨c1,a1,a2,a3,a4,a5⟩:=oH (o:=i*3) (vs:=cu c) h0 (by rw [hvl,hRs];omega)
   obtain⟨c2,b1,b2,b3,b4,b5⟩:=oH (W:=(((w.alloc (.cells ROW 121)).drew).setCells w.heap.size (i*3) (cu c)).drew) (o:=(i+1)*3) (vs:=(ts.flatMap cu).drop (i*3)) a1 (by rw [hd,hdl,a2,hRs];omega)
   have hg:w.grownBy (((((w.alloc (.cells ROW 121)).drew).setCells w.heap.size (i*3) (cu c)).drew).setCells w.heap.size ((i+1)*3) ((ts.flatMap cu).drop (i*3))) (some g):=by
    have q0:w.grownBy (w.alloc (.cells ROW 121)).drew (some g):=by
     have hb0:=yL (aj (Below.refl w.heap.size w) (.cells ROW 121))
     exact⟨hb0.os,hb0.tape,hb0.output,hb0.size,fun k hk _=>hb0.block k hk⟩
    have q1:=World.grownBy.andThen q0 (kW _ w.heap.size (i*3) (cu c)) (fun q hq=> .inl (by injection hq with hq;omega))
    have q2:w.grownBy ((((w.alloc (.cells ROW 121)).drew).setCells w.heap.size (i*3) (cu c)).drew) (some g):=⟨q1.os,q1.tape,q1.output,q1.size,q1.block⟩
    exact World.grownBy.andThen q2 (kW _ w.heap.size ((i+1)*3) ((ts.flatMap cu).drop (i*3))) (fun q hq=> .inl (by injection hq with hq;omega))
   refine⟨_,rfl,?_,hg, .inr ⟨w.heap.size,rfl,Nat.le_refl _⟩⟩
   have hkey:c2.toList.take ((n+1)*3)=((ts.take i).flatMap cu++cu c)++(ts.drop i).flatMap cu:=by
    have e1:c1.toList.take ((i+1)*3)=(ts.take i).flatMap cu++cu c:=by
     have e2:c1.toList=c1.toList.take (i*3)++(c1.toList.drop (i*3)):=(List.take_append_drop _ _).symm
     rw [e2,a3,hRt,show(i+1)*3=((ts.take i).flatMap cu).length+(cu c).length from by rw [htl,hvl];omega,List.take_length_add_append,a4]
    have e3:c2.toList=c2.toList.take ((i+1)*3)++c2.toList.drop ((i+1)*3):=(List.take_append_drop _ _).symm
    rw [hd] at b4
    rw [e3,b3,e1,show(n+1)*3=((ts.take i).flatMap cu++cu c).length+((ts.drop i).flatMap cu).length from by rw [List.length_append,htl,hvl,hdl];omega,List.take_length_add_append,b4]
   have:=Fj (ts:=ts.take i++c::ts.drop i) (cap:=G) b1 hb (by rw [hil];omega) hGm (by rw [b2,a2,hRs]) (by rw [hil,KP,←hn];exact hkey) hnew
   rwa [hil,←hn] at this
end Go.Proofs.YtcnfgfomholheaaGreatDoor.Q
end
section
namespace Go.Proofs.YtcnfgfomholheaaGreatDoor.Q
open Go.RowKit Go.Proofs.YtcnfgfomholheaaGreatDoor.X Go.Proofs.YtcnfgfomholheaaGreatDoorW.PrintWords Go.Proofs.YtcnfgfomholheaaGreatDoorW.PrintLast Go.Proofs.YtcnfgfomholheaaGreatDoorW.PrintMore
open Go.Proofs.YtcnfgfomholheaaGreatDoor.Z (V El ck Ow Fam row_part row_in ow_open CallWOb)
set_option linter.unusedVariables false
set_option linter.unusedSimpArgs false
theorem keptOut (l:List SK) (t:ByteArray):CallWOb T Tryz.prog 166 [.c (.gv eK l), .c (.fn 167 9 [.string t])] (.c (.ow eK (l.filter fun s=>!(s.f0.toList==t.toList)))):=by
 refine⟨⟨_,Tryz.func166,by kernel_rfl,by kernel_rfl⟩,fun w vs S Fw ev V _ _ hFw hap Ri hargs=>?_⟩
 obtain⟨v,r,rfl,⟨hv,hO⟩,v2,r2,rfl,⟨B,rfl,hSB,hB⟩,rfl⟩:=hargs
 obtain⟨els,G,h0,h1,h2,h3,h4,h5⟩:=ow_open hO
 obtain⟨hR,hof⟩:=Jv (sz:=T.sz) rfl h2 h3
 obtain⟨A,n,cap,rfl⟩:∃A n cap,v= .slice A n cap:=by
  rcases hO.form with ⟨_,h⟩ | ⟨g,cap,cur,h,_⟩
  ·exact⟨_,_,_,h⟩
  ·exact⟨_,_,_,h⟩
 have hlen:∀t∈els,t.2.2.length=3:=fun t ht=>(h2.el t ht).2.1
 have abo:∀(j:Nat) (t:El) (s:SK),els[j]? =some t→l[j]? =some s→(jR t).2.1= .string s.f0:=fun j t s ht hs=>by
  have hx:t.2.1=T.enc eK s:=Z.abp (T:=T) (e:=eK) h0 ht hs
  obtain⟨u,h6,h7⟩:=(h2.el t (List.mem_of_getElem? ht)).2.2 0 (.sc (.string s.f0)) (by rw [hx];rfl)
  cases h7
  show t.2.2.getD 0 undef=_
  rw [List.getD_eq_getElem?_getD,h6];rfl
 have hstr:∀c∈els.map jR,∃s,c.2.1=Value.string s:=fun c hc=>by
  obtain⟨t,ht,rfl⟩:=List.mem_map.1 hc
  obtain⟨j,hj⟩:=List.getElem?_of_mem ht
  have hl:els.length=l.length:=Z.Jw (T:=T) (e:=eK) h0
  have hjl:=(List.getElem?_eq_some_iff.1 hj).1
  exact⟨_,abo j t _ hj (List.getElem?_eq_getElem (by omega))⟩
 have hcell:w.cell? ⟨B,0,none⟩=some (.string t):=by rw [cell_of_row w B 0 _ _ _ hB];rfl
 have hne:∀ad,A=some ad→ad.block≠B:=fun ad ha e=>Ri 0 B (h5 B (by rw [ha,←e];rfl)).1 hSB
 refine(TA.calls B t (els.map jR) hstr A n cap 0 w hR hcell hne).mono ?_
 rintro e w' ⟨m,rfl,hR',hG⟩
 have hr':=Rj (sz:=T.sz) rfl hR'
 have hsub:(((els.map jR).filter (kp t)).map vk).Sublist els:=by
  have:=(List.filter_sublist (p:=kp t) (l:=els.map jR)).map vk
  rwa [hof] at this
 have VK:=row_part h0 h1 h2 h4 h5 hr' hsub hG (by cases A<;>rfl)
 have he:(((els.map jR).filter (kp t)).map vk).map (·.2.1)=(l.filter fun s=>!(s.f0.toList==t.toList)).map (T.enc eK):=by
  have e1:((els.map jR).filter (kp t)).map vk=els.filter (kp t ∘ jR):=by
   rw [List.filter_map,List.map_map]
   exact(List.map_congr_left (fun a ha=>Bg (hlen a (List.mem_filter.1 ha).1))).trans (List.map_id _)
  rw [e1]
  refine Z.GX (f:=T.enc eK) (g:=fun t:El=>t.2.1) (p:=kp t ∘ jR) (q:=fun s:SK=>!(s.f0.toList==t.toList)) h0 (fun j t' s ht hs=>?_)
  show(!Jt t (jR t').2.1)=_
  rw [abo j t' s ht hs]
  rfl
 rw [he] at VK
 exact Z.Rk VK (fun k hk=> .inr ⟨0,hk.1⟩) hG (fun g hg=>⟨0,(h5 g hg).1⟩) (by intro S;trivial)
theorem adR (l:List SK) (y:SK) (i:Nat) (hi:i≤l.length) (hbig:(l.length+1)*48≤140737488355328):CallWOb T Tryz.prog 168 [.c (.gv eK l), .c (.c (.sc (.int .i64 (i:Int)))), .c (.gv eK [y])] (.c (.ow eK (l.take i++y::l.drop i))):=by
 refine⟨⟨_,Tryz.func168,by kernel_rfl,by kernel_rfl⟩,fun w vs S Fw ev V _ _ hFw hap Ri hargs=>?_⟩
 obtain⟨v,r,rfl,⟨hv,hO⟩,v2,r2,rfl,⟨rfl,_⟩,v3,r3,rfl,⟨hv3,hO3⟩,rfl⟩:=hargs
 obtain⟨els,G,h0,h1,h2,h3,h4,h5⟩:=ow_open hO
 obtain⟨hR,hof⟩:=Jv (sz:=T.sz) rfl h2 h3
 have hl:els.length=l.length:=Z.Jw (T:=T) (e:=eK) h0
 obtain⟨abq,G3,k0,k1,k2,k3,k4,k5⟩:=ow_open hO3
 obtain⟨hR3,afc⟩:=Jv (sz:=T.sz) rfl k2 k3
 obtain⟨t3,rfl⟩:∃t3,abq=[t3]:=by
  have:=Z.Jw (T:=T) (e:=eK) k0
  match abq,this with
  | [t3],_=>exact⟨t3,rfl⟩
 obtain⟨A,n,cap,rfl,hn⟩:∃A n cap,v= .slice A n cap∧n=l.length:=by
  obtain⟨A,cap,h,_⟩:=Z.VL (T:=T) (e:=eK) (l:=l) hO
  exact⟨A,_,cap,h,rfl⟩
 obtain⟨vb,vc,rfl⟩:∃vb vc,v3= .slice (some ⟨vb,0,none⟩) 1 vc:=by
  rcases hO3.form with ⟨h,_⟩ | ⟨g,cap,cur,h,_⟩
  ·cases h
  ·exact⟨g,cap,h⟩
 have hne:∀ad,A=some ad→ad.block≠vb:=fun ad ha e=>by
  have h6:=(h5 vb (by rw [ha,←e];rfl)).1
  have h7:=(k5 vb rfl).1
  exact absurd (hap _ _ _ h6 h7) (by simp [Z.AW.cells])
 refine(TD.calls (els.map jR) (jR t3) A n cap 0 i vb vc w hR (by omega) hR3 hne (Nat.zero_le _) (by rw [hn];exact hbig)).mono ?_
 rintro e w' ⟨v',rfl,hR',hG,hob⟩
 have hr':=Rj (sz:=T.sz) rfl hR'
 have ht3:vk (jR t3)=t3:=Bg (k2.el t3 (List.mem_singleton.2 rfl)).2.1
 have hm:((els.map jR).take i++jR t3::(els.map jR).drop i).map vk=els.take i++t3::els.drop i:=by rw [List.map_append,List.map_cons,List.map_take,List.map_drop,hof,ht3]
 rw [hm,show(els.take i++t3::els.drop i).length=els.length+1 by simp;omega] at hr'
 have VK:=row_in (i:=i) (y:=T.enc eK y) h0 h1 h2 h4 h5 k2 (fun k hk e=>absurd (hap _ _ _ (h5 k e.symm).1 hk) (by simp [Z.AW.cells])) (fun k hk hk'=>absurd (hap _ _ _ hk hk') (by simp [Z.AW.cells])) (List.cons.inj k0).1 (by omega) hr' hG hob
 have he:(l.map (T.enc eK)).take i++T.enc eK y::(l.map (T.enc eK)).drop i=(l.take i++y::l.drop i).map (T.enc eK):=by
  refine Eq.trans ?_ (List.map_append).symm
  exact congr (congrArg _ List.map_take.symm) (congrArg _ List.map_drop.symm)
 rw [he] at VK
 refine Z.Rk VK (fun k hk=>?_) hG (fun g hg=>⟨_,(h5 g hg).1⟩) (by intro S;trivial)
 rcases hk with ⟨hk | hk,_⟩ | hk
 ·exact .inr ⟨_,hk⟩
 ·exact .inr ⟨_,hk⟩
 ·rcases hob with h | ⟨b,h,h'⟩
  ·exact .inr ⟨_,(h5 k (by rw [←h];exact hk)).1⟩
  ·rw [h] at hk
   cases hk
   exact .inl h'
end Go.Proofs.YtcnfgfomholheaaGreatDoor.Q
end
section
namespace Go.Proofs.YtcnfgfomholheaaGreatDoor.Q
open Go.RowKit Go.Proofs.YtcnfgfomholheaaGreatDoor.Z Go.Proofs.YtcnfgfomholheaaGreatDoor.Pure
set_option linter.unusedVariables false
set_option linter.unusedSimpArgs false
set_option maxRecDepth 100000
set_option maxHeartbeats 4000000
def gq (t:ByteArray) (l:List SK):List SK:=l.filter fun s=>!(s.f0.toList==t.toList)
def ltK (t:ByteArray) (s:SK):Bool:=Op.bytesLess s.f0.toList t.toList
def vw (s:SK) (l:List SK):List SK:=(gq s.f0 l).takeWhile (ltK s.f0)++s::(gq s.f0 l).dropWhile (ltK s.f0)
def kX (s:SK) (l:List SK):List SK:=bif decide ((s.f1.length:Int)>0) then vw s l else gq s.f0 l
def um (s:SK) (l:List SK):Bool:=jF l && (kV s.f0 && (!decide ((s.f1.length:Int)>40) && (decide (0≤s.f2) && decide (s.f2≤2))))
theorem Fp (s:SK) (l:List SK):um s l=(jF l && (kV s.f0 && (!decide ((s.f1.length:Int)>40) && (decide (0≤s.f2) && decide (s.f2≤2))))):=rfl
def setB (s:SK) (l:List SK):Bool:=um s l && jF (kX s l)
def vC (s:SK) (l:List SK):List SK:=bif setB s l then kX s l else l
abbrev MF (m:List SK) (w:Bool):RS T.Tb:= .tu [(false,[.ow eK m]),(false,[.sc (.bool w)])]
theorem sF {t:ByteArray} {l:List SK} {y:SK} (h:y∈gq t l):y∈l:=(List.mem_filter.1 h).1
theorem Bh (t:ByteArray) (l:List SK):(gq t l).length≤l.length:=List.length_filter_le _ _
theorem Yb {s:SK} {l:List SK} {y:SK} (h:y∈vw s l):y=s∨y∈l:=by
 unfold vw at h
 rcases List.mem_append.1 h with h | h
 ·exact .inr (sF ((List.takeWhile_sublist _).mem h))
 ·rcases List.mem_cons.1 h with h | h
  ·exact .inl h
  ·exact .inr (sF ((List.dropWhile_sublist _).mem h))
theorem Yc (s:SK) (l:List SK):(vw s l).length≤l.length+1:=by
 unfold vw
 rw [List.length_append,List.length_cons]
 have h:=congrArg List.length (List.takeWhile_append_dropWhile (p:=ltK s.f0) (l:=gq s.f0 l))
 rw [List.length_append] at h
 have:=Bh s.f0 l
 omega
theorem vF {s:SK} {l:List SK} {y:SK} (h:y∈kX s l):y=s∨y∈l:=by
 unfold kX at h
 cases hd:decide ((s.f1.length:Int)>0) with
 | true=>rw [hd] at h;exact Yb h
 | false=>rw [hd] at h;exact .inr (sF h)
theorem Fq (s:SK) (l:List SK):(kX s l).length≤l.length+1:=by
 unfold kX
 cases decide ((s.f1.length:Int)>0) with
 | true=>exact Yc s l
 | false=>exact Nat.le_succ_of_le (Bh s.f0 l)
theorem aas {s:SK} {l:List SK} {i:Nat} (hi:i≤(gq s.f0 l).length) (h1:∀j,j<i→ltK s.f0 ((gq s.f0 l).getD j (T.df eK))=true) (h2:i=(gq s.f0 l).length∨ltK s.f0 ((gq s.f0 l).getD i (T.df eK))=false):(gq s.f0 l).take i++s::(gq s.f0 l).drop i=vw s l:=by
 obtain⟨a,b⟩:=Tn hi h1 h2
 rw [a,b];rfl
theorem Qs (l:List SK) (s:SK) (hk:BK l) (h0:s.f0.size≤1048576) (h1:s.f1.length≤1048576):aG T Tryz.prog 91 [.c (.sl eK l), .c (.sc (.string s.f0)), .c (.sl 5 s.f1), .c (.sc (.int .i64 s.f2))] (MF (vC s l) (setB s l)):=by
 have hl:=hk.k
 have hcp:=AY l (by omega) (fun y hy=>Nat.le_trans (hk.b y hy) (by decide))
 have hko:=yS l (by omega) hk.t
 have hno:um s l=false→setB s l=false∧vC s l=l:=fun h=>by
  have:setB s l=false:=by unfold setB;rw [h];rfl
  exact⟨this,by unfold vC;rw [this];rfl⟩
 have hyes:um s l=true→setB s l=jF (kX s l):=fun h=>by unfold setB;rw [h];rfl
 have hkn:=yS (kX s l) (Nat.le_trans (Fq s l) (by omega)) (fun y hy=>by
  rcases vF hy with rfl | h
  ·exact h0
  ·exact hk.t y h)
 have hR:=Fp s l
 unfold vC at hno⊢
 generalize hS:um s l=so at hR hno hyes
 replace hR:=hR.symm
 generalize setB s l=sb at hno hyes⊢
 refine aH hT Tryz.func91 (by kernel_rfl) rfl rfl (fun A=>?_)
 conv=>whnf
 refine ay.mk _ hko ?_
 conv=>whnf
 refine Split.mk (fun c=>?_) (fun c=>?_)
 ·obtain⟨e1,e2⟩:=hno (dP (bI c) hR)
  subst e1
  conv=>whnf
  repeat (first | (refine Split.mk (fun _=>?_) (fun e=>je e);conv=>whnf) | (refine bC.mk ⟨by kernel_rfl,by kernel_rfl⟩ ?_;conv=>whnf))
  refine ay.mk _ hcp ?_
  conv=>whnf
  exact aA.mk ⟨rfl,rfl⟩ ⟨rfl,rfl⟩ ⟨rfl,rfl,trivial⟩
 replace hR:=dH (bQ c) hR
 clear c
 conv=>whnf
 refine ay.mk _ (EG s.f0 (Nat.le_trans h0 (by decide))) ?_
 conv=>whnf
 refine Split.mk (fun c=>?_) (fun c=>?_)
 ·obtain⟨e1,e2⟩:=hno (dP (bI c) hR)
  subst e1
  conv=>whnf
  repeat (first | (refine Split.mk (fun _=>?_) (fun e=>je e);conv=>whnf) | (refine bC.mk ⟨by kernel_rfl,by kernel_rfl⟩ ?_;conv=>whnf))
  refine ay.mk _ hcp ?_
  conv=>whnf
  exact aA.mk ⟨rfl,rfl⟩ ⟨rfl,rfl⟩ ⟨rfl,rfl,trivial⟩
 replace hR:=dH (bQ c) hR
 clear c
 conv=>whnf
 refine Split.mk (fun c=>?_) (fun c=>?_)
 ·obtain⟨e1,e2⟩:=hno (dP (congrArg not c) hR)
  subst e1
  conv=>whnf
  repeat (first | (refine Split.mk (fun _=>?_) (fun e=>je e);conv=>whnf) | (refine bC.mk ⟨by kernel_rfl,by kernel_rfl⟩ ?_;conv=>whnf))
  refine ay.mk _ hcp ?_
  conv=>whnf
  exact aA.mk ⟨rfl,rfl⟩ ⟨rfl,rfl⟩ ⟨rfl,rfl,trivial⟩
 replace hR:=dH (congrArg not c) hR
 clear c
 conv=>whnf
 refine ay.mk _ (AZ _) ?_
 conv=>whnf
 refine Split.mk (fun c=>?_) (fun c=>?_)
 ·obtain⟨e1,e2⟩:=hno (hR.symm.trans (bI c))
  subst e1
  conv=>whnf
  refine ay.mk _ hcp ?_
  conv=>whnf
  exact aA.mk ⟨rfl,rfl⟩ ⟨rfl,rfl⟩ ⟨rfl,rfl,trivial⟩
 replace hyes:=hyes (hR.symm.trans (bQ c))
 clear c hR hno
 subst hyes
 conv=>whnf
 refine ay.mk _ hcp ?_
 conv=>whnf
 refine ay.wr [[.gv eK],[.rd]] (.c (.ow eK (gq s.f0 l))) ?_
 conv=>whnf
 refine jG.mk (keptOut l s.f0) ?_
 conv=>whnf
 refine Split.mk (fun c=>?_) (fun c=>?_)
 ·have hd:=Bh s.f0 l
  have hnew:kX s l=vw s l:=by unfold kX;rw [show decide ((s.f1.length:Int)>0)=true from c];rfl
  rw [hnew] at hkn⊢
  clear hnew c
  have key:∀i,i≤(gq s.f0 l).length→(∀j,j<i→ltK s.f0 ((gq s.f0 l).getD j (T.df eK))=true)→(i=(gq s.f0 l).length∨ltK s.f0 ((gq s.f0 l).getD i (T.df eK))=false)→CallWOb T Tryz.prog 168 [.c (.gv eK (gq s.f0 l)), .c (.c (.sc (.int .i64 (i:Int)))), .c (.gv eK [(⟨s.f0,s.f1,s.f2⟩:SK)])] (.c (.ow eK (vw s l))):=fun i h1 h2 h3=>by
   rw [←aas h1 h2 h3]
   exact adR (gq s.f0 l) s i h1 (by omega)
  generalize vw s l=P at key hkn⊢
  generalize jF P=w at hkn⊢
  generalize hD:gq s.f0 l=D at key hd⊢
  conv=>whnf
  refine dR.mk {i:Nat // i≤D.length∧∀j,j<i→ltK s.f0 (D.getD j (T.df eK))=true} (fun p=>(10,[(11,i64 p.1),(10, .c (.hd 3)),(5, .c (.px 0 0)),(0,im eK l),(2,im 5 s.f1),(3,i64 s.f2)],[(3, .row 3 eK D),(0, .bx 9 [.sc (.string s.f0)])])) (fun p=>D.length - p.1) ⟨0,Nat.zero_le _,fun j hj=>absurd hj (Nat.not_lt_zero j)⟩ (aC [(3,5),(0,0)] rfl rfl rfl ⟨⟨rfl,rfl⟩,⟨rfl,rfl⟩,⟨rfl,rfl⟩,⟨rfl,rfl⟩,⟨rfl,rfl⟩,⟨rfl,rfl⟩,trivial⟩ ⟨jE rfl,⟨rfl,rfl⟩,trivial⟩) ?_
  rintro⟨i,hi,hlt⟩
  conv=>whnf
  refine Split.mk (fun c=>?_) (fun c=>?_)
  ·have hk2:i<D.length:=iJ c
   clear c
   conv=>whnf
   refine Need.mk (idx hk2) ?_
   conv=>whnf
   refine bC.mk ⟨by kernel_rfl,by kernel_rfl⟩ ?_
   conv=>whnf
   refine Split.mk (fun c=>?_) (fun c=>?_)
   ·conv=>whnf
    exact bM.mk ⟨⟨i+1,hk2,fun j hj=>by
     rcases Nat.lt_succ_iff_lt_or_eq.1 hj with h | rfl
     ·exact hlt j h
     ·exact c⟩,Nat.sub_lt_sub_left hk2 (Nat.lt_succ_self i),aC [(3,3),(0,0)] rfl rfl rfl ⟨⟨rfl,congrArg i64 (dZ hk2 (by omega))⟩,⟨rfl,rfl⟩,⟨rfl,rfl⟩,⟨rfl,rfl⟩,⟨rfl,rfl⟩,⟨rfl,rfl⟩,trivial⟩ ⟨jE rfl,⟨rfl,rfl⟩,trivial⟩⟩
   ·conv=>whnf
    refine ay.mk _ (Jr s.f1 (by omega)) ?_
    conv=>whnf
    refine ay.wr [[.gv eK],[.rd],[.gv eK]] (.c (.ow eK P)) ?_
    conv=>whnf
    refine jG.mk (key i hi hlt (.inr c)) ?_
    conv=>whnf
    refine bC.mk ⟨by kernel_rfl,by kernel_rfl⟩ ?_
    conv=>whnf
    refine ay.mk _ hkn ?_
    conv=>whnf
    refine Split.mk (fun c=>?_) (fun c=>?_)
    ·have h:w=false:=bI c
     subst h
     conv=>whnf
     refine ay.mk _ hcp ?_
     conv=>whnf
     exact aA.mk ⟨rfl,rfl⟩ ⟨rfl,rfl⟩ ⟨rfl,rfl,trivial⟩
    ·have h:w=true:=bQ c
     subst h
     conv=>whnf
     exact aA.mk ⟨rfl,rfl⟩ ⟨rfl,rfl⟩ ⟨rfl,rfl,trivial⟩
  ·have hk2:i=D.length:=Nat.le_antisymm hi (iK c)
   clear c
   conv=>whnf
   refine bC.mk ⟨by kernel_rfl,by kernel_rfl⟩ ?_
   conv=>whnf
   refine Split.mk (fun e=>jM e) (fun _=>?_)
   conv=>whnf
   refine ay.mk _ (Jr s.f1 (by omega)) ?_
   conv=>whnf
   refine ay.wr [[.gv eK],[.rd],[.gv eK]] (.c (.ow eK P)) ?_
   conv=>whnf
   refine jG.mk (key i hi hlt (.inl hk2)) ?_
   conv=>whnf
   refine bC.mk ⟨by kernel_rfl,by kernel_rfl⟩ ?_
   conv=>whnf
   refine ay.mk _ hkn ?_
   conv=>whnf
   refine Split.mk (fun c=>?_) (fun c=>?_)
   ·have h:w=false:=bI c
    subst h
    conv=>whnf
    refine ay.mk _ hcp ?_
    conv=>whnf
    exact aA.mk ⟨rfl,rfl⟩ ⟨rfl,rfl⟩ ⟨rfl,rfl,trivial⟩
   ·have h:w=true:=bQ c
    subst h
    conv=>whnf
    exact aA.mk ⟨rfl,rfl⟩ ⟨rfl,rfl⟩ ⟨rfl,rfl,trivial⟩
 ·have hnew:kX s l=gq s.f0 l:=by unfold kX;rw [show decide ((s.f1.length:Int)>0)=false from c];rfl
  rw [hnew] at hkn⊢
  clear hnew c
  generalize jF (gq s.f0 l)=w at hkn⊢
  conv=>whnf
  refine ay.mk _ hkn ?_
  conv=>whnf
  refine Split.mk (fun c=>?_) (fun c=>?_)
  ·have h:w=false:=bI c
   subst h
   conv=>whnf
   refine ay.mk _ hcp ?_
   conv=>whnf
   exact aA.mk ⟨rfl,rfl⟩ ⟨rfl,rfl⟩ ⟨rfl,rfl,trivial⟩
  ·have h:w=true:=bQ c
   subst h
   conv=>whnf
   exact aA.mk ⟨rfl,rfl⟩ ⟨rfl,rfl⟩ ⟨rfl,rfl,trivial⟩
end Go.Proofs.YtcnfgfomholheaaGreatDoor.Q
end
section
namespace Go.Proofs.YtcnfgfomholheaaGreatDoor.Q
open Go.RowKit Go.Proofs.YtcnfgfomholheaaGreatDoor.Z Go.Proofs.YtcnfgfomholheaaGreatDoor.Pure
set_option linter.unusedVariables false
set_option linter.unusedSimpArgs false
set_option maxRecDepth 100000
set_option maxHeartbeats 4000000
def eqK (s x:SK):Bool:=x.f0.toList==s.f0.toList
def sG (s:SK) (p:List SK × Bool) (x:SK):List SK × Bool:=bif !p.2 && !ltK s.f0 x then (p.1++[s],true) else p
def kQ (s:SK) (p:List SK × Bool) (x:SK):List SK × Bool:=(bif eqK s x then (sG s p x).1 else (sG s p x).1++[x],(sG s p x).2)
def NZ (s:SK) (p:List SK × Bool):List SK:=bif p.2 then p.1 else p.1++[s]
def kR (s:SK) (l:List SK):List SK × Bool:=l.foldl (kQ s) ([],decide ((s.f1.length:Int)=0))
theorem yY (t:ByteArray) (x:SK) (l:List SK):gq t (x::l)=(bif x.f0.toList==t.toList then [] else [x])++gq t l:=by
 unfold gq
 rw [List.filter_cons]
 cases x.f0.toList==t.toList<;>rfl
theorem N7 (s:SK):∀(l acc:List SK),(∀x∈l,ltK s.f0 x=true)→l.foldl (kQ s) (acc,false)=(acc++l,false)
 | [],acc,_=>by simp
 | x::l,acc,h=>by
   have h1:=h x List.mem_cons_self
   have h2:eqK s x=false:=by
    unfold eqK
    cases e:x.f0.toList==s.f0.toList with
    | false=>rfl
    | true=>
      unfold ltK at h1
      rw [eq_of_beq e,ED] at h1
      cases h1
   rw [List.foldl_cons]
   have:kQ s (acc,false) x=(acc++[x],false):=by unfold kQ sG;rw [h1,h2];rfl
   rw [this,N7 s l _ (fun y hy=>h y (List.mem_cons_of_mem _ hy)),List.append_assoc];rfl
theorem yZ (s:SK):∀(l acc:List SK),l.foldl (kQ s) (acc,true)=(acc++gq s.f0 l,true)
 | [],acc=>by simp [gq]
 | x::l,acc=>by
   rw [List.foldl_cons,yY]
   have:kQ s (acc,true) x=(acc++(bif x.f0.toList==s.f0.toList then [] else [x]),true):=by
    unfold kQ sG eqK
    cases x.f0.toList==s.f0.toList<;>simp
   rw [this,yZ s l,List.append_assoc]
theorem N8 {l:List SK} (h:jF l=true):l.Pairwise (fun a b=>Op.bytesLess a.f0.toList b.f0.toList=true):=by
 have hok:∀i,i<l.length→nX l i=true:=fun i hi=>by
  unfold jF at h
  rw [Bool.and_eq_true,List.all_eq_true] at h
  exact h.1 i (List.mem_range.2 hi)
 have abr:∀i,i+1<l.length→Op.bytesLess (gK l i).f0.toList (gK l (i+1)).f0.toList=true:=fun i hi=>by
  have h2:=hok (i+1) hi
  unfold nX at h2
  simp only [Bool.and_eq_true] at h2
  have h3:=h2.2.2.2
  rw [decide_eq_true (Nat.succ_pos i),Bool.true_and,Bool.not_not] at h3
  exact h3
 have hall:∀d i,i+d+1<l.length→Op.bytesLess (gK l i).f0.toList (gK l (i+d+1)).f0.toList=true:=fun d=>by
  induction d with
  | zero=>intro i hi;exact abr i hi
  | succ d ih=>intro i hi;exact qj _ _ _ (ih i (by omega)) (abr (i+d+1) (by omega))
 rw [List.pairwise_iff_getElem]
 intro i j hi hj hij
 have h2:=hall (j - i - 1) i (by omega)
 rw [show i+(j - i - 1)+1=j by omega,show gK l i=l[i] from getD_in (α:=SK) l i (T.df eK) hi,show gK l j=l[j] from getD_in (α:=SK) l j (T.df eK) hj] at h2
 exact h2
theorem N9 {t:ByteArray}:∀{l:List SK},(∀x∈l,ltK t x=true)→gq t l=l
 | [],_=>rfl
 | x::l,h=>by
   rw [yY,N9 (fun y hy=>h y (List.mem_cons_of_mem _ hy))]
   have h1:=h x List.mem_cons_self
   cases e:x.f0.toList==t.toList with
   | false=>rfl
   | true=>
     unfold ltK at h1
     rw [eq_of_beq e,ED] at h1
     cases h1
theorem VN (t:ByteArray) (l m:List SK):gq t (l++m)=gq t l++gq t m:=List.filter_append _ _
theorem aat {p:SK→Bool}:∀{l:List SK},(∀x∈l,p x=false)→l.takeWhile p=[]∧l.dropWhile p=l
 | [],_=>⟨rfl,rfl⟩
 | x::l,h=>by simp [List.takeWhile_cons,List.dropWhile_cons,h x List.mem_cons_self]
theorem Oa {p:SK→Bool}:∀{l m:List SK},(∀x∈l,p x=true)→(∀x∈m,p x=false)→(l++m).takeWhile p=l∧(l++m).dropWhile p=m
 | [],m,_,h=>aat h
 | x::l,m,h1,h2=>by
   obtain⟨a,b⟩:=Oa (l:=l) (m:=m) (fun y hy=>h1 y (List.mem_cons_of_mem _ hy)) h2
   rw [List.cons_append,List.takeWhile_cons,List.dropWhile_cons,h1 x List.mem_cons_self,if_pos rfl,if_pos rfl,a,b]
   exact⟨rfl,rfl⟩
theorem VO {p:SK→Bool}:∀{l:List SK} {x:SK},x∈l.takeWhile p→p x=true
 | [],_,h=>by cases h
 | y::l,x,h=>by
   rw [List.takeWhile_cons] at h
   split at h
   ·rename_i hy
    rcases List.mem_cons.1 h with rfl | h
    ·exact hy
    ·exact VO h
   ·cases h
theorem aau {s:SK} {l:List SK} (h:jF l=true):NZ s (kR s l)=kX s l:=by
 have hs:=N8 h
 unfold kR kX
 by_cases h0:(s.f1.length:Int)=0
 ·rw [decide_eq_true h0,yZ,decide_eq_false (p:=(s.f1.length:Int)>0) (by omega)]
  rfl
 ·rw [decide_eq_false h0,decide_eq_true (p:=(s.f1.length:Int)>0) (by omega)]
  show _=vw s l
  unfold vw
  have hl:=List.takeWhile_append_dropWhile (p:=ltK s.f0) (l:=l)
  have h1:∀x∈l.takeWhile (ltK s.f0),ltK s.f0 x=true:=fun x hx=>VO hx
  generalize l.takeWhile (ltK s.f0)=a at hl h1
  have hb:∀y∈l.dropWhile (ltK s.f0),ltK s.f0 y=false:=by
   have h2:∀x r,l.dropWhile (ltK s.f0)=x::r→ltK s.f0 x=false:=fun x r e=>by
    have:=List.head_dropWhile_not (p:=ltK s.f0) (l:=l) (by rw [e];simp)
    simp only [e,List.head_cons] at this
    simpa using this
   rw [←hl] at hs
   have hs2:=(List.pairwise_append.1 hs).2.1
   cases e:l.dropWhile (ltK s.f0) with
   | nil=>intro y hy;cases hy
   | cons x r=>
     have hx:=h2 x r e
     rw [e] at hs2
     intro y hy
     rcases List.mem_cons.1 hy with rfl | hy
     ·exact hx
     ·cases hq:ltK s.f0 y with
      | false=>rfl
      | true=>
        have:=qj _ _ _ ((List.pairwise_cons.1 hs2).1 y hy) hq
        unfold ltK at hx
        rw [this] at hx;cases hx
  generalize l.dropWhile (ltK s.f0)=b at hl hb
  subst hl
  rw [VN,N9 h1,(Oa h1 (fun x hx=>hb x (sF hx))).1,(Oa h1 (fun x hx=>hb x (sF hx))).2,List.foldl_append,N7 s a [] h1,List.nil_append]
  cases b with
  | nil=>simp [NZ,gq]
  | cons x r=>
    have hx:=hb x List.mem_cons_self
    rw [List.foldl_cons]
    have:kQ s (a,false) x=(a++[s]++(bif x.f0.toList==s.f0.toList then [] else [x]),true):=by
     unfold kQ sG eqK
     rw [hx]
     cases x.f0.toList==s.f0.toList<;>simp
    rw [this,yZ,yY]
    simp [NZ]
theorem VP (s:SK) (p:List SK × Bool) (x:SK):(kQ s p x).1.length≤p.1.length+2:=by
 unfold kQ sG
 cases (!p.2 && !ltK s.f0 x)<;>cases eqK s x<;>simp
theorem Bj (s:SK):∀(l:List SK) (p:List SK × Bool),(l.foldl (kQ s) p).1.length≤p.1.length+2*l.length
 | [],p=>by simp
 | x::l,p=>by
   have h1:=Bj s l (kQ s p x)
   have h2:=VP s p x
   rw [List.foldl_cons,List.length_cons]
   omega
theorem TG {s:SK} {l:List SK} {k:Nat} (h:k<l.length):kR s (l.take (k+1))=kQ s (kR s (l.take k)) (gK l k):=by
 unfold kR
 rw [List.take_succ_eq_append_getElem h,List.foldl_append,show gK l k=l[k] from getD_in (α:=SK) l k (T.df eK) h]
 rfl
end Go.Proofs.YtcnfgfomholheaaGreatDoor.Q
end
section
namespace Go.Proofs.YtcnfgfomholheaaGreatDoor.Q
open Go.RowKit Go.Proofs.YtcnfgfomholheaaGreatDoor.Z Go.Proofs.YtcnfgfomholheaaGreatDoor.Pure
set_option linter.unusedVariables false
set_option linter.unusedSimpArgs false
set_option maxRecDepth 100000
set_option maxHeartbeats 4000000
theorem pO {s x:SK} {p:List SK × Bool} {a e:Bool} (h1:(!p.2 && !ltK s.f0 x)=a) (h2:eqK s x=e):kQ s p x=(bif e then (bif a then p.1++[s] else p.1) else (bif a then p.1++[s] else p.1)++[x],bif a then true else p.2):=by
 subst h1 h2
 unfold kQ sG
 cases !p.2 && !ltK s.f0 x<;>rfl
theorem Qu (l:List SK) (s:SK) (hk:BK l) (h0:s.f0.size≤1048576) (h1:s.f1.length≤1048576):aG T Tryz.prog 124 [.c (.sl eK l), .c (.sc (.string s.f0)), .c (.sl 5 s.f1), .c (.sc (.int .i64 s.f2))] (MF (vC s l) (setB s l)):=by
 have hl:=hk.k
 have hcp:=uZ l (by omega) (fun y hy=>Nat.le_trans (hk.b y hy) (by decide))
 have hko:=yU l (by omega) hk.t
 have hno:um s l=false→setB s l=false∧vC s l=l:=fun h=>by
  have:setB s l=false:=by unfold setB;rw [h];rfl
  exact⟨this,by unfold vC;rw [this];rfl⟩
 have hyes:um s l=true→setB s l=jF (kX s l):=fun h=>by unfold setB;rw [h];rfl
 have hkn:=yU (kX s l) (Nat.le_trans (Fq s l) (by omega)) (fun y hy=>by
  rcases vF hy with rfl | h
  ·exact h0
  ·exact hk.t y h)
 have hR:=Fp s l
 have hfin:um s l=true→NZ s (kR s l)=kX s l:=fun h=>aau (by
  rw [Fp] at h
  exact(Bool.and_eq_true _ _▸h).1)
 have hcn:=uZ (kX s l) (Nat.le_trans (Fq s l) (by omega)) (fun y hy=>by
  rcases vF hy with rfl | h
  ·omega
  ·exact Nat.le_trans (hk.b y h) (by decide))
 unfold vC at hno⊢
 generalize hS:um s l=so at hR hno hyes hfin
 replace hR:=hR.symm
 generalize setB s l=sb at hno hyes⊢
 refine aH hT Tryz.func124 (by kernel_rfl) rfl rfl (fun A=>?_)
 conv=>whnf
 refine ay.mk _ hko ?_
 conv=>whnf
 refine Split.mk (fun c=>?_) (fun c=>?_)
 ·obtain⟨e1,e2⟩:=hno (dP (bI c) hR)
  subst e1
  conv=>whnf
  repeat (first | (refine Split.mk (fun _=>?_) (fun e=>je e);conv=>whnf) | (refine bC.mk ⟨by kernel_rfl,by kernel_rfl⟩ ?_;conv=>whnf))
  refine ay.mk _ hcp ?_
  conv=>whnf
  exact aA.mk ⟨rfl,rfl⟩ ⟨rfl,rfl⟩ ⟨rfl,rfl,trivial⟩
 replace hR:=dH (bQ c) hR
 clear c
 conv=>whnf
 refine ay.mk _ (EH s.f0 (Nat.le_trans h0 (by decide))) ?_
 conv=>whnf
 refine Split.mk (fun c=>?_) (fun c=>?_)
 ·obtain⟨e1,e2⟩:=hno (dP (bI c) hR)
  subst e1
  conv=>whnf
  repeat (first | (refine Split.mk (fun _=>?_) (fun e=>je e);conv=>whnf) | (refine bC.mk ⟨by kernel_rfl,by kernel_rfl⟩ ?_;conv=>whnf))
  refine ay.mk _ hcp ?_
  conv=>whnf
  exact aA.mk ⟨rfl,rfl⟩ ⟨rfl,rfl⟩ ⟨rfl,rfl,trivial⟩
 replace hR:=dH (bQ c) hR
 clear c
 conv=>whnf
 refine Split.mk (fun c=>?_) (fun c=>?_)
 ·obtain⟨e1,e2⟩:=hno (dP (congrArg not c) hR)
  subst e1
  conv=>whnf
  repeat (first | (refine Split.mk (fun _=>?_) (fun e=>je e);conv=>whnf) | (refine bC.mk ⟨by kernel_rfl,by kernel_rfl⟩ ?_;conv=>whnf))
  refine ay.mk _ hcp ?_
  conv=>whnf
  exact aA.mk ⟨rfl,rfl⟩ ⟨rfl,rfl⟩ ⟨rfl,rfl,trivial⟩
 replace hR:=dH (congrArg not c) hR
 clear c
 conv=>whnf
 refine ay.mk _ (Ba _ 0 2) ?_
 conv=>whnf
 refine Split.mk (fun c=>?_) (fun c=>?_)
 ·obtain⟨e1,e2⟩:=hno (hR.symm.trans (bI c))
  subst e1
  conv=>whnf
  refine ay.mk _ hcp ?_
  conv=>whnf
  exact aA.mk ⟨rfl,rfl⟩ ⟨rfl,rfl⟩ ⟨rfl,rfl,trivial⟩
 replace hyes:=hyes (hR.symm.trans (bQ c))
 replace hfin:=hfin (hR.symm.trans (bQ c))
 clear c hR hno
 subst hyes
 conv=>whnf
 refine Need.mk ⟨flat5,dD (a:=0) (b:=s.f1.length) (by omega) (by decide)⟩ ?_
 conv=>whnf
 refine dR.mk {k:Nat // k≤l.length} (fun p=>(20,[(13,i64 p.1),(12, .c (.sc (.bool (kR s (l.take p.1)).2))),(11, .c (.px 6 0)),(10, .c (.hd 3)),(0,im eK l),(1, .c (.sc (.string s.f0)))],[(6, .bx eK [.sc (.string s.f0), .im none 5 s.f1, .sc (.int .i64 s.f2)]),(3, .sh 3 eK (kR s (l.take p.1)).1)])) (fun p=>l.length - p.1) ⟨0,Nat.zero_le _⟩ ((Yd _ [5]).trans (aC [(6,6),(3,3)] rfl rfl rfl ⟨⟨rfl,rfl⟩,⟨rfl,rfl⟩,⟨rfl,rfl⟩,⟨rfl,rfl⟩,⟨rfl,rfl⟩,⟨rfl,rfl⟩,trivial⟩ ⟨⟨rfl,rfl⟩,jE rfl,trivial⟩)) ?_
 rintro⟨k,hk⟩
 conv=>whnf
 refine Split.mk (fun c=>?_) (fun c=>?_)
 ·have hk2:k<l.length:=iJ c
  clear c
  have hst:=TG (s:=s) hk2
  have hln:(kR s (l.take k)).1.length≤2*k:=by
   have h:=Bj s (l.take k) ([],decide ((s.f1.length:Int)=0))
   rw [List.length_take] at h
   have h2:(([]:List SK),decide ((s.f1.length:Int)=0)).1.length=0:=rfl
   unfold kR
   omega
  generalize kR s (l.take k)=p at hst hln
  conv=>whnf
  refine Split.mk (fun c1=>?_) (fun c1=>?_)
  ·conv=>whnf
   refine Need.mk (idx hk2) ?_
   conv=>whnf
   refine Split.mk (fun c2=>?_) (fun c2=>?_)
   ·have h1:(!p.2 && !ltK s.f0 (gK l k))=true:=by rw [c1];exact c2
    conv=>whnf
    refine Need.mk (dD (a:=p.1.length) (b:=1) (by omega) (by decide)) ?_
    conv=>whnf
    refine Need.mk (idx hk2) ?_
    conv=>whnf
    refine Split.mk (fun c3=>?_) (fun c3=>?_)
    ·have hq:=hst.trans (pO h1 (show eqK s (gK l k)=false from bI c3))
     conv=>whnf
     refine Need.mk (idx hk2) ?_
     conv=>whnf
     refine Need.mk (dD (a:=(p.1++[(⟨s.f0,s.f1,s.f2⟩:SK)]).length) (b:=1) (by rw [List.length_append,List.length_singleton];omega) (by decide)) ?_
     conv=>whnf
     exact bM.mk ⟨⟨k+1,hk2⟩,Nat.sub_lt_sub_left hk2 (Nat.lt_succ_self k),aC [(6,6),(3,21)] rfl rfl rfl ⟨⟨rfl,congrArg i64 (dZ hk2 (by omega))⟩,⟨rfl,congrArg (fun b:Bool=>(.c (.sc (.bool b)):Slot T)) (Eq.trans (congrArg Prod.snd hq) rfl)⟩,⟨rfl,rfl⟩,⟨rfl,rfl⟩,⟨rfl,rfl⟩,⟨rfl,rfl⟩,trivial⟩ ⟨⟨rfl,rfl⟩,jE (congrArg Prod.fst hq).symm,trivial⟩⟩
    ·have hq:=hst.trans (pO h1 (show eqK s (gK l k)=true from bQ c3))
     conv=>whnf
     exact bM.mk ⟨⟨k+1,hk2⟩,Nat.sub_lt_sub_left hk2 (Nat.lt_succ_self k),aC [(6,6),(3,20)] rfl rfl rfl ⟨⟨rfl,congrArg i64 (dZ hk2 (by omega))⟩,⟨rfl,congrArg (fun b:Bool=>(.c (.sc (.bool b)):Slot T)) (Eq.trans (congrArg Prod.snd hq) rfl)⟩,⟨rfl,rfl⟩,⟨rfl,rfl⟩,⟨rfl,rfl⟩,⟨rfl,rfl⟩,trivial⟩ ⟨⟨rfl,rfl⟩,jE (congrArg Prod.fst hq).symm,trivial⟩⟩
   ·have h1:(!p.2 && !ltK s.f0 (gK l k))=false:=by rw [c1];exact c2
    conv=>whnf
    refine Need.mk (idx hk2) ?_
    conv=>whnf
    refine Split.mk (fun c3=>?_) (fun c3=>?_)
    ·have hq:=hst.trans (pO h1 (show eqK s (gK l k)=false from bI c3))
     conv=>whnf
     refine Need.mk (idx hk2) ?_
     conv=>whnf
     refine Need.mk (dD (a:=(p.1).length) (b:=1) (by omega) (by decide)) ?_
     conv=>whnf
     exact bM.mk ⟨⟨k+1,hk2⟩,Nat.sub_lt_sub_left hk2 (Nat.lt_succ_self k),aC [(6,6),(3,20)] rfl rfl rfl ⟨⟨rfl,congrArg i64 (dZ hk2 (by omega))⟩,⟨rfl,congrArg (fun b:Bool=>(.c (.sc (.bool b)):Slot T)) (Eq.trans (congrArg Prod.snd hq) rfl)⟩,⟨rfl,rfl⟩,⟨rfl,rfl⟩,⟨rfl,rfl⟩,⟨rfl,rfl⟩,trivial⟩ ⟨⟨rfl,rfl⟩,jE (congrArg Prod.fst hq).symm,trivial⟩⟩
    ·have hq:=hst.trans (pO h1 (show eqK s (gK l k)=true from bQ c3))
     conv=>whnf
     exact bM.mk ⟨⟨k+1,hk2⟩,Nat.sub_lt_sub_left hk2 (Nat.lt_succ_self k),aC [(6,6),(3,3)] rfl rfl rfl ⟨⟨rfl,congrArg i64 (dZ hk2 (by omega))⟩,⟨rfl,congrArg (fun b:Bool=>(.c (.sc (.bool b)):Slot T)) (Eq.trans (congrArg Prod.snd hq) rfl)⟩,⟨rfl,rfl⟩,⟨rfl,rfl⟩,⟨rfl,rfl⟩,⟨rfl,rfl⟩,trivial⟩ ⟨⟨rfl,rfl⟩,jE (congrArg Prod.fst hq).symm,trivial⟩⟩
  ·have h1:(!p.2 && !ltK s.f0 (gK l k))=false:=by rw [c1];rfl
   conv=>whnf
   refine Split.mk (fun e=>jM e) (fun _=>?_)
   conv=>whnf
   refine Need.mk (idx hk2) ?_
   conv=>whnf
   refine Split.mk (fun c3=>?_) (fun c3=>?_)
   ·have hq:=hst.trans (pO h1 (show eqK s (gK l k)=false from bI c3))
    conv=>whnf
    refine Need.mk (idx hk2) ?_
    conv=>whnf
    refine Need.mk (dD (a:=(p.1).length) (b:=1) (by omega) (by decide)) ?_
    conv=>whnf
    exact bM.mk ⟨⟨k+1,hk2⟩,Nat.sub_lt_sub_left hk2 (Nat.lt_succ_self k),aC [(6,6),(3,20)] rfl rfl rfl ⟨⟨rfl,congrArg i64 (dZ hk2 (by omega))⟩,⟨rfl,congrArg (fun b:Bool=>(.c (.sc (.bool b)):Slot T)) (Eq.trans (congrArg Prod.snd hq) rfl)⟩,⟨rfl,rfl⟩,⟨rfl,rfl⟩,⟨rfl,rfl⟩,⟨rfl,rfl⟩,trivial⟩ ⟨⟨rfl,rfl⟩,jE (congrArg Prod.fst hq).symm,trivial⟩⟩
   ·have hq:=hst.trans (pO h1 (show eqK s (gK l k)=true from bQ c3))
    conv=>whnf
    exact bM.mk ⟨⟨k+1,hk2⟩,Nat.sub_lt_sub_left hk2 (Nat.lt_succ_self k),aC [(6,6),(3,3)] rfl rfl rfl ⟨⟨rfl,congrArg i64 (dZ hk2 (by omega))⟩,⟨rfl,congrArg (fun b:Bool=>(.c (.sc (.bool b)):Slot T)) (Eq.trans (congrArg Prod.snd hq) rfl)⟩,⟨rfl,rfl⟩,⟨rfl,rfl⟩,⟨rfl,rfl⟩,⟨rfl,rfl⟩,trivial⟩ ⟨⟨rfl,rfl⟩,jE (congrArg Prod.fst hq).symm,trivial⟩⟩
 ·have hk2:k=l.length:=Nat.le_antisymm hk (iK c)
  clear c
  subst hk2
  have hln:=Bj s l ([],decide ((s.f1.length:Int)=0))
  change (kR s l).1.length≤0+2*l.length at hln
  have htk:kR s (l.take l.length)=kR s l:=by rw [List.take_length]
  generalize kR s (l.take l.length)=p at htk
  subst htk
  unfold NZ at hfin
  generalize kR s l=p at hfin hln
  have hend:p.1.length+1≤4194304:=by omega
  generalize kX s l=M at hfin hkn hcn⊢
  generalize jF M=w at hkn⊢
  conv=>whnf
  refine Split.mk (fun c=>?_) (fun c=>?_)
  ·have hM:p.1++[s]=M:=by rw [←hfin,bI c];rfl
   conv=>whnf
   refine Need.mk (dD (a:=p.1.length) (b:=1) (by omega) (by decide)) ?_
   conv=>whnf
   rw [←hM] at hkn hcn
   refine ay.mk _ hkn ?_
   conv=>whnf
   refine Split.mk (fun c=>?_) (fun c=>?_)
   ·have h:w=false:=bI c
    subst h
    conv=>whnf
    refine ay.mk _ hcp ?_
    conv=>whnf
    exact aA.mk ⟨rfl,rfl⟩ ⟨rfl,rfl⟩ ⟨rfl,rfl,trivial⟩
   ·have h:w=true:=bQ c
    subst h
    conv=>whnf
    refine ay.mk _ hcn ?_
    conv=>whnf
    exact aA.mk ⟨rfl,rfl⟩ ⟨rfl,rfl⟩ ⟨jE hM,rfl,trivial⟩
  ·have hM:p.1=M:=by rw [←hfin,bQ c];rfl
   rw [←hM] at hkn hcn
   conv=>whnf
   refine ay.mk _ hkn ?_
   conv=>whnf
   refine Split.mk (fun c=>?_) (fun c=>?_)
   ·have h:w=false:=bI c
    subst h
    conv=>whnf
    refine ay.mk _ hcp ?_
    conv=>whnf
    exact aA.mk ⟨rfl,rfl⟩ ⟨rfl,rfl⟩ ⟨rfl,rfl,trivial⟩
   ·have h:w=true:=bQ c
    subst h
    conv=>whnf
    refine ay.mk _ hcn ?_
    conv=>whnf
    exact aA.mk ⟨rfl,rfl⟩ ⟨rfl,rfl⟩ ⟨jE hM,rfl,trivial⟩
end Go.Proofs.YtcnfgfomholheaaGreatDoor.Q
end
section
namespace Go.Proofs.YtcnfgfomholheaaGreatDoor.Q
open Go.RowKit Go.Proofs.YtcnfgfomholheaaGreatDoor.Z Go.Proofs.YtcnfgfomholheaaGreatDoor.Pure
set_option linter.unusedVariables false
set_option linter.unusedSimpArgs false
set_option maxRecDepth 100000
set_option maxHeartbeats 4000000
def upK (r:RT) (k:List SK):RT:=⟨wrap64 (r.v+1),r.t,k⟩
def uo (r:RT) (k:List SK):RT:=bif qP r then upK r k else r
theorem aav {s:SK} {l:List SK} (h:BK l) (h0:s.f0.size≤1048576) (h1:s.f1.length≤1048576):BK (vC s l):=by
 unfold vC
 cases hb:setB s l with
 | false=>exact h
 | true=>
   refine⟨?_,fun y hy=>?_,fun y hy=>?_⟩
   ·unfold setB at hb
    rw [Bool.and_eq_true] at hb
    have h2:=hb.2
    unfold jF at h2
    rw [Bool.and_eq_true,decide_eq_true_eq] at h2
    show(kX s l).length≤_
    omega
   ·rcases vF hy with rfl | h3
    ·exact h1
    ·exact h.b y h3
   ·rcases vF hy with rfl | h3
    ·exact h0
    ·exact h.t y h3
theorem Ye {r:RT} {k:List SK} (hB:Bd r.t) (hk:BK r.k) (hk2:BK k):Bd (uo r k).t∧cnt (uo r k).t=cnt r.t∧BK (uo r k).k:=by
 unfold uo
 cases qP r with
 | true=>exact⟨hB,rfl,hk2⟩
 | false=>exact⟨hB,rfl,hk⟩
theorem Ob (r:RT) (s:SK) (h:GR r) {m:List SK} {w:Bool} (ht:aG T Tryz.prog 91 [.c (.sl eK r.k), .c (.sc (.string s.f0)), .c (.sl 5 s.f1), .c (.sc (.int .i64 s.f2))] (MF m w)):aG T Tryz.prog 51 [.ag (cR r), .c (.sc (.string s.f0)), .c (.sl 5 s.f1), .c (.sc (.int .i64 s.f2))] (Zl (uo r m) (qP r)):=by
 have hm:=Qq r h
 unfold uo
 generalize qP r=m0 at hm⊢
 refine aH hT Tryz.func51 (by kernel_rfl) rfl rfl (fun A=>?_)
 conv=>whnf
 refine ay.mk _ (NR r h.bd) ?_
 conv=>whnf
 refine ay.mk _ hm ?_
 conv=>whnf
 refine Split.mk (fun c1=>?_) (fun c1=>?_)
 ·have h0:m0=false:=bI c1
  subst h0
  conv=>whnf
  exact aA.mk ⟨rfl,rfl⟩ ⟨rfl,rfl⟩ ⟨rfl,rfl,rfl,rfl,rfl,rfl,trivial⟩
 ·have h0:m0=true:=bQ c1
  subst h0
  conv=>whnf
  refine ay.mk _ ht ?_
  conv=>whnf
  exact aA.mk ⟨rfl,rfl⟩ ⟨rfl,rfl⟩ ⟨rfl,rfl,rfl,rfl,rfl,rfl,trivial⟩
theorem Oc (r:RT) (s:SK) (h:GR r) {m:List SK} {w:Bool} (ht:aG T Tryz.prog 124 [.c (.sl eK r.k), .c (.sc (.string s.f0)), .c (.sl 5 s.f1), .c (.sc (.int .i64 s.f2))] (MF m w)):aG T Tryz.prog 49 [.ag (cR r), .c (.sc (.string s.f0)), .c (.sl 5 s.f1), .c (.sc (.int .i64 s.f2))] (Zl (uo r m) (qP r)):=by
 have hm:=Tz r h
 unfold uo
 refine aH hT Tryz.func49 (by kernel_rfl) rfl rfl (fun A=>?_)
 conv=>whnf
 refine ay.mk _ (NT r h.bd) ?_
 conv=>whnf
 refine ay.mk _ hm ?_
 conv=>whnf
 refine Split.mk (fun c1=>?_) (fun c1=>?_)
 ·have h0:=abm (bI c1)
  rw [h0]
  conv=>whnf
  repeat (first | (refine Split.mk (fun _=>?_) (fun e=>je e);conv=>whnf) | (refine bC.mk ⟨by kernel_rfl,by kernel_rfl⟩ ?_;conv=>whnf))
  exact aA.mk ⟨rfl,rfl⟩ ⟨rfl,rfl⟩ ⟨rfl,rfl,rfl,rfl,rfl,rfl,trivial⟩
 ·have h0:=aaq (bQ c1)
  rw [h0]
  clear h0 c1
  generalize hq:(r.v==1000000)=q
  conv=>whnf
  refine Split.mk (fun c1=>?_) (fun c1=>?_)
  ·rw [show q=true from hq.symm.trans c1]
   conv=>whnf
   exact aA.mk ⟨rfl,rfl⟩ ⟨rfl,rfl⟩ ⟨rfl,rfl,rfl,rfl,rfl,rfl,trivial⟩
  ·rw [show q=false from hq.symm.trans c1]
   conv=>whnf
   refine ay.mk _ ht ?_
   conv=>whnf
   exact aA.mk ⟨rfl,rfl⟩ ⟨rfl,rfl⟩ ⟨rfl,rfl,rfl,rfl,rfl,rfl,trivial⟩
end Go.Proofs.YtcnfgfomholheaaGreatDoor.Q
end
section
namespace Go.Proofs.YtcnfgfomholheaaGreatDoor.Q
open Go.RowKit Go.Proofs.YtcnfgfomholheaaGreatDoor.Z Go.Proofs.YtcnfgfomholheaaGreatDoor.X Go.Proofs.YtcnfgfomholheaaGreatDoor.Pure
set_option linter.unusedVariables false
set_option linter.unusedSimpArgs false
set_option maxRecDepth 100000
set_option maxHeartbeats 4000000
theorem Qn (a:RL) (t:ByteArray) (b:List Int) (q:Int) (ha:abd a) (_:b.length≤140737488351232) (_:∀x∈b,(Lit.int .u8 x).wf=true):aG T Tryz.prog 9 [.ag (Vx a), .c (.sc (.string t)), .c (.sl 5 b), .c (.sc (.int .i64 q))] (.c (.sc (.bool true))):=by
 generalize hs:(⟨t,b,q⟩:SK)=s
 obtain⟨rfl,rfl,rfl⟩:t=s.f0∧b=s.f1∧q=s.f2:=by subst hs;exact⟨rfl,rfl,rfl⟩
 clear hs
 refine lJ hT Tryz.func9 (by kernel_rfl) rfl rfl (fun A=>?_)
 refine Vc.seq 0 hT ?_
 conv=>whnf
 refine Vc.seq 1 hT ?_
 conv=>whnf
 refine Split.mk (fun c1=>?_) (fun c1=>?_)
 ·conv=>whnf
  exact aA.mk ⟨rfl,rfl⟩ ⟨rfl,rfl⟩ ⟨rfl,trivial⟩
 have hf:s.f0.size≤1048576:=Zk c1
 clear c1
 conv=>whnf
 refine Vc.seq 1 hT ?_
 conv=>whnf
 refine Split.mk (fun c1=>?_) (fun c1=>?_)
 ·conv=>whnf
  exact aA.mk ⟨rfl,rfl⟩ ⟨rfl,rfl⟩ ⟨rfl,trivial⟩
 have hf1:s.f1.length≤1048576:=Zk c1
 clear c1
 conv=>whnf
 refine Vc.seq 1 hT ?_
 conv=>whnf
 refine Vc.seq 1 hT ?_
 conv=>whnf
 refine ay.mk _ (abh a _ ha.1 ha.2 (by decide) (by decide)) ?_
 conv=>whnf
 refine Vc.seq 2 hT ?_
 conv=>whnf
 refine Split.mk (fun c1=>?_) (fun c1=>?_)
 ·conv=>whnf
  exact aA.mk ⟨rfl,rfl⟩ ⟨rfl,rfl⟩ ⟨rfl,trivial⟩
 have hsz:0≤Rf a 1048576:=TJ c1
 clear c1
 obtain⟨hL,hB,hcB,hkB,hk1,hk2,_⟩:=abl (by decide) (by decide) hsz
 have hto:=abj a hL hk1 hk2
 generalize tR a=B at hcB hB hkB hto
 have adS:cnt B.t≤1048576:=by omega
 clear hcB hsz hL hk1 hk2
 have hG:=GR.of hB (Nat.le_trans adS (by decide)) hkB
 have hbk:=aav hkB hf hf1
 have him:=Ob B s hG (Qs B.k s hkB hf hf1)
 have hsp:=Oc B s hG (Qu B.k s hkB hf hf1)
 obtain⟨hR,hcR,hkR⟩:=Ye hB hkB hbk
 generalize uo B (vC s B.k)=R at him hsp hR hcR hkR
 generalize qP B=w at him hsp
 have htl:=Rl s.f1 hf1
 have hel:=Rn s.f1 s.f1 (by omega)
 have afd:=VI B hkB (by omega)
 have hml:=KQ s.f1 (iO B 1).2 (by omega) (aar B) (by omega)
 have hbB:GK B:=hG.bd
 have hbR:GK R:=hkR.bdr hR
 have hmB:=NQ B 1 hbB (by decide) (Jq B hkB (by omega))
 have hmR:=NQ R 1 hbR (by decide) (Jq R hkR (by omega))
 have hhR:=X7 R 1 hbR (by decide) (Jq R hkR (by omega))
 have heR:=VD R R hbR
 have heB:=VD B B hbB
 conv=>whnf
 refine Vc.cut (α:=Unit) 60 (fun _=>True) (fun _=>[(11, .c (.sc (.bool w))),(10, .c (.px 1 0)),(4, .c (.px 0 0)),(1, .c (.sc (.string s.f0))),(2,im 5 s.f1),(3, .c (.sc (.int .i64 s.f2)))]) (fun _=>[(1, .bx eG [.sc (.int .i64 R.v), .hd 2, .hd 3, .hd 4, .hd 5]),(2, .row 2 9 R.t.f0),(3, .row 3 eN R.t.f1),(4, .row 4 eS R.t.f2),(5, .row 5 eK R.k),(0,AU a)]) hT ?_ (fun _ _=>?_)
 ·conv=>whnf
  refine ay.mk _ hto ?_
  conv=>whnf
  refine ay.mk _ htl ?_
  conv=>whnf
  refine ay.mk _ hsp ?_
  conv=>whnf
  exact jX.mk ⟨(),trivial,aC [(1,72),(2,67),(3,68),(4,69),(5,70),(0,0)] rfl rfl rfl ⟨⟨rfl,rfl⟩,⟨rfl,rfl⟩,⟨rfl,rfl⟩,⟨rfl,rfl⟩,⟨rfl,rfl⟩,⟨rfl,rfl⟩,trivial⟩ ⟨⟨rfl,rfl⟩,qh rfl,pI rfl,qg rfl,jE rfl,⟨rfl,rfl⟩,trivial⟩⟩
 refine Vc.cut (α:=Unit) 60 (fun _=>True) (fun _=>[(12, .c (.px 6 0)),(11, .c (.sc (.bool w))),(10, .c (.px 1 0)),(4, .c (.px 0 0)),(1, .c (.sc (.string s.f0))),(2,im 5 s.f1),(3, .c (.sc (.int .i64 s.f2)))]) (fun _=>[(6, .bx eG [.sc (.int .i64 B.v), .hd 7, .hd 8, .hd 9, .hd 10]),(7, .row 7 9 B.t.f0),(8, .row 8 eN B.t.f1),(9, .row 9 eS B.t.f2),(10, .row 10 eK B.k),(1, .bx eG [.sc (.int .i64 R.v), .hd 2, .hd 3, .hd 4, .hd 5]),(2, .row 2 9 R.t.f0),(3, .row 3 eN R.t.f1),(4, .row 4 eS R.t.f2),(5, .row 5 eK R.k),(0,AU a)]) hT ?_ (fun _ _=>?_)
 ·conv=>whnf
  refine ay.mk _ hto ?_
  conv=>whnf
  exact jX.mk ⟨(),trivial,aC [(6,65),(7,61),(8,62),(9,63),(10,64),(1,1),(2,2),(3,3),(4,4),(5,5),(0,0)] rfl rfl rfl ⟨⟨rfl,rfl⟩,⟨rfl,rfl⟩,⟨rfl,rfl⟩,⟨rfl,rfl⟩,⟨rfl,rfl⟩,⟨rfl,rfl⟩,⟨rfl,rfl⟩,trivial⟩ ⟨⟨rfl,rfl⟩,qh rfl,pI rfl,qg rfl,jE rfl,⟨rfl,rfl⟩,qh rfl,pI rfl,qg rfl,jE rfl,⟨rfl,rfl⟩,trivial⟩⟩
 refine Vc.cut (α:=Unit) 60 (fun _=>True) (fun _=>[(13, .c (.hd 11)),(12, .c (.px 6 0)),(11, .c (.sc (.bool w))),(10, .c (.px 1 0)),(4, .c (.px 0 0)),(1, .c (.sc (.string s.f0))),(2,im 5 s.f1),(3, .c (.sc (.int .i64 s.f2)))]) (fun _=>[(11, .row 11 5 s.f1),(6, .bx eG [.sc (.int .i64 B.v), .hd 7, .hd 8, .hd 9, .hd 10]),(7, .row 7 9 B.t.f0),(8, .row 8 eN B.t.f1),(9, .row 9 eS B.t.f2),(10, .row 10 eK B.k),(1, .bx eG [.sc (.int .i64 R.v), .hd 2, .hd 3, .hd 4, .hd 5]),(2, .row 2 9 R.t.f0),(3, .row 3 eN R.t.f1),(4, .row 4 eS R.t.f2),(5, .row 5 eK R.k),(0,AU a)]) hT ?_ (fun _ _=>?_)
 ·conv=>whnf
  refine ay.mk _ htl ?_
  conv=>whnf
  exact jX.mk ⟨(),trivial,aC [(11,60),(6,6),(7,7),(8,8),(9,9),(10,10),(1,1),(2,2),(3,3),(4,4),(5,5),(0,0)] rfl rfl rfl ⟨⟨rfl,rfl⟩,⟨rfl,rfl⟩,⟨rfl,rfl⟩,⟨rfl,rfl⟩,⟨rfl,rfl⟩,⟨rfl,rfl⟩,⟨rfl,rfl⟩,⟨rfl,rfl⟩,trivial⟩ ⟨sr5 rfl,⟨rfl,rfl⟩,qh rfl,pI rfl,qg rfl,jE rfl,⟨rfl,rfl⟩,qh rfl,pI rfl,qg rfl,jE rfl,⟨rfl,rfl⟩,trivial⟩⟩
 refine Vc.cut (α:=Unit) 60 (fun _=>True) (fun _=>[(15, .c (.sc (.bool w))),(14, .c (.px 12 0)),(13, .c (.hd 11)),(12, .c (.px 6 0)),(11, .c (.sc (.bool w))),(10, .c (.px 1 0)),(4, .c (.px 0 0)),(1, .c (.sc (.string s.f0))),(2,im 5 s.f1),(3, .c (.sc (.int .i64 s.f2)))]) (fun _=>[(12, .bx eG [.sc (.int .i64 R.v), .hd 13, .hd 14, .hd 15, .hd 16]),(13, .row 13 9 R.t.f0),(14, .row 14 eN R.t.f1),(15, .row 15 eS R.t.f2),(16, .row 16 eK R.k),(11, .row 11 5 s.f1),(6, .bx eG [.sc (.int .i64 B.v), .hd 7, .hd 8, .hd 9, .hd 10]),(7, .row 7 9 B.t.f0),(8, .row 8 eN B.t.f1),(9, .row 9 eS B.t.f2),(10, .row 10 eK B.k),(1, .bx eG [.sc (.int .i64 R.v), .hd 2, .hd 3, .hd 4, .hd 5]),(2, .row 2 9 R.t.f0),(3, .row 3 eN R.t.f1),(4, .row 4 eS R.t.f2),(5, .row 5 eK R.k),(0,AU a)]) hT ?_ (fun _ _=>?_)
 ·conv=>whnf
  refine ay.mk _ him ?_
  conv=>whnf
  exact jX.mk ⟨(),trivial,aC [(12,66),(13,61),(14,62),(15,63),(16,64),(11,11),(6,6),(7,7),(8,8),(9,9),(10,10),(1,1),(2,2),(3,3),(4,4),(5,5),(0,0)] rfl rfl rfl ⟨⟨rfl,rfl⟩,⟨rfl,rfl⟩,⟨rfl,rfl⟩,⟨rfl,rfl⟩,⟨rfl,rfl⟩,⟨rfl,rfl⟩,⟨rfl,rfl⟩,⟨rfl,rfl⟩,⟨rfl,rfl⟩,⟨rfl,rfl⟩,trivial⟩ ⟨⟨rfl,rfl⟩,qh rfl,pI rfl,qg rfl,jE rfl,sr5 rfl,⟨rfl,rfl⟩,qh rfl,pI rfl,qg rfl,jE rfl,⟨rfl,rfl⟩,qh rfl,pI rfl,qg rfl,jE rfl,⟨rfl,rfl⟩,trivial⟩⟩
 refine Vc.seq 60 hT ?_
 conv=>whnf
 refine ay.mk _ heR ?_
 conv=>whnf
 refine Split.mk (fun c1=>(iL (bI c1) rfl).elim) (fun c1=>?_)
 clear c1
 conv=>whnf
 refine Need.mk (by kernel_rfl) ?_
 conv=>whnf
 refine Split.mk (fun c1=>(Yf c1 rfl).elim) (fun c1=>?_)
 clear c1
 conv=>whnf
 refine Vc.seq 60 hT ?_
 conv=>whnf
 refine ay.mk _ hto ?_
 conv=>whnf
 refine ay.mk _ heB ?_
 conv=>whnf
 refine bC.mk ⟨by kernel_rfl,by kernel_rfl⟩ ?_
 conv=>whnf
 refine Split.mk (fun c1=>(iL (bI c1) rfl).elim) (fun c1=>?_)
 clear c1
 conv=>whnf
 refine Vc.seq 70 hT ?_
 conv=>whnf
 refine ay.mk _ htl ?_
 conv=>whnf
 refine ay.mk _ hel ?_
 conv=>whnf
 refine Split.mk (fun c1=>(iL (bI c1) rfl).elim) (fun c1=>?_)
 clear c1
 conv=>whnf
 refine Vc.seq 120 hT ?_
 conv=>whnf
 refine Vc.cut (α:=Unit) 100 (fun _=>True) (fun _=>[(16,i64 (((iO B 1).2:Nat):Int)),(15, .c (.sc (.bool w))),(14, .c (.px 12 0)),(13, .c (.hd 11)),(11, .c (.sc (.bool w))),(10, .c (.px 1 0)),(4, .c (.px 0 0)),(1, .c (.sc (.string s.f0))),(2,im 5 s.f1),(3, .c (.sc (.int .i64 s.f2)))]) (fun _=>[(12, .bx eG [.sc (.int .i64 R.v), .hd 13, .hd 14, .hd 15, .hd 16]),(13, .row 13 9 R.t.f0),(14, .row 14 eN R.t.f1),(15, .row 15 eS R.t.f2),(16, .row 16 eK R.k),(11, .row 11 5 s.f1),(1, .bx eG [.sc (.int .i64 R.v), .hd 2, .hd 3, .hd 4, .hd 5]),(2, .row 2 9 R.t.f0),(3, .row 3 eN R.t.f1),(4, .row 4 eS R.t.f2),(5, .row 5 eK R.k),(0,AU a)]) hT ?_ (fun _ _=>?_)
 ·conv=>whnf
  refine ay.wr [[NW.rd,NW.wr 9 (iO B 1).1.t.f0,NW.wr eN (iO B 1).1.t.f1,NW.wr eS (iO B 1).1.t.f2,NW.wr eK (iO B 1).1.k],[NW.rd]] (.c (.sc (.int .i64 (((iO B 1).2:Nat):Int)))) ?_
  conv=>whnf
  refine jG.mk hmB ?_
  conv=>whnf
  exact jX.mk ⟨(),trivial,aC [(12,12),(13,13),(14,14),(15,15),(16,16),(11,11),(1,1),(2,2),(3,3),(4,4),(5,5),(0,0)] rfl rfl rfl ⟨⟨rfl,rfl⟩,⟨rfl,rfl⟩,⟨rfl,rfl⟩,⟨rfl,rfl⟩,⟨rfl,rfl⟩,⟨rfl,rfl⟩,⟨rfl,rfl⟩,⟨rfl,rfl⟩,⟨rfl,rfl⟩,⟨rfl,rfl⟩,trivial⟩ ⟨⟨rfl,rfl⟩,qh rfl,pI rfl,qg rfl,jE rfl,sr5 rfl,⟨rfl,rfl⟩,qh rfl,pI rfl,qg rfl,jE rfl,⟨rfl,rfl⟩,trivial⟩⟩
 refine Vc.cut (α:=Unit) 100 (fun _=>True) (fun _=>[(16,i64 ((((iO B 1).2+1*s.f1.length):Nat):Int)),(15, .c (.sc (.bool w))),(14, .c (.px 12 0)),(11, .c (.sc (.bool w))),(10, .c (.px 1 0)),(4, .c (.px 0 0)),(1, .c (.sc (.string s.f0))),(2,im 5 s.f1),(3, .c (.sc (.int .i64 s.f2)))]) (fun _=>[(12, .bx eG [.sc (.int .i64 R.v), .hd 13, .hd 14, .hd 15, .hd 16]),(13, .row 13 9 R.t.f0),(14, .row 14 eN R.t.f1),(15, .row 15 eS R.t.f2),(16, .row 16 eK R.k),(1, .bx eG [.sc (.int .i64 R.v), .hd 2, .hd 3, .hd 4, .hd 5]),(2, .row 2 9 R.t.f0),(3, .row 3 eN R.t.f1),(4, .row 4 eS R.t.f2),(5, .row 5 eK R.k),(0,AU a)]) hT ?_ (fun _ _=>?_)
 ·conv=>whnf
  refine ay.wr [[NW.wr 5 (jy 1 fB (iO B 1).2 s.f1.length)],[NW.rd]] (.c (.sc (.int .i64 ((((iO B 1).2+1*s.f1.length):Nat):Int)))) ?_
  conv=>whnf
  refine jG.mk hml ?_
  conv=>whnf
  exact jX.mk ⟨(),trivial,aC [(12,12),(13,13),(14,14),(15,15),(16,16),(1,1),(2,2),(3,3),(4,4),(5,5),(0,0)] rfl rfl rfl ⟨⟨rfl,rfl⟩,⟨rfl,rfl⟩,⟨rfl,rfl⟩,⟨rfl,rfl⟩,⟨rfl,rfl⟩,⟨rfl,rfl⟩,⟨rfl,rfl⟩,⟨rfl,rfl⟩,⟨rfl,rfl⟩,trivial⟩ ⟨⟨rfl,rfl⟩,qh rfl,pI rfl,qg rfl,jE rfl,⟨rfl,rfl⟩,qh rfl,pI rfl,qg rfl,jE rfl,⟨rfl,rfl⟩,trivial⟩⟩
 refine Vc.seq 60 hT ?_
 conv=>whnf
 refine Split.mk (fun c1=>Ag c1) (fun c1=>?_)
 clear c1
 conv=>whnf
 refine ay.mk _ heR ?_
 conv=>whnf
 refine Split.mk (fun c1=>(iL (bI c1) rfl).elim) (fun c1=>?_)
 clear c1
 conv=>whnf
 refine Need.mk (by kernel_rfl) ?_
 conv=>whnf
 refine Split.mk (fun c1=>(Yf c1 rfl).elim) (fun c1=>?_)
 clear c1
 conv=>whnf
 refine Vc.seq 100 hT ?_
 conv=>whnf
 refine Vc.cut (α:=Unit) 100 (fun _=>True) (fun _=>[(17,i64 (((iO R 1).2:Nat):Int)),(14, .c (.px 12 0)),(11, .c (.sc (.bool w))),(10, .c (.px 1 0)),(4, .c (.px 0 0)),(1, .c (.sc (.string s.f0))),(2,im 5 s.f1),(3, .c (.sc (.int .i64 s.f2)))]) (fun _=>[(12, .bx eG [.sc (.int .i64 (iO R 1).1.v), .hd 13, .hd 14, .hd 15, .hd 16]),(13, .row 13 9 ((iO R 1).1.t.f0)),(14, .row 14 eN ((iO R 1).1.t.f1)),(15, .row 15 eS ((iO R 1).1.t.f2)),(16, .row 16 eK ((iO R 1).1.k)),(1, .bx eG [.sc (.int .i64 R.v), .hd 2, .hd 3, .hd 4, .hd 5]),(2, .row 2 9 R.t.f0),(3, .row 3 eN R.t.f1),(4, .row 4 eS R.t.f2),(5, .row 5 eK R.k),(0,AU a)]) hT ?_ (fun _ _=>?_)
 ·conv=>whnf
  refine ay.wr [[NW.rd,NW.wr 9 (iO R 1).1.t.f0,NW.wr eN (iO R 1).1.t.f1,NW.wr eS (iO R 1).1.t.f2,NW.wr eK (iO R 1).1.k],[NW.rd]] (.c (.sc (.int .i64 (((iO R 1).2:Nat):Int)))) ?_
  conv=>whnf
  refine jG.mk hmR ?_
  conv=>whnf
  exact jX.mk ⟨(),trivial,aC [(12,12),(13,13),(14,14),(15,15),(16,16),(1,1),(2,2),(3,3),(4,4),(5,5),(0,0)] rfl rfl rfl ⟨⟨rfl,rfl⟩,⟨rfl,rfl⟩,⟨rfl,rfl⟩,⟨rfl,rfl⟩,⟨rfl,rfl⟩,⟨rfl,rfl⟩,⟨rfl,rfl⟩,⟨rfl,rfl⟩,trivial⟩ ⟨⟨rfl,rfl⟩,qh rfl,pI rfl,qg rfl,jE rfl,⟨rfl,rfl⟩,qh rfl,pI rfl,qg rfl,jE rfl,⟨rfl,rfl⟩,trivial⟩⟩
 refine Vc.seq 60 hT ?_
 conv=>whnf
 refine Vc.seq 60 hT ?_
 conv=>whnf
 refine ay.mk (.c (.sc (.int .i64 (((iO R 1).2:Nat):Int)))) hhR ?_
 conv=>whnf
 refine Vc.seq 60 hT ?_
 conv=>whnf
 refine Split.mk (fun c1=>Ag c1) (fun c1=>?_)
 clear c1
 conv=>whnf
 refine Vc.seq 60 hT ?_
 conv=>whnf
 refine Split.mk (fun c1=>(uY c1 rfl).elim) (fun c1=>?_)
 clear c1
 conv=>whnf
 refine Vc.cut (α:=Unit) 60 (fun _=>True) (fun _=>[(20, .c (.sc (.bool w))),(19, .c (.px 17 0)),(17,i64 (((iO R 1).2:Nat):Int)),(14, .c (.px 12 0)),(11, .c (.sc (.bool w))),(10, .c (.px 1 0)),(4, .c (.px 0 0)),(1, .c (.sc (.string s.f0))),(2,im 5 s.f1),(3, .c (.sc (.int .i64 s.f2)))]) (fun _=>[(17, .bx eG [.sc (.int .i64 R.v), .hd 18, .hd 19, .hd 20, .hd 21]),(18, .row 18 9 R.t.f0),(19, .row 19 eN R.t.f1),(20, .row 20 eS R.t.f2),(21, .row 21 eK R.k),(12, .bx eG [.sc (.int .i64 (iO R 1).1.v), .hd 13, .hd 14, .hd 15, .hd 16]),(13, .row 13 9 ((iO R 1).1.t.f0)),(14, .row 14 eN ((iO R 1).1.t.f1)),(15, .row 15 eS ((iO R 1).1.t.f2)),(16, .row 16 eK ((iO R 1).1.k)),(1, .bx eG [.sc (.int .i64 R.v), .hd 2, .hd 3, .hd 4, .hd 5]),(2, .row 2 9 R.t.f0),(3, .row 3 eN R.t.f1),(4, .row 4 eS R.t.f2),(5, .row 5 eK R.k),(0,AU a)]) hT ?_ (fun _ _=>?_)
 ·conv=>whnf
  refine ay.mk _ hto ?_
  conv=>whnf
  refine ay.mk _ htl ?_
  conv=>whnf
  refine ay.mk _ him ?_
  conv=>whnf
  exact jX.mk ⟨(),trivial,aC [(17,72),(18,67),(19,68),(20,69),(21,70),(12,12),(13,13),(14,14),(15,15),(16,16),(1,1),(2,2),(3,3),(4,4),(5,5),(0,0)] rfl rfl rfl ⟨⟨rfl,rfl⟩,⟨rfl,rfl⟩,⟨rfl,rfl⟩,⟨rfl,rfl⟩,⟨rfl,rfl⟩,⟨rfl,rfl⟩,⟨rfl,rfl⟩,⟨rfl,rfl⟩,⟨rfl,rfl⟩,⟨rfl,rfl⟩,trivial⟩ ⟨⟨rfl,rfl⟩,qh rfl,pI rfl,qg rfl,jE rfl,⟨rfl,rfl⟩,qh rfl,pI rfl,qg rfl,jE rfl,⟨rfl,rfl⟩,qh rfl,pI rfl,qg rfl,jE rfl,⟨rfl,rfl⟩,trivial⟩⟩
 refine Vc.seq 60 hT ?_
 conv=>whnf
 refine ay.mk _ heR ?_
 conv=>whnf
 refine Split.mk (fun c1=>(iL (bI c1) rfl).elim) (fun c1=>?_)
 clear c1
 conv=>whnf
 refine Need.mk (by kernel_rfl) ?_
 conv=>whnf
 refine Split.mk (fun c1=>(Yf c1 rfl).elim) (fun c1=>?_)
 clear c1
 conv=>whnf
 refine Vc.seq 60 hT ?_
 conv=>whnf
 refine Vc.seq 60 hT ?_
 conv=>whnf
 refine ay.mk (.c (.sc (.int .i64 (((iO R 1).2:Nat):Int)))) hhR ?_
 conv=>whnf
 refine Vc.seq 60 hT ?_
 conv=>whnf
 refine Split.mk (fun c1=>Ag c1) (fun c1=>?_)
 clear c1
 conv=>whnf
 refine Vc.seq 60 hT ?_
 conv=>whnf
 refine Split.mk (fun c1=>(uY c1 rfl).elim) (fun c1=>?_)
 clear c1
 conv=>whnf
 refine Vc.of 60 hT ?_
 conv=>whnf
 exact aA.mk ⟨rfl,rfl⟩ ⟨rfl,rfl⟩ ⟨rfl,trivial⟩
end Go.Proofs.YtcnfgfomholheaaGreatDoor.Q
end
